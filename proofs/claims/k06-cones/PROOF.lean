import PyProof.Rows.All
import Wide.All
import OpenK.AllK
import Wide.FinOn
import HandS.ForMost
import HandS.Wide
import HandS.WideBits
import HandS.Gcd
import HandS.Walk
import HandS.Deep
import HandS.Flow
import PySem.Challenge.RW_floodmark_k06_whole_cones_and_their_dual
import HandS.Lambda
import HandS.EndTab
import KE.SortData
import KE.KSortKey
import HandS.Sort
import HandS.Rev
import HandS.RevTup
import PyProof.ListNew
import HandS.LawCells
import KE.KNestM
set_option Elab.async false
set_option linter.all false
/-! Vectors of integers: dot, comb, gcd, prim. Plain Lean. -/
namespace Fm

abbrev Vec (n : Nat) := Fin n → Int

def sumF : (n : Nat) → (Fin n → Int) → Int
  | 0, _ => 0
  | n + 1, f => f 0 + sumF n (fun i => f i.succ)

def dot {n : Nat} (a b : Vec n) : Int := sumF n (fun i => a i * b i)
def comb {n : Nat} (x : Int) (v : Vec n) (y : Int) (w : Vec n) : Vec n := fun i => x * v i + y * w i
def neg {n : Nat} (v : Vec n) : Vec n := fun i => - v i
def smul {n : Nat} (x : Int) (v : Vec n) : Vec n := fun i => x * v i
def zero {n : Nat} : Vec n := fun _ => 0

theorem sumF_add : ∀ (n : Nat) (f g : Fin n → Int), sumF n (fun i => f i + g i) = sumF n f + sumF n g
  | 0, _, _ => by simp [sumF]
  | n + 1, f, g => by
    simp only [sumF]
    rw [sumF_add n (fun i => f i.succ) (fun i => g i.succ)]
    omega
theorem sumF_mul : ∀ (n : Nat) (x : Int) (f : Fin n → Int), sumF n (fun i => x * f i) = x * sumF n f
  | 0, _, _ => by simp [sumF]
  | n + 1, x, f => by
    simp only [sumF]
    rw [sumF_mul n x (fun i => f i.succ), Int.mul_add]
theorem sumF_zero : ∀ (n : Nat), sumF n (fun _ => 0) = 0
  | 0 => rfl
  | n + 1 => by simp only [sumF]; rw [sumF_zero n]; rfl
theorem sumF_congr {n : Nat} {f g : Fin n → Int} (h : ∀ i, f i = g i) : sumF n f = sumF n g := by
  have : f = g := funext h
  rw [this]
theorem sumF_single : ∀ (n : Nat) (f : Fin n → Int) (j : Fin n), (∀ i, i ≠ j → f i = 0) → sumF n f = f j
  | 0, _, j, _ => j.elim0
  | n + 1, f, j, h => by
    simp only [sumF]
    by_cases hj : j = 0
    · subst hj
      have : sumF n (fun i => f i.succ) = 0 := by
        rw [sumF_congr (g := fun _ => 0) (fun i => h i.succ (Fin.succ_ne_zero i)), sumF_zero]
      omega
    · obtain ⟨k, rfl⟩ : ∃ k : Fin n, j = k.succ := ⟨j.pred hj, by simp⟩
      have h0 : f 0 = 0 := h 0 (fun e => hj e.symm)
      rw [h0, sumF_single n (fun i => f i.succ) k (fun i hi => h i.succ (fun e => hi (Fin.succ_inj.mp e)))]
      omega

section
variable {n : Nat}
theorem dot_comb (c v w : Vec n) (x y : Int) : dot c (comb x v y w) = x * dot c v + y * dot c w := by
  unfold dot comb
  rw [← sumF_mul, ← sumF_mul, ← sumF_add]
  exact sumF_congr fun i => by grind
theorem dot_comm (a b : Vec n) : dot a b = dot b a := by
  unfold dot
  exact sumF_congr fun i => Int.mul_comm _ _
theorem dot_comb_left (v w c : Vec n) (x y : Int) : dot (comb x v y w) c = x * dot v c + y * dot w c := by
  rw [dot_comm, dot_comb, dot_comm c v, dot_comm c w]
theorem dot_smul (c v : Vec n) (x : Int) : dot c (smul x v) = x * dot c v := by
  unfold dot smul
  rw [← sumF_mul]
  exact sumF_congr fun i => by grind
theorem dot_neg (c v : Vec n) : dot c (neg v) = - dot c v := by
  have : neg v = smul (-1) v := by
    funext i; simp only [neg, smul]; omega
  rw [this, dot_smul]; omega
theorem dot_zero (c : Vec n) : dot c zero = 0 := by
  unfold dot zero
  rw [sumF_congr (g := fun _ => 0) (fun i => by simp), sumF_zero]
theorem dot_zero_left (c : Vec n) : dot zero c = 0 := by rw [dot_comm]; exact dot_zero c
theorem comb_neg_zero (v : Vec n) : comb 1 v (-1) v = zero := by
  funext i; simp only [comb, zero]; omega
/-- unit vectors -/
def unit (j : Fin n) : Vec n := fun i => if i = j then 1 else 0
theorem dot_unit (j : Fin n) (v : Vec n) : dot (unit j) v = v j := by
  unfold dot
  rw [sumF_single n _ j]
  · simp [unit]
  · intro i hi; simp [unit, hi]

/-! ### gcd, prim -/
def gcdL (l : List Int) : Nat := l.foldl (fun d x => Nat.gcd d x.natAbs) 0
def gcdV (v : Vec n) : Nat := gcdL (List.ofFn v)

theorem gcdF_dvd : ∀ (l : List Int) (d : Nat), l.foldl (fun d x => Nat.gcd d x.natAbs) d ∣ d ∧ ∀ x ∈ l, l.foldl (fun d x => Nat.gcd d x.natAbs) d ∣ x.natAbs
  | [], d => ⟨Nat.dvd_refl _, by simp⟩
  | y :: l, d => by
    obtain ⟨h1, h2⟩ := gcdF_dvd l (Nat.gcd d y.natAbs)
    simp only [List.foldl_cons]
    refine ⟨Nat.dvd_trans h1 (Nat.gcd_dvd_left _ _), ?_⟩
    intro x hx
    rcases List.mem_cons.mp hx with rfl | hx
    · exact Nat.dvd_trans h1 (Nat.gcd_dvd_right _ _)
    · exact h2 x hx
theorem gcdF_great : ∀ (l : List Int) (d k : Nat), k ∣ d → (∀ x ∈ l, k ∣ x.natAbs) → k ∣ l.foldl (fun d x => Nat.gcd d x.natAbs) d
  | [], d, k, h, _ => h
  | y :: l, d, k, h, hl => by
    simp only [List.foldl_cons]
    exact gcdF_great l _ k (Nat.dvd_gcd h (hl y List.mem_cons_self)) fun x hx => hl x (List.mem_cons_of_mem _ hx)
theorem gcdV_dvd (v : Vec n) (i : Fin n) : gcdV v ∣ (v i).natAbs := by
  refine (gcdF_dvd (List.ofFn v) 0).2 _ ?_
  rw [List.mem_ofFn]
  exact ⟨i, rfl⟩
theorem gcdV_great (v : Vec n) (k : Nat) (h : ∀ i, k ∣ (v i).natAbs) : k ∣ gcdV v := by
  refine gcdF_great (List.ofFn v) 0 k (Nat.dvd_zero _) fun x hx => ?_
  obtain ⟨i, rfl⟩ := List.mem_ofFn.mp hx
  exact h i
theorem gcdV_eq_zero {v : Vec n} (h : gcdV v = 0) : v = zero := by
  funext i
  have := gcdV_dvd v i
  rw [h] at this
  have := Nat.eq_zero_of_zero_dvd this
  show v i = 0
  omega
theorem gcdV_pos {v : Vec n} (h : v ≠ zero) : 0 < gcdV v := by
  rcases Nat.eq_zero_or_pos (gcdV v) with e | e
  · exact absurd (gcdV_eq_zero e) h
  · exact e
theorem gcdV_dvd_int (v : Vec n) (i : Fin n) : (gcdV v : Int) ∣ v i := by
  rw [Int.ofNat_dvd_left]
  exact gcdV_dvd v i

def prim (v : Vec n) : Vec n := if gcdV v ≤ 1 then v else fun i => v i / (gcdV v : Int)
/-- the divisor that prim uses, at least 1 -/
def primG (v : Vec n) : Int := if gcdV v ≤ 1 then 1 else (gcdV v : Int)
theorem primG_pos (v : Vec n) : 0 < primG v := by
  unfold primG
  split <;> omega
theorem prim_eq (v : Vec n) (i : Fin n) : v i = primG v * prim v i := by
  unfold primG prim
  split
  · omega
  · exact (Int.mul_ediv_cancel' (gcdV_dvd_int v i)).symm
theorem prim_smul (v : Vec n) : v = smul (primG v) (prim v) := funext fun i => prim_eq v i
theorem dot_prim (c v : Vec n) : dot c v = primG v * dot c (prim v) := by
  conv => lhs; rw [prim_smul v]
  rw [dot_smul]
theorem prim_zero_iff (v : Vec n) (i : Fin n) : prim v i = 0 ↔ v i = 0 := by
  have h := prim_eq v i
  have hp := primG_pos v
  constructor
  · intro e; rw [h, e]; simp
  · intro e
    rw [e] at h
    rcases Int.mul_eq_zero.mp h.symm with z | z
    · omega
    · exact z
def Prim (v : Vec n) : Prop := gcdV v = 1
theorem prim_Prim {v : Vec n} (h : v ≠ zero) : Prim (prim v) := by
  have hg := gcdV_pos h
  by_cases h1 : gcdV v ≤ 1
  · unfold Prim prim
    rw [if_pos h1]
    omega
  · have e1 : primG v = (gcdV v : Int) := by unfold primG; rw [if_neg h1]
    have hd : gcdV v * gcdV (prim v) ∣ gcdV v := by
      refine gcdV_great v _ fun i => ?_
      have e2 := prim_eq v i
      rw [e1] at e2
      rw [e2, Int.natAbs_mul]
      exact Nat.mul_dvd_mul (by simp) (gcdV_dvd _ i)
    have hd2 : gcdV v * gcdV (prim v) ≤ gcdV v := Nat.le_of_dvd hg hd
    have hne : prim v ≠ zero := by
      intro e
      apply h
      funext i
      exact (prim_zero_iff v i).mp (congrFun e i)
    have hp := gcdV_pos hne
    show gcdV (prim v) = 1
    have : gcdV (prim v) ≤ 1 := by
      refine Nat.le_of_mul_le_mul_left (c := gcdV v) ?_ hg
      omega
    omega
theorem Prim.ne {v : Vec n} (h : Prim v) : v ≠ zero := by
  intro e
  have : gcdV v = 0 := by
    have : (0 : Nat) ∣ gcdV v := gcdV_great v 0 (fun i => by rw [e]; simp [zero])
    exact Nat.eq_zero_of_zero_dvd this
  unfold Prim at h
  omega
theorem prim_of_Prim {v : Vec n} (h : Prim v) : prim v = v := by
  unfold Prim at h
  unfold prim
  rw [if_pos (by omega)]
theorem prim_zero : prim (zero : Vec n) = zero := by
  funext i
  exact (prim_zero_iff _ i).mpr rfl
/-- what divides all y * v i divides y -/
theorem Prim.dvd {v : Vec n} (h : Prim v) {y d : Nat} (hd : ∀ i, d ∣ y * (v i).natAbs) : d ∣ y := by
  have key : ∀ (l : List Int) (k : Nat), l.foldl (fun d x => Nat.gcd d (y * x.natAbs)) (y * k) = y * l.foldl (fun d x => Nat.gcd d x.natAbs) k := by
    intro l
    induction l with
    | nil => intro k; rfl
    | cons a l ih =>
      intro k
      simp only [List.foldl_cons]
      rw [Nat.gcd_mul_left, ih]
  have great : ∀ (l : List Int) (e : Nat), d ∣ e → (∀ x ∈ l, d ∣ y * x.natAbs) → d ∣ l.foldl (fun d x => Nat.gcd d (y * x.natAbs)) e := by
    intro l
    induction l with
    | nil => intro e he _; exact he
    | cons a l ih =>
      intro e he hl
      simp only [List.foldl_cons]
      exact ih _ (Nat.dvd_gcd he (hl a List.mem_cons_self)) fun x hx => hl x (List.mem_cons_of_mem _ hx)
  have h1 := great (List.ofFn v) (y * 0) (by simp) (fun x hx => by
    obtain ⟨i, rfl⟩ := List.mem_ofFn.mp hx
    exact hd i)
  rw [key] at h1
  have h2 : (List.ofFn v).foldl (fun d x => Nat.gcd d x.natAbs) 0 = 1 := h
  rw [h2] at h1
  simpa using h1
theorem Prim.unique {u v : Vec n} (hu : Prim u) (hv : Prim v) {x y : Int} (hx : 0 < x) (hy : 0 < y) (h : ∀ i, x * u i = y * v i) : u = v := by
  have d1 : x.natAbs ∣ y.natAbs := hv.dvd fun i => by
    have := congrArg Int.natAbs (h i)
    rw [Int.natAbs_mul, Int.natAbs_mul] at this
    exact ⟨_, this.symm⟩
  have d2 : y.natAbs ∣ x.natAbs := hu.dvd fun i => by
    have := congrArg Int.natAbs (h i)
    rw [Int.natAbs_mul, Int.natAbs_mul] at this
    exact ⟨_, this⟩
  have e := Nat.dvd_antisymm d1 d2
  have e2 : x = y := by omega
  funext i
  have := h i
  rw [e2] at this
  exact Int.eq_of_mul_eq_mul_left (by omega) this
/-- a vector parallel to a primitive one is a whole multiple of it -/
theorem Prim.le {v w : Vec n} (hv : Prim v) {x y : Int} (hx : x ≠ 0) (hw : ∃ i, w i ≠ 0) (h : ∀ i, x * w i = y * v i) (i : Fin n) : (v i).natAbs ≤ (w i).natAbs := by
  have d1 : x.natAbs ∣ y.natAbs := hv.dvd fun i => by
    have := congrArg Int.natAbs (h i)
    rw [Int.natAbs_mul, Int.natAbs_mul] at this
    exact ⟨_, this.symm⟩
  obtain ⟨c, hc⟩ := d1
  have hx' : 0 < x.natAbs := by omega
  have key : ∀ i, (w i).natAbs = c * (v i).natAbs := fun i => by
    have := congrArg Int.natAbs (h i)
    rw [Int.natAbs_mul, Int.natAbs_mul, hc, Nat.mul_assoc] at this
    exact Nat.eq_of_mul_eq_mul_left hx' this
  obtain ⟨j, hj⟩ := hw
  have c0 : 0 < c := by
    rcases Nat.eq_zero_or_pos c with e | e
    · have := key j
      rw [e] at this
      simp at this
      exact absurd this hj
    · exact e
  rw [key i]
  exact Nat.le_mul_of_pos_left _ c0
end
end Fm
/-! The double description step: zero sets of rays. Plain Lean. -/
namespace Fm
variable {n : Nat}

/-- a constraint: its vector, and whether it is an equation -/
abbrev Con (n : Nat) := Vec n × Bool
def sat (A : List (Con n)) (v : Vec n) : Prop := ∀ p ∈ A, 0 ≤ dot p.1 v ∧ (p.2 = true → dot p.1 v = 0)
def lin (A : List (Con n)) (v : Vec n) : Prop := ∀ p ∈ A, dot p.1 v = 0
def Zle (A : List (Con n)) (u v : Vec n) : Prop := ∀ p ∈ A, dot p.1 u = 0 → dot p.1 v = 0

theorem Zle.refl (A : List (Con n)) (u : Vec n) : Zle A u u := fun _ _ h => h
theorem Zle.trans {A : List (Con n)} {u v w : Vec n} (h : Zle A u v) (h' : Zle A v w) : Zle A u w := fun p hp e => h' p hp (h p hp e)
theorem lin_comb {A : List (Con n)} {u v : Vec n} (x y : Int) (hu : lin A u) (hv : lin A v) : lin A (comb x u y v) := fun p hp => by
  rw [dot_comb, hu p hp, hv p hp]; simp
theorem lin.sat {A : List (Con n)} {u : Vec n} (hu : lin A u) : sat A u := fun p hp => ⟨by rw [hu p hp]; exact Int.le_refl _, fun _ => hu p hp⟩
theorem lin_zero (A : List (Con n)) : lin A zero := fun p _ => dot_zero p.1
theorem sat_comb {A : List (Con n)} {u v : Vec n} {x y : Int} (hx : 0 ≤ x) (hy : 0 ≤ y) (hu : sat A u) (hv : sat A v) : sat A (comb x u y v) := fun p hp => by
  rw [dot_comb]
  refine ⟨?_, fun e => ?_⟩
  · have h1 := Int.mul_nonneg hx (hu p hp).1
    have h2 := Int.mul_nonneg hy (hv p hp).1
    omega
  · rw [(hu p hp).2 e, (hv p hp).2 e]; simp
theorem sat_lin_neg {A : List (Con n)} {u : Vec n} : lin A u ↔ sat A u ∧ sat A (neg u) := by
  constructor
  · intro h
    refine ⟨h.sat, fun p hp => ?_⟩
    rw [dot_neg, h p hp]
    exact ⟨by omega, fun _ => by omega⟩
  · rintro ⟨h1, h2⟩ p hp
    have a := (h1 p hp).1
    have b := (h2 p hp).1
    rw [dot_neg] at b
    omega
theorem dot_prim_zero (c w : Vec n) : dot c (prim w) = 0 ↔ dot c w = 0 := by
  rw [dot_prim c w]
  have := primG_pos w
  constructor
  · intro e; rw [e]; simp
  · intro e
    rcases Int.mul_eq_zero.mp e with z | z
    · omega
    · exact z
theorem dot_prim_pos (c w : Vec n) : 0 < dot c (prim w) ↔ 0 < dot c w := by
  rw [dot_prim c w]
  have hp := primG_pos w
  constructor
  · intro e; exact Int.mul_pos hp e
  · intro e
    exact Int.pos_of_mul_pos_right e (by omega) |> fun h => by
      first
        | exact h
        | omega
theorem dot_prim_nonneg (c w : Vec n) : 0 ≤ dot c (prim w) ↔ 0 ≤ dot c w := by
  rw [dot_prim c w]
  have hp := primG_pos w
  constructor
  · intro e; exact Int.mul_nonneg (by omega) e
  · intro e
    exact Int.nonneg_of_mul_nonneg_right e hp
theorem sat_prim {A : List (Con n)} {w : Vec n} : sat A (prim w) ↔ sat A w := by
  constructor
  · intro h p hp
    exact ⟨(dot_prim_nonneg _ _).mp (h p hp).1, fun e => (dot_prim_zero _ _).mp ((h p hp).2 e)⟩
  · intro h p hp
    exact ⟨(dot_prim_nonneg _ _).mpr (h p hp).1, fun e => (dot_prim_zero _ _).mpr ((h p hp).2 e)⟩
theorem lin_prim {A : List (Con n)} {w : Vec n} : lin A (prim w) ↔ lin A w := by
  constructor
  · intro h p hp; exact (dot_prim_zero _ _).mp (h p hp)
  · intro h p hp; exact (dot_prim_zero _ _).mpr (h p hp)
theorem Zle_prim_right {A : List (Con n)} {u w : Vec n} : Zle A u (prim w) ↔ Zle A u w := by
  constructor
  · intro h p hp e; exact (dot_prim_zero _ _).mp (h p hp e)
  · intro h p hp e; exact (dot_prim_zero _ _).mpr (h p hp e)
theorem Zle_prim_left {A : List (Con n)} {u w : Vec n} : Zle A (prim u) w ↔ Zle A u w := by
  constructor
  · intro h p hp e; exact h p hp ((dot_prim_zero _ _).mpr e)
  · intro h p hp e; exact h p hp ((dot_prim_zero _ _).mp e)

/-! ### the measure -/
def cnt (A : List (Con n)) (v : Vec n) : Nat := A.countP (fun p => decide (dot p.1 v ≠ 0))
theorem cnt_le : ∀ {A : List (Con n)} {u v : Vec n}, Zle A v u → cnt A u ≤ cnt A v := by
  intro A u v h
  unfold cnt
  refine List.countP_mono_left fun p hp e => ?_
  simp only [decide_eq_true_eq] at e ⊢
  exact fun z => e (h p hp z)
theorem cnt_lt : ∀ {A : List (Con n)} {u v : Vec n}, Zle A v u → (∃ p ∈ A, dot p.1 u = 0 ∧ dot p.1 v ≠ 0) → cnt A u < cnt A v
  | [], _, _, _, h => by obtain ⟨p, hp, _⟩ := h; cases hp
  | q :: A, u, v, h, hx => by
    have hA : Zle A v u := fun p hp e => h p (List.mem_cons_of_mem _ hp) e
    unfold cnt
    rw [List.countP_cons, List.countP_cons]
    by_cases hq : dot q.1 u = 0 ∧ dot q.1 v ≠ 0
    · have h1 := cnt_le hA
      unfold cnt at h1
      simp [hq.1, hq.2]
      simp at h1
      omega
    · have hx' : ∃ p ∈ A, dot p.1 u = 0 ∧ dot p.1 v ≠ 0 := by
        obtain ⟨p, hp, e⟩ := hx
        rcases List.mem_cons.mp hp with rfl | hp
        · exact absurd e hq
        · exact ⟨p, hp, e⟩
      have ih := cnt_lt hA hx'
      unfold cnt at ih
      have h2 : (if decide (dot q.1 u ≠ 0) = true then 1 else 0) ≤ (if decide (dot q.1 v ≠ 0) = true then 1 else 0) := by
        by_cases z : dot q.1 v = 0
        · have := h q List.mem_cons_self z
          simp [z, this]
        · simp [z]; split <;> omega
      omega

/-! ### the largest multiple that may be taken away -/
theorem ratio_trans {a b c d e f : Int} (hb : 0 < b) (hd : 0 < d) (hf : 0 < f) (h1 : a * d ≤ c * b) (h2 : c * f ≤ e * d) : a * f ≤ e * b := by
  have k1 : a * d * f ≤ c * b * f := Int.mul_le_mul_of_nonneg_right h1 (by omega)
  have k2 : c * f * b ≤ e * d * b := Int.mul_le_mul_of_nonneg_right h2 (by omega)
  have k3 : d * (a * f) ≤ d * (e * b) := by
    have e1 : d * (a * f) = a * d * f := by grind
    have e2 : d * (e * b) = e * d * b := by grind
    have e3 : c * b * f = c * f * b := by grind
    rw [e1, e2]; omega
  exact Int.le_of_mul_le_mul_left k3 hd
theorem exists_min (f g : Con n → Int) : ∀ (A : List (Con n)), (∃ p ∈ A, 0 < g p) → ∃ p ∈ A, 0 < g p ∧ ∀ q ∈ A, 0 < g q → f p * g q ≤ f q * g p
  | [], h => by obtain ⟨p, hp, _⟩ := h; cases hp
  | a :: A, h => by
    by_cases hA : ∃ p ∈ A, 0 < g p
    · obtain ⟨p, hp, h1, h2⟩ := exists_min f g A hA
      by_cases ha : 0 < g a
      · by_cases hc : f p * g a ≤ f a * g p
        · refine ⟨p, List.mem_cons_of_mem _ hp, h1, fun q hq hgq => ?_⟩
          rcases List.mem_cons.mp hq with rfl | hq
          · exact hc
          · exact h2 q hq hgq
        · refine ⟨a, List.mem_cons_self, ha, fun q hq hgq => ?_⟩
          rcases List.mem_cons.mp hq with rfl | hq
          · exact Int.le_refl _
          · exact ratio_trans ha h1 hgq (by omega) (h2 q hq hgq)
      · refine ⟨p, List.mem_cons_of_mem _ hp, h1, fun q hq hgq => ?_⟩
        rcases List.mem_cons.mp hq with rfl | hq
        · exact absurd hgq ha
        · exact h2 q hq hgq
    · obtain ⟨p, hp, h1⟩ := h
      rcases List.mem_cons.mp hp with rfl | hp
      · refine ⟨p, List.mem_cons_self, h1, fun q hq hgq => ?_⟩
        rcases List.mem_cons.mp hq with rfl | hq
        · exact Int.le_refl _
        · exact absurd ⟨q, hq, hgq⟩ hA
      · exact absurd ⟨p, hp, h1⟩ hA
theorem sub_max {A : List (Con n)} {v r : Vec n} (hv : sat A v) (hr : sat A r) (hz : Zle A v r) (hn : ¬ lin A r) :
    ∃ m t : Int, 0 < m ∧ 0 < t ∧ sat A (comb m v (-t) r) ∧ Zle A v (comb m v (-t) r) ∧ ∃ p ∈ A, dot p.1 (comb m v (-t) r) = 0 ∧ dot p.1 v ≠ 0 := by
  have hx : ∃ p ∈ A, 0 < dot p.1 r := by
    refine Classical.byContradiction fun h => hn fun p hp => ?_
    have h1 := (hr p hp).1
    have h2 : ¬ 0 < dot p.1 r := fun z => h ⟨p, hp, z⟩
    omega
  obtain ⟨p, hp, h1, h2⟩ := exists_min (fun p => dot p.1 v) (fun p => dot p.1 r) A hx
  have hpv : dot p.1 v ≠ 0 := fun z => by
    have := hz p hp z
    omega
  have hpv0 := (hv p hp).1
  refine ⟨dot p.1 r, dot p.1 v, h1, by omega, fun q hq => ?_, fun q hq e => ?_, p, hp, ?_, hpv⟩
  · rw [dot_comb]
    refine ⟨?_, fun e => ?_⟩
    · by_cases hqr : 0 < dot q.1 r
      · have := h2 q hq hqr
        have e1 : dot p.1 r * dot q.1 v = dot q.1 v * dot p.1 r := Int.mul_comm _ _
        have e2 : -dot p.1 v * dot q.1 r = -(dot p.1 v * dot q.1 r) := Int.neg_mul _ _
        omega
      · have h0 : dot q.1 r = 0 := by
          have := (hr q hq).1
          omega
        rw [h0]
        have := Int.mul_nonneg (Int.le_of_lt h1) (hv q hq).1
        simp
        exact this
    · rw [(hv q hq).2 e, (hr q hq).2 e]; simp
  · rw [dot_comb, e, hz q hq e]; simp
  · rw [dot_comb, Int.mul_comm, Int.neg_mul]; omega

/-! ### the rays of a cone -/
structure RInv (A : List (Con n)) (R : List (Vec n)) : Prop where
  sat_ : ∀ r ∈ R, sat A r
  nlin : ∀ r ∈ R, ¬ lin A r
  cov : ∀ v, sat A v → ¬ lin A v → ∃ r ∈ R, Zle A v r
  anti : R.Pairwise (fun r s => ¬ Zle A r s ∧ ¬ Zle A s r)

theorem pairwise_all {α : Type} {S : α → α → Prop} (hs : ∀ a b, S a b → S b a) : ∀ {l : List α}, l.Pairwise S → ∀ a ∈ l, ∀ b ∈ l, a ≠ b → S a b
  | [], _, a, ha, _, _, _ => by cases ha
  | x :: l, h, a, ha, b, hb, hne => by
    rw [List.pairwise_cons] at h
    rcases List.mem_cons.mp ha with rfl | ha'
    · rcases List.mem_cons.mp hb with rfl | hb'
      · exact absurd rfl hne
      · exact h.1 b hb'
    · rcases List.mem_cons.mp hb with rfl | hb'
      · exact hs _ _ (h.1 a ha')
      · exact pairwise_all hs h.2 a ha' b hb' hne
theorem RInv.ne {A : List (Con n)} {R : List (Vec n)} (h : RInv A R) {r s : Vec n} (hr : r ∈ R) (hs : s ∈ R) (z : Zle A r s) : r = s := by
  refine Classical.byContradiction fun hne => ?_
  exact (pairwise_all (S := fun r s => ¬ Zle A r s ∧ ¬ Zle A s r) (fun a b q => ⟨q.2, q.1⟩) h.anti r hr s hs hne).1 z
theorem RInv.uniq {A : List (Con n)} {R : List (Vec n)} (h : RInv A R) {r v : Vec n} (hr : r ∈ R) (hv : sat A v) (z : Zle A r v) :
    ∃ m c : Int, 0 < m ∧ 0 ≤ c ∧ lin A (comb m v (-c) r) := by
  by_cases hl : lin A v
  · refine ⟨1, 0, by omega, by omega, ?_⟩
    intro p hp
    rw [dot_comb, hl p hp]; simp
  · obtain ⟨r2, hr2, z2⟩ := h.cov v hv hl
    have e := h.ne hr hr2 (z.trans z2)
    subst e
    obtain ⟨m, t, hm, ht, h1, h2, p, hp, h3, h4⟩ := sub_max hv (h.sat_ r hr) z2 (h.nlin r hr)
    by_cases hl2 : lin A (comb m v (-t) r)
    · exact ⟨m, t, hm, by omega, hl2⟩
    · obtain ⟨r3, hr3, z3⟩ := h.cov _ h1 hl2
      have e := h.ne hr hr3 (z.trans (h2.trans z3))
      subst e
      exact absurd (z p hp (z3 p hp h3)) h4

/-! ### a row that is new -/
theorem sat_app {A : List (Con n)} {a : Vec n} {ex : Bool} {v : Vec n} : sat (A ++ [(a, ex)]) v ↔ sat A v ∧ 0 ≤ dot a v ∧ (ex = true → dot a v = 0) := by
  unfold sat
  constructor
  · intro h
    exact ⟨fun p hp => h p (List.mem_append_left _ hp), h (a, ex) (by simp)⟩
  · rintro ⟨h1, h2⟩ p hp
    rcases List.mem_append.mp hp with hp | hp
    · exact h1 p hp
    · have : p = (a, ex) := by simpa using hp
      subst this
      exact h2
theorem lin_app {A : List (Con n)} {a : Vec n} {ex : Bool} {v : Vec n} : lin (A ++ [(a, ex)]) v ↔ lin A v ∧ dot a v = 0 := by
  unfold lin
  constructor
  · intro h
    exact ⟨fun p hp => h p (List.mem_append_left _ hp), h (a, ex) (by simp)⟩
  · rintro ⟨h1, h2⟩ p hp
    rcases List.mem_append.mp hp with hp | hp
    · exact h1 p hp
    · have : p = (a, ex) := by simpa using hp
      subst this
      exact h2
theorem Zle_app {A : List (Con n)} {a : Vec n} {ex : Bool} {u v : Vec n} : Zle (A ++ [(a, ex)]) u v ↔ Zle A u v ∧ (dot a u = 0 → dot a v = 0) := by
  unfold Zle
  constructor
  · intro h
    exact ⟨fun p hp => h p (List.mem_append_left _ hp), h (a, ex) (by simp)⟩
  · rintro ⟨h1, h2⟩ p hp
    rcases List.mem_append.mp hp with hp | hp
    · exact h1 p hp
    · have : p = (a, ex) := by simpa using hp
      subst this
      exact h2

/-- a ray on the side where a is positive, with at least v's zeros -/
theorem RInv.side {A : List (Con n)} {R : List (Vec n)} (h : RInv A R) {a : Vec n} (ha : ∀ v, lin A v → dot a v = 0) :
    ∀ (k : Nat) (v : Vec n), cnt A v ≤ k → sat A v → 0 < dot a v → ∃ r ∈ R, Zle A v r ∧ 0 < dot a r := by
  intro k
  induction k with
  | zero =>
    intro v hc hv hp
    exfalso
    have : lin A v := by
      intro p hp'
      refine Classical.byContradiction fun z => ?_
      have : 0 < cnt A v := by
        unfold cnt
        exact List.countP_pos_iff.mpr ⟨p, hp', by simpa using z⟩
      omega
    have := ha v this
    omega
  | succ k ih =>
    intro v hc hv hp
    have hl : ¬ lin A v := fun z => by
      have := ha v z
      omega
    obtain ⟨r, hr, hz⟩ := h.cov v hv hl
    by_cases hpr : 0 < dot a r
    · exact ⟨r, hr, hz, hpr⟩
    · obtain ⟨m, t, hm, ht, h1, h2, h3⟩ := sub_max hv (h.sat_ r hr) hz (h.nlin r hr)
      have hlt := cnt_lt h2 h3
      have hpos : 0 < dot a (comb m v (-t) r) := by
        rw [dot_comb]
        have q1 := Int.mul_pos hm hp
        have q2 : 0 ≤ -t * dot a r := by
          have := Int.mul_nonneg (Int.le_of_lt ht) (show 0 ≤ - dot a r by omega)
          have e : -t * dot a r = t * -dot a r := by grind
          omega
        omega
      obtain ⟨r', hr', z', p'⟩ := ih _ (by omega) h1 hpos
      exact ⟨r', hr', h2.trans z', p'⟩
end Fm
/-! The double description step: a row that no line meets. Plain Lean. -/
namespace Fm
variable {n : Nat}

/-- the ray between p (a positive) and q (a negative) -/
def mid (a p q : Vec n) : Vec n := comb (dot a p) q (-(dot a q)) p
theorem dot_mid (c a p q : Vec n) : dot c (mid a p q) = dot a p * dot c q + (-(dot a q)) * dot c p := dot_comb _ _ _ _ _
theorem dot_mid_self (a p q : Vec n) : dot a (mid a p q) = 0 := by
  rw [dot_mid]; grind

section
variable {A : List (Con n)} {R : List (Vec n)} {a : Vec n} {ex : Bool}
theorem mid_sat {p q : Vec n} (hp : sat A p) (hq : sat A q) (h1 : 0 < dot a p) (h2 : dot a q < 0) : sat A (mid a p q) :=
  sat_comb (by omega) (by omega) hq hp
theorem mid_sat' {p q : Vec n} (hp : sat A p) (hq : sat A q) (h1 : 0 < dot a p) (h2 : dot a q < 0) : sat (A ++ [(a, ex)]) (mid a p q) := by
  rw [sat_app]
  exact ⟨mid_sat hp hq h1 h2, by rw [dot_mid_self]; exact Int.le_refl _, fun _ => dot_mid_self a p q⟩
/-- where the middle is 0 both are -/
theorem mid_zero {p q : Vec n} (hp : sat A p) (hq : sat A q) (h1 : 0 < dot a p) (h2 : dot a q < 0) {c : Con n} (hc : c ∈ A) (z : dot c.1 (mid a p q) = 0) : dot c.1 p = 0 ∧ dot c.1 q = 0 := by
  rw [dot_mid] at z
  have k1 := (hp c hc).1
  have k2 := (hq c hc).1
  have m1 := Int.mul_nonneg (Int.le_of_lt h1) k2
  have m2 := Int.mul_nonneg (show 0 ≤ -(dot a q) by omega) k1
  have e1 : dot a p * dot c.1 q = 0 := by omega
  have e2 : -(dot a q) * dot c.1 p = 0 := by omega
  constructor
  · rcases Int.mul_eq_zero.mp e2 with z | z
    · omega
    · exact z
  · rcases Int.mul_eq_zero.mp e1 with z | z
    · omega
    · exact z
theorem mid_zero' {p q : Vec n} {c : Vec n} (h1 : dot c p = 0) (h2 : dot c q = 0) : dot c (mid a p q) = 0 := by
  rw [dot_mid, h1, h2]; simp
theorem mid_nlin {p q : Vec n} (hp : sat A p) (hq : sat A q) (h1 : 0 < dot a p) (h2 : dot a q < 0) (hn : ¬ lin A p) : ¬ lin A (mid a p q) := fun z => hn fun c hc => (mid_zero hp hq h1 h2 hc (z c hc)).1

/-- the lists of the step -/
def kept (a : Vec n) (R : List (Vec n)) : List (Vec n) := R.filter fun r => decide (dot a r = 0)
def poss (a : Vec n) (R : List (Vec n)) : List (Vec n) := R.filter fun r => decide (0 < dot a r)
def negs (a : Vec n) (R : List (Vec n)) : List (Vec n) := R.filter fun r => decide (dot a r < 0)
def fresh (a : Vec n) (R : List (Vec n)) (nb : Vec n → Vec n → Bool) : List (Vec n) :=
  (poss a R).flatMap fun p => ((negs a R).filter fun q => nb p q).map fun q => prim (mid a p q)
def next (a : Vec n) (ex : Bool) (R : List (Vec n)) (nb : Vec n → Vec n → Bool) : List (Vec n) :=
  (kept a R ++ if ex then [] else poss a R) ++ fresh a R nb
/-- two rays are neighbours if no third one has all their common zeros -/
def NbOk (A : List (Con n)) (R : List (Vec n)) (nb : Vec n → Vec n → Bool) : Prop :=
  ∀ p ∈ R, ∀ q ∈ R, nb p q = true ↔ ∀ r ∈ R, (∀ c ∈ A, dot c.1 p = 0 → dot c.1 q = 0 → dot c.1 r = 0) → r = p ∨ r = q

theorem mem_kept {r : Vec n} : r ∈ kept a R ↔ r ∈ R ∧ dot a r = 0 := by simp [kept]
theorem mem_poss {r : Vec n} : r ∈ poss a R ↔ r ∈ R ∧ 0 < dot a r := by simp [poss]
theorem mem_negs {r : Vec n} : r ∈ negs a R ↔ r ∈ R ∧ dot a r < 0 := by simp [negs]
theorem mem_fresh {nb : Vec n → Vec n → Bool} {r : Vec n} : r ∈ fresh a R nb ↔ ∃ p ∈ R, ∃ q ∈ R, 0 < dot a p ∧ dot a q < 0 ∧ nb p q = true ∧ r = prim (mid a p q) := by
  unfold fresh
  simp only [List.mem_flatMap, List.mem_map, List.mem_filter, mem_poss, mem_negs]
  constructor
  · rintro ⟨p, ⟨h1, h2⟩, q, ⟨⟨h3, h4⟩, h5⟩, e⟩
    exact ⟨p, h1, q, h3, h2, h4, h5, e.symm⟩
  · rintro ⟨p, h1, q, h3, h2, h4, h5, e⟩
    exact ⟨p, ⟨h1, h2⟩, q, ⟨⟨h3, h4⟩, h5⟩, e.symm⟩
theorem mem_next {nb : Vec n → Vec n → Bool} {r : Vec n} : r ∈ next a ex R nb ↔ (r ∈ R ∧ dot a r = 0) ∨ (ex = false ∧ r ∈ R ∧ 0 < dot a r) ∨ r ∈ fresh a R nb := by
  unfold next
  rw [List.mem_append, List.mem_append, mem_kept]
  cases ex with
  | false => simp [mem_poss, or_assoc]
  | true => simp [or_assoc]

theorem next_sat (h : RInv A R) {nb : Vec n → Vec n → Bool} : ∀ r ∈ next a ex R nb, sat (A ++ [(a, ex)]) r := by
  intro r hr
  rcases mem_next.mp hr with ⟨h1, h2⟩ | ⟨h0, h1, h2⟩ | h1
  · rw [sat_app]
    exact ⟨h.sat_ r h1, by omega, fun _ => h2⟩
  · rw [sat_app]
    refine ⟨h.sat_ r h1, by omega, fun e => ?_⟩
    rw [h0] at e; cases e
  · obtain ⟨p, hp, q, hq, k1, k2, k3, rfl⟩ := mem_fresh.mp h1
    exact sat_prim.mpr (mid_sat' (h.sat_ p hp) (h.sat_ q hq) k1 k2)
theorem next_nlin (h : RInv A R) {nb : Vec n → Vec n → Bool} : ∀ r ∈ next a ex R nb, ¬ lin (A ++ [(a, ex)]) r := by
  intro r hr hl
  rw [lin_app] at hl
  rcases mem_next.mp hr with ⟨h1, h2⟩ | ⟨h0, h1, h2⟩ | h1
  · exact h.nlin r h1 hl.1
  · exact h.nlin r h1 hl.1
  · obtain ⟨p, hp, q, hq, k1, k2, k3, rfl⟩ := mem_fresh.mp h1
    exact mid_nlin (h.sat_ p hp) (h.sat_ q hq) k1 k2 (h.nlin p hp) (lin_prim.mp hl.1)

/-- the rays are an antichain again -/
theorem next_anti (h : RInv A R) {nb : Vec n → Vec n → Bool} (hnb : NbOk A R nb) : (next a ex R nb).Pairwise (fun r s => ¬ Zle (A ++ [(a, ex)]) r s ∧ ¬ Zle (A ++ [(a, ex)]) s r) := by
  have hR := h.anti
  have up : ∀ {r s : Vec n}, Zle (A ++ [(a, ex)]) r s → Zle A r s := fun z => (Zle_app.mp z).1
  have one : ∀ {l : List (Vec n)}, l.Pairwise (fun r s => ¬ Zle A r s ∧ ¬ Zle A s r) → l.Pairwise (fun r s => ¬ Zle (A ++ [(a, ex)]) r s ∧ ¬ Zle (A ++ [(a, ex)]) s r) := fun hl =>
    hl.imp fun q => ⟨fun z => q.1 (up z), fun z => q.2 (up z)⟩
  have bz : ∀ {p q : Vec n}, p ∈ R → q ∈ R → 0 < dot a p → dot a q < 0 → ∀ {x : Vec n}, Zle (A ++ [(a, ex)]) (prim (mid a p q)) x → ∀ c ∈ A, dot c.1 p = 0 → dot c.1 q = 0 → dot c.1 x = 0 :=
    fun {p q} hp hq h1 h2 {x} z c hc e1 e2 => (Zle_app.mp z).1 c hc ((dot_prim_zero _ _).mpr (mid_zero' e1 e2))
  have zb : ∀ {p q : Vec n}, p ∈ R → q ∈ R → 0 < dot a p → dot a q < 0 → ∀ {x : Vec n}, Zle (A ++ [(a, ex)]) x (prim (mid a p q)) → Zle A x p ∧ Zle A x q :=
    fun {p q} hp hq h1 h2 {x} z => ⟨fun c hc e => (mid_zero (h.sat_ p hp) (h.sat_ q hq) h1 h2 hc ((dot_prim_zero _ _).mp ((Zle_app.mp z).1 c hc e))).1,
      fun c hc e => (mid_zero (h.sat_ p hp) (h.sat_ q hq) h1 h2 hc ((dot_prim_zero _ _).mp ((Zle_app.mp z).1 c hc e))).2⟩
  unfold next
  rw [List.pairwise_append, List.pairwise_append]
  refine ⟨⟨one (hR.filter _), ?_, ?_⟩, ?_, ?_⟩
  · split
    · exact List.Pairwise.nil
    · exact one (hR.filter _)
  · intro x hx y hy
    obtain ⟨hx1, hx2⟩ := mem_kept.mp hx
    have hy' : y ∈ R ∧ 0 < dot a y := by
      split at hy
      · cases hy
      · exact mem_poss.mp hy
    refine ⟨fun z => ?_, fun z => ?_⟩
    · have := h.ne hx1 hy'.1 (up z)
      subst this; omega
    · have := h.ne hy'.1 hx1 (up z)
      subst this; omega
  · -- the fresh ones among themselves
    unfold fresh
    rw [List.pairwise_flatMap]
    refine ⟨fun p hp => ?_, ?_⟩
    · obtain ⟨hp1, hp2⟩ := mem_poss.mp hp
      rw [List.pairwise_map]
      refine List.Pairwise.imp_of_mem ?_ ((hR.filter _).filter _)
      intro q1 q2 hq1 hq2 hne
      obtain ⟨hq1, hb1⟩ := List.mem_filter.mp hq1
      obtain ⟨hq2, hb2⟩ := List.mem_filter.mp hq2
      obtain ⟨hq1, hq1n⟩ := mem_negs.mp hq1
      obtain ⟨hq2, hq2n⟩ := mem_negs.mp hq2
      have aux : ∀ {q1 q2 : Vec n}, q1 ∈ R → dot a q1 < 0 → nb p q1 = true → q2 ∈ R → dot a q2 < 0 → Zle (A ++ [(a, ex)]) (prim (mid a p q1)) (prim (mid a p q2)) → q2 = q1 := by
        intro q1 q2 hq1 hq1n hb1 hq2 hq2n z
        have k : ∀ c ∈ A, dot c.1 p = 0 → dot c.1 q1 = 0 → dot c.1 q2 = 0 := fun c hc e1 e2 =>
          (mid_zero (h.sat_ p hp1) (h.sat_ q2 hq2) hp2 hq2n hc ((dot_prim_zero _ _).mp (bz hp1 hq1 hp2 hq1n z c hc e1 e2))).2
        rcases (hnb p hp1 q1 hq1).mp hb1 q2 hq2 k with e | e
        · subst e; omega
        · exact e
      refine ⟨fun z => ?_, fun z => ?_⟩
      · have e := aux hq1 hq1n hb1 hq2 hq2n z
        subst e
        exact hne.1 (Zle.refl _ _)
      · have e := aux hq2 hq2n hb2 hq1 hq1n z
        subst e
        exact hne.1 (Zle.refl _ _)
    · refine List.Pairwise.imp_of_mem ?_ (hR.filter _)
      intro p1 p2 hp1 hp2 hne x hx y hy
      obtain ⟨hp1, hp1p⟩ := mem_poss.mp hp1
      obtain ⟨hp2, hp2p⟩ := mem_poss.mp hp2
      obtain ⟨q1, hq1, rfl⟩ := List.mem_map.mp hx
      obtain ⟨q2, hq2, rfl⟩ := List.mem_map.mp hy
      obtain ⟨hq1, hb1⟩ := List.mem_filter.mp hq1
      obtain ⟨hq2, hb2⟩ := List.mem_filter.mp hq2
      obtain ⟨hq1, hq1n⟩ := mem_negs.mp hq1
      obtain ⟨hq2, hq2n⟩ := mem_negs.mp hq2
      have aux : ∀ {p1 p2 q1 q2 : Vec n}, p1 ∈ R → 0 < dot a p1 → p2 ∈ R → 0 < dot a p2 → q1 ∈ R → dot a q1 < 0 → nb p1 q1 = true → q2 ∈ R → dot a q2 < 0 → Zle (A ++ [(a, ex)]) (prim (mid a p1 q1)) (prim (mid a p2 q2)) → p2 = p1 := by
        intro p1 p2 q1 q2 hp1 hp1p hp2 hp2p hq1 hq1n hb1 hq2 hq2n z
        have k : ∀ c ∈ A, dot c.1 p1 = 0 → dot c.1 q1 = 0 → dot c.1 p2 = 0 := fun c hc e1 e2 =>
          (mid_zero (h.sat_ p2 hp2) (h.sat_ q2 hq2) hp2p hq2n hc ((dot_prim_zero _ _).mp (bz hp1 hq1 hp1p hq1n z c hc e1 e2))).1
        rcases (hnb p1 hp1 q1 hq1).mp hb1 p2 hp2 k with e | e
        · exact e
        · subst e; omega
      refine ⟨fun z => ?_, fun z => ?_⟩
      · have e := aux hp1 hp1p hp2 hp2p hq1 hq1n hb1 hq2 hq2n z
        subst e
        exact hne.1 (Zle.refl _ _)
      · have e := aux hp2 hp2p hp1 hp1p hq2 hq2n hb2 hq1 hq1n z
        subst e
        exact hne.1 (Zle.refl _ _)
  · intro x hx y hy
    obtain ⟨p, hp, q, hq, hpp, hqn, hb, rfl⟩ := mem_fresh.mp hy
    have hx' : x ∈ R ∧ 0 ≤ dot a x := by
      rcases List.mem_append.mp hx with hx | hx
      · obtain ⟨h1, h2⟩ := mem_kept.mp hx
        exact ⟨h1, by omega⟩
      · split at hx
        · cases hx
        · obtain ⟨h1, h2⟩ := mem_poss.mp hx
          exact ⟨h1, by omega⟩
    refine ⟨fun z => ?_, fun z => ?_⟩
    · have e := h.ne hx'.1 hq (zb hp hq hpp hqn z).2
      subst e; omega
    · have z0 : dot a x = 0 := (Zle_app.mp z).2 ((dot_prim_zero _ _).mpr (dot_mid_self a p q))
      rcases (hnb p hp q hq).mp hb x hx'.1 (bz hp hq hpp hqn z) with e | e
      · subst e; omega
      · subst e; omega

/-- two neighbours' rays that are multiples of each other -/
theorem third_pos {p q r : Vec n} (hp : sat A p) (hq : sat A q) (hr : sat A r) (h1 : 0 < dot a p) (h2 : dot a q < 0) (h3 : 0 < dot a r) {m t : Int} (hm : 0 < m) (ht : 0 < t)
    (hl : lin A (comb m (mid a p q) (-t) (mid a r q))) : Zle A r p ∨ Zle A p r := by
  have key : ∀ c ∈ A, (m * dot a p - t * dot a r) * dot c.1 q + m * (-(dot a q)) * dot c.1 p = t * (-(dot a q)) * dot c.1 r := fun c hc => by
    have := hl c hc
    rw [dot_comb, dot_mid, dot_mid] at this
    grind
  have mb : 0 < m * (-(dot a q)) := Int.mul_pos hm (by omega)
  have tb : 0 < t * (-(dot a q)) := Int.mul_pos ht (by omega)
  by_cases hc : t * dot a r ≤ m * dot a p
  · left
    intro c hc' e
    have k := key c hc'
    rw [e] at k
    have k1 := Int.mul_nonneg (show 0 ≤ m * dot a p - t * dot a r by omega) (hq c hc').1
    have k2 := Int.mul_nonneg (Int.le_of_lt mb) (hp c hc').1
    have k3 : m * (-(dot a q)) * dot c.1 p = 0 := by
      simp only [Int.mul_zero] at k
      omega
    rcases Int.mul_eq_zero.mp k3 with z | z
    · omega
    · exact z
  · right
    intro c hc' e
    have k := key c hc'
    rw [e] at k
    have k1 := Int.mul_nonneg (show 0 ≤ t * dot a r - m * dot a p by omega) (hq c hc').1
    have k2 := Int.mul_nonneg (Int.le_of_lt tb) (hr c hc').1
    have k4 : (m * dot a p - t * dot a r) * dot c.1 q = -((t * dot a r - m * dot a p) * dot c.1 q) := by grind
    have k3 : t * (-(dot a q)) * dot c.1 r = 0 := by
      simp only [Int.mul_zero] at k
      omega
    rcases Int.mul_eq_zero.mp k3 with z | z
    · omega
    · exact z
theorem third_neg {p q r : Vec n} (hp : sat A p) (hq : sat A q) (hr : sat A r) (h1 : 0 < dot a p) (h2 : dot a q < 0) (h3 : dot a r < 0) {m t : Int} (hm : 0 < m) (ht : 0 < t)
    (hl : lin A (comb m (mid a p q) (-t) (mid a p r))) : Zle A r q ∨ Zle A q r := by
  have key : ∀ c ∈ A, m * dot a p * dot c.1 q + (m * (-(dot a q)) - t * (-(dot a r))) * dot c.1 p = t * dot a p * dot c.1 r := fun c hc => by
    have := hl c hc
    rw [dot_comb, dot_mid, dot_mid] at this
    grind
  have mb : 0 < m * dot a p := Int.mul_pos hm h1
  have tb : 0 < t * dot a p := Int.mul_pos ht h1
  by_cases hc : t * (-(dot a r)) ≤ m * (-(dot a q))
  · left
    intro c hc' e
    have k := key c hc'
    rw [e] at k
    have k1 := Int.mul_nonneg (show 0 ≤ m * (-(dot a q)) - t * (-(dot a r)) by omega) (hp c hc').1
    have k2 := Int.mul_nonneg (Int.le_of_lt mb) (hq c hc').1
    have k3 : m * dot a p * dot c.1 q = 0 := by
      simp only [Int.mul_zero] at k
      omega
    rcases Int.mul_eq_zero.mp k3 with z | z
    · omega
    · exact z
  · right
    intro c hc' e
    have k := key c hc'
    rw [e] at k
    have k1 := Int.mul_nonneg (show 0 ≤ t * (-(dot a r)) - m * (-(dot a q)) by omega) (hp c hc').1
    have k2 := Int.mul_nonneg (Int.le_of_lt tb) (hr c hc').1
    have k4 : (m * (-(dot a q)) - t * (-(dot a r))) * dot c.1 p = -((t * (-(dot a r)) - m * (-(dot a q))) * dot c.1 p) := by grind
    have k3 : t * dot a p * dot c.1 r = 0 := by
      simp only [Int.mul_zero] at k
      omega
    rcases Int.mul_eq_zero.mp k3 with z | z
    · omega
    · exact z

theorem neg_lin (ha : ∀ v, lin A v → dot a v = 0) : ∀ v, lin A v → dot (neg a) v = 0 := fun v hv => by
  rw [dot_comm, dot_neg, dot_comm, ha v hv]; rfl
theorem RInv.sideN (h : RInv A R) (ha : ∀ v, lin A v → dot a v = 0) {v : Vec n} (hv : sat A v) (hn : dot a v < 0) : ∃ r ∈ R, Zle A v r ∧ dot a r < 0 := by
  have e : ∀ v : Vec n, dot (neg a) v = - dot a v := fun v => by rw [dot_comm, dot_neg, dot_comm]
  obtain ⟨r, h1, h2, h3⟩ := h.side (a := neg a) (neg_lin ha) (cnt A v) v (Nat.le_refl _) hv (by rw [e]; omega)
  rw [e] at h3
  exact ⟨r, h1, h2, by omega⟩

theorem next_cov (h : RInv A R) (ha : ∀ v, lin A v → dot a v = 0) {nb : Vec n → Vec n → Bool} (hnb : NbOk A R nb) :
    ∀ (k : Nat) (v : Vec n), cnt (A ++ [(a, ex)]) v ≤ k → sat (A ++ [(a, ex)]) v → ¬ lin (A ++ [(a, ex)]) v → ∃ r ∈ next a ex R nb, Zle (A ++ [(a, ex)]) v r := by
  intro k
  induction k with
  | zero =>
    intro v hc hv hl
    exfalso
    apply hl
    intro p hp
    refine Classical.byContradiction fun z => ?_
    have : 0 < cnt (A ++ [(a, ex)]) v := by
      unfold cnt
      exact List.countP_pos_iff.mpr ⟨p, hp, by simpa using z⟩
    omega
  | succ k ih =>
    intro v hc hv hl
    obtain ⟨hvA, hv0, hve⟩ := sat_app.mp hv
    have hlA : ¬ lin A v := fun z => hl (lin_app.mpr ⟨z, ha v z⟩)
    by_cases hpos : 0 < dot a v
    · obtain ⟨r, hr, hz, hp⟩ := h.side ha (cnt A v) v (Nat.le_refl _) hvA hpos
      have hex : ex = false := by
        cases ex with
        | false => rfl
        | true => have := hve rfl; omega
      exact ⟨r, mem_next.mpr (.inr (.inl ⟨hex, hr, hp⟩)), Zle_app.mpr ⟨hz, fun e => by omega⟩⟩
    · have hv00 : dot a v = 0 := by omega
      by_cases hO : ∃ r ∈ R, Zle A v r ∧ dot a r = 0
      · obtain ⟨r, hr, hz, h0⟩ := hO
        exact ⟨r, mem_next.mpr (.inl ⟨hr, h0⟩), Zle_app.mpr ⟨hz, fun _ => h0⟩⟩
      · -- a ray on each side
        obtain ⟨p, q, hp, hq, zp, zq, hpp, hqn⟩ : ∃ p q, p ∈ R ∧ q ∈ R ∧ Zle A v p ∧ Zle A v q ∧ 0 < dot a p ∧ dot a q < 0 := by
          obtain ⟨r, hr, hz⟩ := h.cov v hvA hlA
          have hr0 : dot a r ≠ 0 := fun z => hO ⟨r, hr, hz, z⟩
          obtain ⟨m, t, hm, ht, h1, h2, h3⟩ := sub_max hvA (h.sat_ r hr) hz (h.nlin r hr)
          have ed : dot a (comb m v (-t) r) = -(t * dot a r) := by
            rw [dot_comb, hv00]; grind
          by_cases hrp : 0 < dot a r
          · have := Int.mul_pos ht hrp
            obtain ⟨q, hq, zq, hqn⟩ := h.sideN ha h1 (by omega)
            exact ⟨r, q, hr, hq, hz, h2.trans zq, hrp, hqn⟩
          · have e2 : t * dot a r = -(t * -(dot a r)) := by grind
            have := Int.mul_pos ht (show 0 < -(dot a r) by omega)
            obtain ⟨p, hp, zp, hpp⟩ := h.side ha (cnt A _) _ (Nat.le_refl _) h1 (by omega)
            exact ⟨p, r, hp, hr, h2.trans zp, hz, hpp, by omega⟩
        by_cases hmore : ∃ v2, sat (A ++ [(a, ex)]) v2 ∧ ¬ lin (A ++ [(a, ex)]) v2 ∧ Zle (A ++ [(a, ex)]) v v2 ∧ cnt (A ++ [(a, ex)]) v2 < cnt (A ++ [(a, ex)]) v
        · obtain ⟨v2, k1, k2, k3, k4⟩ := hmore
          obtain ⟨r, hr, hz⟩ := ih v2 (by omega) k1 k2
          exact ⟨r, hr, k3.trans hz⟩
        · -- v has as many zeros as can be
          have max : ∀ v2, sat (A ++ [(a, ex)]) v2 → ¬ lin (A ++ [(a, ex)]) v2 → Zle (A ++ [(a, ex)]) v v2 → Zle (A ++ [(a, ex)]) v2 v := by
            intro v2 k1 k2 k3 c hc' e
            refine Classical.byContradiction fun z => hmore ⟨v2, k1, k2, k3, cnt_lt k3 ⟨c, hc', e, z⟩⟩
          have midz : ∀ {p q : Vec n}, p ∈ R → q ∈ R → Zle A v p → Zle A v q → Zle (A ++ [(a, ex)]) v (mid a p q) := fun hp hq zp zq =>
            Zle_app.mpr ⟨fun c hc' e => mid_zero' (zp c hc' e) (zq c hc' e), fun _ => dot_mid_self _ _ _⟩
          have midl : ∀ {p q : Vec n}, p ∈ R → q ∈ R → 0 < dot a p → dot a q < 0 → ¬ lin (A ++ [(a, ex)]) (mid a p q) := fun {p q} hp hq h1 h2 z =>
            mid_nlin (h.sat_ p hp) (h.sat_ q hq) h1 h2 (h.nlin p hp) (lin_app.mp z).1
          have hw1 := mid_sat' (ex := ex) (h.sat_ p hp) (h.sat_ q hq) hpp hqn
          have hw2 := midl hp hq hpp hqn
          have hw3 := midz hp hq zp zq
          have hw4 := max _ hw1 hw2 hw3
          by_cases hb : nb p q = true
          · exact ⟨prim (mid a p q), mem_next.mpr (.inr (.inr (mem_fresh.mpr ⟨p, hp, q, hq, hpp, hqn, hb, rfl⟩))), Zle_prim_right.mpr hw3⟩
          · obtain ⟨r, hr, hz, hrp, hrq⟩ : ∃ r ∈ R, (∀ c ∈ A, dot c.1 p = 0 → dot c.1 q = 0 → dot c.1 r = 0) ∧ r ≠ p ∧ r ≠ q := by
              refine Classical.byContradiction fun hne => hb ((hnb p hp q hq).mpr fun r hr hz => ?_)
              refine Classical.byContradiction fun hne2 => hne ⟨r, hr, hz, fun e => hne2 (.inl e), fun e => hne2 (.inr e)⟩
            have zr : Zle A v r := fun c hc' e => hz c hc' (zp c hc' e) (zq c hc' e)
            have hr0 : dot a r ≠ 0 := fun z => hO ⟨r, hr, zr, z⟩
            -- the other ray through r is a multiple
            have para : ∀ {w2 : Vec n}, sat (A ++ [(a, ex)]) w2 → ¬ lin (A ++ [(a, ex)]) w2 → Zle (A ++ [(a, ex)]) v w2 → ∃ m t : Int, 0 < m ∧ 0 < t ∧ lin A (comb m (mid a p q) (-t) w2) := by
              intro w2 k1 k2 k3
              obtain ⟨m, t, hm, ht, s1, s2, c, hc', s3, s4⟩ := sub_max hw1 k1 (hw4.trans k3) k2
              refine ⟨m, t, hm, ht, ?_⟩
              refine Classical.byContradiction fun z => ?_
              have z' : ¬ lin (A ++ [(a, ex)]) (comb m (mid a p q) (-t) w2) := fun y => z (lin_app.mp y).1
              have := max _ s1 z' (hw3.trans s2) c hc' s3
              exact s4 (hw3 c hc' this)
            exfalso
            by_cases hrpos : 0 < dot a r
            · obtain ⟨m, t, hm, ht, hl2⟩ := para (mid_sat' (ex := ex) (h.sat_ r hr) (h.sat_ q hq) hrpos hqn) (midl hr hq hrpos hqn) (midz hr hq zr zq)
              rcases third_pos (h.sat_ p hp) (h.sat_ q hq) (h.sat_ r hr) hpp hqn hrpos hm ht hl2 with z | z
              · exact hrp (h.ne hr hp z)
              · exact hrp (h.ne hp hr z).symm
            · obtain ⟨m, t, hm, ht, hl2⟩ := para (mid_sat' (ex := ex) (h.sat_ p hp) (h.sat_ r hr) hpp (by omega)) (midl hp hr hpp (by omega)) (midz hp hr zp zr)
              rcases third_neg (h.sat_ p hp) (h.sat_ q hq) (h.sat_ r hr) hpp hqn (by omega) hm ht hl2 with z | z
              · exact hrq (h.ne hr hq z)
              · exact hrq (h.ne hq hr z).symm

/-- THE STEP where no line meets the row -/
theorem RInv.next (h : RInv A R) (ha : ∀ v, lin A v → dot a v = 0) {nb : Vec n → Vec n → Bool} (hnb : NbOk A R nb) : RInv (A ++ [(a, ex)]) (next a ex R nb) where
  sat_ := next_sat h
  nlin := next_nlin h
  cov := fun v hv hl => next_cov h ha hnb _ v (Nat.le_refl _) hv hl
  anti := next_anti h hnb
end
end Fm
/-! Lines: bases with pivots; the step that uses a line; what the generators generate. Plain Lean. -/
namespace Fm
variable {n : Nat}

/-- a set of vectors closed under sums of multiples, and under division -/
structure Sub (P : Vec n → Prop) : Prop where
  comb_ : ∀ x u y v, P u → P v → P (comb x u y v)
  div_ : ∀ g v, g ≠ 0 → P (smul g v) → P v
theorem Sub.lin (A : List (Con n)) : Sub (lin A) := ⟨fun x u y v hu hv => lin_comb x y hu hv, fun g v hg h p hp => by
  have := h p hp
  rw [dot_smul] at this
  rcases Int.mul_eq_zero.mp this with z | z
  · exact absurd z hg
  · exact z⟩
theorem Sub.prim {P : Vec n → Prop} (hP : Sub P) {v : Vec n} (h : P v) : P (prim v) := hP.div_ (primG v) _ (by have := primG_pos v; omega) (by rw [← prim_smul]; exact h)
theorem Sub.neg {P : Vec n → Prop} (hP : Sub P) {v : Vec n} (h : P v) : P (neg v) := by
  have e : Fm.neg v = comb (-1) v 0 v := by funext i; simp [Fm.neg, comb]
  rw [e]
  exact hP.comb_ _ _ _ _ h h

/-- vectors with pivots, each 0 at the others' pivots; in P the pivots tell all -/
structure Basis (P : Vec n → Prop) (B : List (Vec n × Fin n)) : Prop where
  mem : ∀ p ∈ B, P p.1
  piv : ∀ p ∈ B, p.1 p.2 ≠ 0
  off : B.Pairwise (fun p q => p.1 q.2 = 0 ∧ q.1 p.2 = 0)
  ker : ∀ v, P v → (∀ p ∈ B, v p.2 = 0) → v = zero

theorem smul_zero_of {g : Int} {v : Vec n} (hg : g ≠ 0) (h : smul g v = zero) : v = zero := by
  funext i
  have := congrFun h i
  simp only [smul, zero] at this
  rcases Int.mul_eq_zero.mp this with z | z
  · exact absurd z hg
  · exact z

/-- the pivots' places cleared by multiples of the rows -/
theorem clear_all : ∀ (B : List (Vec n × Fin n)), (∀ p ∈ B, p.1 p.2 ≠ 0) → B.Pairwise (fun p q => p.1 q.2 = 0 ∧ q.1 p.2 = 0) → ∀ v : Vec n,
    ∃ (α : Int) (w : Vec n), α ≠ 0 ∧ (∀ p ∈ B, w p.2 = 0) ∧ (∀ u, (∀ p ∈ B, dot u p.1 = 0) → dot u w = α * dot u v) ∧ ∀ P, Sub P → (∀ p ∈ B, P p.1) → P v → P w
  | [], _, _, v => ⟨1, v, by omega, by simp, fun u _ => by omega, fun P _ _ h => h⟩
  | b :: B, hp, ho, v => by
    rw [List.pairwise_cons] at ho
    obtain ⟨α, w, h1, h2, h3, h4⟩ := clear_all B (fun p h => hp p (List.mem_cons_of_mem _ h)) ho.2 v
    have hb := hp b List.mem_cons_self
    refine ⟨b.1 b.2 * α, comb (b.1 b.2) w (-(w b.2)) b.1, Int.mul_ne_zero hb h1, fun p hp' => ?_, fun u hu => ?_, fun P hP hB hv => ?_⟩
    · rcases List.mem_cons.mp hp' with rfl | hp'
      · simp only [comb]; grind
      · simp only [comb]
        rw [h2 p hp', (ho.1 p hp').1]; simp
    · rw [dot_comb, hu b List.mem_cons_self, h3 u (fun p h => hu p (List.mem_cons_of_mem _ h))]; grind
    · exact hP.comb_ _ _ _ _ (h4 P hP (fun p h => hB p (List.mem_cons_of_mem _ h)) hv) (hB b List.mem_cons_self)

theorem Basis.gen {P : Vec n → Prop} (hP : Sub P) {B : List (Vec n × Fin n)} (h : Basis P B) {c v : Vec n} (hc : P c) (hv : ∀ p ∈ B, dot v p.1 = 0) : dot v c = 0 := by
  obtain ⟨α, w, h1, h2, h3, h4⟩ := clear_all B h.piv h.off c
  have e := h.ker w (h4 P hP h.mem hc) h2
  have k := h3 v hv
  rw [e, dot_zero] at k
  rcases Int.mul_eq_zero.mp k.symm with z | z
  · exact absurd z h1
  · exact z

/-- what the generators generate: a vector of the cone is nonnegative on whatever all generators are nonnegative on -/
theorem gen_all {A : List (Con n)} {R : List (Vec n)} {B : List (Vec n × Fin n)} (hR : RInv A R) (hB : Basis (lin A) B) {v : Vec n} (hl : ∀ p ∈ B, dot v p.1 = 0) (hr : ∀ r ∈ R, 0 ≤ dot v r) :
    ∀ (k : Nat) (c : Vec n), cnt A c ≤ k → sat A c → 0 ≤ dot v c := by
  have base : ∀ c, lin A c → 0 ≤ dot v c := fun c hc => by
    rw [hB.gen (Sub.lin A) hc hl]; exact Int.le_refl _
  intro k
  induction k with
  | zero =>
    intro c hc hs
    refine base c fun p hp => ?_
    refine Classical.byContradiction fun z => ?_
    have : 0 < cnt A c := by
      unfold cnt
      exact List.countP_pos_iff.mpr ⟨p, hp, by simpa using z⟩
    omega
  | succ k ih =>
    intro c hc hs
    by_cases hl : lin A c
    · exact base c hl
    · obtain ⟨r, hr1, hz⟩ := hR.cov c hs hl
      obtain ⟨m, t, hm, ht, h1, h2, h3⟩ := sub_max hs (hR.sat_ r hr1) hz (hR.nlin r hr1)
      have hlt := cnt_lt h2 h3
      have q := ih _ (by omega) h1
      rw [dot_comb] at q
      have q2 := Int.mul_nonneg (Int.le_of_lt ht) (hr r hr1)
      have e : -t * dot v r = -(t * dot v r) := Int.neg_mul _ _
      exact Int.nonneg_of_mul_nonneg_right (show 0 ≤ m * dot v c by omega) hm
theorem gen_sat {A : List (Con n)} {R : List (Vec n)} {B : List (Vec n × Fin n)} (hR : RInv A R) (hB : Basis (lin A) B) {v c : Vec n} (hl : ∀ p ∈ B, dot v p.1 = 0) (hr : ∀ r ∈ R, 0 ≤ dot v r) (hc : sat A c) : 0 ≤ dot v c :=
  gen_all hR hB hl hr _ c (Nat.le_refl _) hc

/-! ### the step that uses a line -/
/-- a line or ray moved along the line l, to where a is 0 -/
def moved (a l v : Vec n) : Vec n := comb (dot a l) v (-(dot a v)) l
theorem dot_moved (c a l v : Vec n) : dot c (moved a l v) = dot a l * dot c v + (-(dot a v)) * dot c l := dot_comb _ _ _ _ _
theorem dot_moved_self (a l v : Vec n) : dot a (moved a l v) = 0 := by rw [dot_moved]; grind
section
variable {A : List (Con n)} {R : List (Vec n)} {a l : Vec n} {ex : Bool}
theorem moved_dot (hl : lin A l) {v : Vec n} {c : Con n} (hc : c ∈ A) : dot c.1 (moved a l v) = dot a l * dot c.1 v := by
  rw [dot_moved, hl c hc]; simp
theorem moved_zero (hl : lin A l) (hp : 0 < dot a l) {v : Vec n} {c : Con n} (hc : c ∈ A) : dot c.1 (moved a l v) = 0 ↔ dot c.1 v = 0 := by
  rw [moved_dot hl hc]
  constructor
  · intro e
    rcases Int.mul_eq_zero.mp e with z | z
    · omega
    · exact z
  · intro e; rw [e]; simp
theorem moved_sat (hl : lin A l) (hp : 0 < dot a l) {v : Vec n} (hv : sat A v) : sat A (moved a l v) := fun c hc => by
  rw [moved_dot hl hc]
  exact ⟨Int.mul_nonneg (Int.le_of_lt hp) (hv c hc).1, fun e => by rw [(hv c hc).2 e]; simp⟩
theorem moved_lin (hl : lin A l) (hp : 0 < dot a l) {v : Vec n} : lin A (moved a l v) ↔ lin A v :=
  ⟨fun h c hc => (moved_zero hl hp hc).mp (h c hc), fun h c hc => (moved_zero hl hp hc).mpr (h c hc)⟩

/-- THE RAYS of the step that uses a line -/
theorem RInv.turn (h : RInv A R) (hl : lin A l) (hp : 0 < dot a l) : RInv (A ++ [(a, ex)]) (R.map (fun r => prim (moved a l r)) ++ if ex then [] else [l]) where
  sat_ := by
    intro r hr
    rcases List.mem_append.mp hr with hr | hr
    · obtain ⟨r, hrR, rfl⟩ := List.mem_map.mp hr
      refine sat_prim.mpr (sat_app.mpr ⟨moved_sat hl hp (h.sat_ r hrR), ?_, fun _ => dot_moved_self _ _ _⟩)
      rw [dot_moved_self]; exact Int.le_refl _
    · cases ex with
      | true => simp at hr
      | false =>
        have : r = l := by simpa using hr
        subst this
        exact sat_app.mpr ⟨hl.sat, by omega, fun e => by cases e⟩
  nlin := by
    intro r hr hz
    rw [lin_app] at hz
    rcases List.mem_append.mp hr with hr | hr
    · obtain ⟨r, hrR, rfl⟩ := List.mem_map.mp hr
      exact h.nlin r hrR ((moved_lin hl hp).mp (lin_prim.mp hz.1))
    · cases ex with
      | true => simp at hr
      | false =>
        have : r = l := by simpa using hr
        subst this
        omega
  cov := by
    intro v hv hn
    obtain ⟨hvA, hv0, hve⟩ := sat_app.mp hv
    by_cases hlv : lin A v
    · have hav : dot a v ≠ 0 := fun z => hn (lin_app.mpr ⟨hlv, z⟩)
      have hex : ex = false := by
        cases ex with
        | false => rfl
        | true => exact absurd (hve rfl) hav
      subst hex
      exact ⟨l, by simp, Zle_app.mpr ⟨fun c hc _ => hl c hc, fun e => absurd e hav⟩⟩
    · obtain ⟨r, hr, hz⟩ := h.cov v hvA hlv
      refine ⟨prim (moved a l r), List.mem_append_left _ (List.mem_map.mpr ⟨r, hr, rfl⟩), Zle_prim_right.mpr (Zle_app.mpr ⟨fun c hc e => (moved_zero hl hp hc).mpr (hz c hc e), fun _ => dot_moved_self _ _ _⟩)⟩
  anti := by
    rw [List.pairwise_append]
    refine ⟨?_, ?_, ?_⟩
    · rw [List.pairwise_map]
      refine h.anti.imp fun {r s} q => ⟨fun z => q.1 fun c hc e => ?_, fun z => q.2 fun c hc e => ?_⟩
      · exact (moved_zero hl hp hc).mp ((dot_prim_zero _ _).mp ((Zle_app.mp z).1 c hc ((dot_prim_zero _ _).mpr ((moved_zero hl hp hc).mpr e))))
      · exact (moved_zero hl hp hc).mp ((dot_prim_zero _ _).mp ((Zle_app.mp z).1 c hc ((dot_prim_zero _ _).mpr ((moved_zero hl hp hc).mpr e))))
    · cases ex with
      | true => simp
      | false => simp
    · intro x hx y hy
      obtain ⟨r, hr, rfl⟩ := List.mem_map.mp hx
      cases ex with
      | true => simp at hy
      | false =>
        have : y = l := by simpa using hy
        subst this
        refine ⟨fun z => ?_, fun z => ?_⟩
        · have := (Zle_app.mp z).2 ((dot_prim_zero _ _).mpr (dot_moved_self _ _ _))
          omega
        · refine h.nlin r hr fun c hc => ?_
          exact (moved_zero hl hp hc).mp ((dot_prim_zero _ _).mp ((Zle_app.mp z).1 c hc (hl c hc)))

/-- THE LINES of the step that uses a line: l is l0 or its negative -/
theorem Basis.turn {B1 B2 : List (Vec n × Fin n)} {l0 : Vec n} {j0 : Fin n} (h : Basis (lin A) (B1 ++ (l0, j0) :: B2)) (hl : l = l0 ∨ l = neg l0) (hp : 0 < dot a l) :
    Basis (lin (A ++ [(a, ex)])) ((B1 ++ B2).map fun p => (prim (moved a l p.1), p.2)) := by
  have sub : ∀ p ∈ B1 ++ B2, p ∈ B1 ++ (l0, j0) :: B2 := fun p hp => by
    rcases List.mem_append.mp hp with h | h
    · exact List.mem_append_left _ h
    · exact List.mem_append_right _ (List.mem_cons_of_mem _ h)
  have hl0 : lin A l0 := h.mem (l0, j0) (by simp)
  have hlA : lin A l := by
    rcases hl with e | e
    · rw [e]; exact hl0
    · rw [e]; exact (Sub.lin A).neg hl0
  have l0j : l0 j0 ≠ 0 := h.piv (l0, j0) (by simp)
  have off := h.off
  rw [List.pairwise_append, List.pairwise_cons] at off
  obtain ⟨o1, ⟨o2, o3⟩, o4⟩ := off
  have l00 : ∀ p ∈ B1 ++ B2, l0 p.2 = 0 ∧ p.1 j0 = 0 := fun p hp => by
    rcases List.mem_append.mp hp with h | h
    · exact (o4 p h (l0, j0) List.mem_cons_self).symm.imp id id
    · exact o2 p h
  have lz : ∀ p ∈ B1 ++ B2, l p.2 = 0 := fun p hp => by
    rcases hl with e | e
    · rw [e]; exact (l00 p hp).1
    · rw [e]
      show -l0 p.2 = 0
      rw [(l00 p hp).1]; rfl
  have at_ : ∀ p ∈ B1 ++ B2, ∀ o : Vec n, moved a l o p.2 = dot a l * o p.2 := fun p hp o => by
    show dot a l * o p.2 + -(dot a o) * l p.2 = _
    rw [lz p hp]; simp
  refine ⟨?_, ?_, ?_, ?_⟩
  · intro p hp'
    obtain ⟨q, hq, rfl⟩ := List.mem_map.mp hp'
    exact lin_prim.mpr (lin_app.mpr ⟨(moved_lin hlA hp).mpr (h.mem q (sub q hq)), dot_moved_self _ _ _⟩)
  · intro p hp'
    obtain ⟨q, hq, rfl⟩ := List.mem_map.mp hp'
    intro z
    have z2 := (prim_zero_iff _ _).mp z
    rw [at_ q hq] at z2
    rcases Int.mul_eq_zero.mp z2 with y | y
    · omega
    · exact h.piv q (sub q hq) y
  · rw [List.pairwise_map]
    have hoff : (B1 ++ B2).Pairwise (fun p q => p.1 q.2 = 0 ∧ q.1 p.2 = 0) := by
      rw [List.pairwise_append]
      exact ⟨o1, o3, fun x hx y hy => o4 x hx y (List.mem_cons_of_mem _ hy)⟩
    refine List.Pairwise.imp_of_mem ?_ hoff
    intro p q hp' hq' e
    refine ⟨(prim_zero_iff _ _).mpr ?_, (prim_zero_iff _ _).mpr ?_⟩
    · show moved a l p.1 q.2 = 0
      rw [at_ q hq', e.1]; simp
    · show moved a l q.1 p.2 = 0
      rw [at_ p hp', e.2]; simp
  · intro v hv hz
    rw [lin_app] at hv
    have hz' : ∀ p ∈ B1 ++ B2, v p.2 = 0 := fun p hp' => hz (prim (moved a l p.1), p.2) (List.mem_map.mpr ⟨p, hp', rfl⟩)
    have e : comb (l0 j0) v (-(v j0)) l0 = zero := by
      refine h.ker _ (lin_comb _ _ hv.1 hl0) fun p hp' => ?_
      rcases List.mem_append.mp hp' with k | k
      · have k' : p ∈ B1 ++ B2 := List.mem_append_left _ k
        simp only [comb]
        rw [hz' p k', (l00 p k').1]; simp
      · rcases List.mem_cons.mp k with rfl | k
        · simp only [comb]; grind
        · have k' : p ∈ B1 ++ B2 := List.mem_append_right _ k
          simp only [comb]
          rw [hz' p k', (l00 p k').1]; simp
    have al0 : dot a l0 ≠ 0 := by
      rcases hl with e | e
      · rw [e] at hp; omega
      · rw [e, dot_neg] at hp; omega
    have k := congrArg (dot a) e
    rw [dot_comb, dot_zero, hv.2] at k
    have vj : v j0 = 0 := by
      have : v j0 * dot a l0 = 0 := by
        have e2 : -v j0 * dot a l0 = -(v j0 * dot a l0) := Int.neg_mul _ _
        simp only [Int.mul_zero] at k
        omega
      rcases Int.mul_eq_zero.mp this with z | z
      · exact z
      · exact absurd z al0
    refine smul_zero_of l0j ?_
    rw [← e, vj]
    funext i
    simp [smul, comb]

/-- no line meets the row: the lines stay -/
theorem Basis.stay {B : List (Vec n × Fin n)} (h : Basis (lin A) B) (hB : ∀ p ∈ B, dot a p.1 = 0) : Basis (lin (A ++ [(a, ex)])) B where
  mem := fun p hp => lin_app.mpr ⟨h.mem p hp, hB p hp⟩
  piv := h.piv
  off := h.off
  ker := fun v hv hz => h.ker v (lin_app.mp hv).1 hz
end
end Fm
/-! Small solutions: a few rows have the kernel of all; pigeons; a primitive vector that spans a kernel is small. Plain Lean. -/
namespace Fm

def tl {n : Nat} (v : Vec (n + 1)) : Vec n := fun i => v i.succ
theorem dot_succ {n : Nat} (a w : Vec (n + 1)) : dot a w = a 0 * w 0 + dot (tl a) (tl w) := rfl

theorem lift_list {α β : Type} (f : α → β) {K : List α} : ∀ (S : List β), (∀ s ∈ S, s ∈ K.map f) → ∃ S0 : List α, (∀ s ∈ S0, s ∈ K) ∧ S0.map f = S
  | [], _ => ⟨[], by simp, rfl⟩
  | s :: S, h => by
    obtain ⟨S0, h1, h2⟩ := lift_list f S (fun x hx => h x (List.mem_cons_of_mem _ hx))
    obtain ⟨a, ha, rfl⟩ := List.mem_map.mp (h s List.mem_cons_self)
    refine ⟨a :: S0, fun x hx => ?_, by simp [h2]⟩
    rcases List.mem_cons.mp hx with rfl | hx
    · exact ha
    · exact h1 x hx

/-- few rows with the kernel of all -/
theorem select : ∀ (n : Nat) (K : List (Vec n)), ∃ S : List (Vec n), (∀ s ∈ S, s ∈ K) ∧ S.length ≤ n ∧ (∀ w, (∀ s ∈ S, dot s w = 0) → ∀ k ∈ K, dot k w = 0) ∧
    ((∃ v : Vec n, v ≠ zero ∧ ∀ k ∈ K, dot k v = 0) → S.length + 1 ≤ n)
  | 0, K => ⟨[], by simp, by simp, fun w _ k _ => rfl, fun ⟨v, hv, _⟩ => absurd (funext fun i => i.elim0) hv⟩
  | n + 1, K => by
    by_cases hK : ∀ k ∈ K, k 0 = 0
    · obtain ⟨S, h1, h2, h3, h4⟩ := select n (K.map tl)
      obtain ⟨S0, k1, rfl⟩ := lift_list tl S h1
      rw [List.length_map] at h2
      refine ⟨S0, k1, by omega, fun w hw k hk => ?_, fun _ => by omega⟩
      rw [dot_succ, hK k hk]
      have := h3 (tl w) (fun s hs => by
        obtain ⟨s, hs', rfl⟩ := List.mem_map.mp hs
        have e := hw s hs'
        rw [dot_succ, hK s (k1 s hs')] at e
        simpa using e) (tl k) (List.mem_map.mpr ⟨k, hk, rfl⟩)
      simp [this]
    · obtain ⟨a, ha, ha0⟩ : ∃ a ∈ K, a 0 ≠ 0 := by
        refine Classical.byContradiction fun h => hK fun k hk => ?_
        exact Classical.byContradiction fun z => h ⟨k, hk, z⟩
      have key : ∀ (b w : Vec (n + 1)), dot (tl (comb (a 0) b (-(b 0)) a)) (tl w) = a 0 * dot b w + (-(b 0)) * dot a w := fun b w => by
        have e := dot_succ (comb (a 0) b (-(b 0)) a) w
        have e0 : (comb (a 0) b (-(b 0)) a) 0 = 0 := by simp only [comb]; grind
        rw [e0, dot_comb_left] at e
        simp only [Int.zero_mul, Int.zero_add] at e
        exact e.symm
      obtain ⟨S, h1, h2, h3, h4⟩ := select n (K.map fun b => tl (comb (a 0) b (-(b 0)) a))
      obtain ⟨S0, k1, rfl⟩ := lift_list (fun b => tl (comb (a 0) b (-(b 0)) a)) S h1
      rw [List.length_map] at h2 h4
      refine ⟨a :: S0, fun s hs => ?_, by simp; omega, fun w hw k hk => ?_, fun ⟨v, hv, hvK⟩ => ?_⟩
      · rcases List.mem_cons.mp hs with rfl | hs
        · exact ha
        · exact k1 s hs
      · have aw := hw a List.mem_cons_self
        have e := h3 (tl w) (fun s hs => by
          obtain ⟨s, hs', rfl⟩ := List.mem_map.mp hs
          rw [key, aw, hw s (List.mem_cons_of_mem _ hs')]; simp) _ (List.mem_map.mpr ⟨k, hk, rfl⟩)
        rw [key, aw] at e
        simp only [Int.mul_zero, Int.add_zero] at e
        rcases Int.mul_eq_zero.mp e with z | z
        · exact absurd z ha0
        · exact z
      · have hv' : tl v ≠ zero := fun z => by
          apply hv
          have e := hvK a ha
          rw [dot_succ, z, dot_zero] at e
          have v0 : v 0 = 0 := by
            rcases Int.mul_eq_zero.mp (show a 0 * v 0 = 0 by omega) with y | y
            · exact absurd y ha0
            · exact y
          funext i
          refine Fin.cases ?_ (fun j => ?_) i
          · exact v0
          · exact congrFun z j
        have := h4 ⟨tl v, hv', fun k hk => by
          obtain ⟨b, hb, rfl⟩ := List.mem_map.mp hk
          rw [key, hvK b hb, hvK a ha]; simp⟩
        simp; omega

/-! ### pigeons -/
theorem php : ∀ (N : Nat) (f : Nat → Nat), (∀ i, i ≤ N → f i < N) → ∃ i j, i < j ∧ j ≤ N ∧ f i = f j
  | 0, f, h => absurd (h 0 (Nat.le_refl _)) (by omega)
  | N + 1, f, h => by
    by_cases hx : ∃ i, i ≤ N ∧ f i = f (N + 1)
    · obtain ⟨i, h1, h2⟩ := hx
      exact ⟨i, N + 1, by omega, Nat.le_refl _, h2⟩
    · have hne : ∀ i, i ≤ N → f i ≠ f (N + 1) := fun i hi e => hx ⟨i, hi, e⟩
      obtain ⟨i, j, h1, h2, h3⟩ := php N (fun i => if f i = N then f (N + 1) else f i) (fun i hi => by
        have a := h i (by omega)
        have b := h (N + 1) (Nat.le_refl _)
        have c := hne i hi
        show (if f i = N then f (N + 1) else f i) < N
        split <;> omega)
      refine ⟨i, j, h1, by omega, ?_⟩
      have a := hne i (by omega)
      have b := hne j (by omega)
      split at h3 <;> split at h3 <;> omega

/-- the digits of a number in base b -/
def digs (b n c : Nat) : Vec n := fun i => ((c / b ^ i.val % b : Nat) : Int)
theorem digs_inj (b : Nat) : ∀ (n c d : Nat), c < b ^ n → d < b ^ n → digs b n c = digs b n d → c = d
  | 0, c, d, hc, hd, _ => by simp at hc hd; omega
  | n + 1, c, d, hc, hd, h => by
    have hb : 0 < b := by
      rcases Nat.eq_zero_or_pos b with e | e
      · rw [e] at hc; simp at hc
      · exact e
    have e0 : c % b = d % b := by
      have := congrFun h 0
      simp only [digs, Fin.val_zero, Nat.pow_zero, Nat.div_one] at this
      exact Int.ofNat.inj this
    have e1 : c / b = d / b := by
      refine digs_inj b n _ _ ?_ ?_ ?_
      · exact Nat.div_lt_of_lt_mul (by rw [Nat.mul_comm, ← Nat.pow_succ]; exact hc)
      · exact Nat.div_lt_of_lt_mul (by rw [Nat.mul_comm, ← Nat.pow_succ]; exact hd)
      · funext i
        have := congrFun h i.succ
        simp only [digs, Fin.val_succ, Nat.pow_succ] at this
        simp only [digs]
        rw [Nat.div_div_eq_div_mul, Nat.div_div_eq_div_mul, Nat.mul_comm b]
        exact this
    rw [← Nat.div_add_mod c b, ← Nat.div_add_mod d b, e0, e1]

theorem sumF_bound : ∀ (n : Nat) (f : Fin n → Int) (C : Nat), (∀ i, (f i).natAbs ≤ C) → (sumF n f).natAbs ≤ n * C
  | 0, _, _, _ => by simp [sumF]
  | n + 1, f, C, h => by
    have h1 := sumF_bound n (fun i => f i.succ) C (fun i => h i.succ)
    have h0 := h 0
    simp only [sumF]
    have e : (n + 1) * C = n * C + C := by rw [Nat.add_mul, Nat.one_mul]
    omega
theorem dot_bound {n : Nat} {a w : Vec n} {M B : Nat} (ha : ∀ i, (a i).natAbs ≤ M) (hw : ∀ i, (w i).natAbs ≤ B) : (dot a w).natAbs ≤ n * (M * B) := by
  unfold dot
  refine sumF_bound n _ _ fun i => ?_
  rw [Int.natAbs_mul]
  exact Nat.mul_le_mul (ha i) (hw i)

/-- the dots of some rows as one number -/
def codeS {n : Nat} (T : Nat) (w : Vec n) : List (Vec n) → Nat
  | [] => 0
  | s :: S => (dot s w + T).toNat + (2 * T + 1) * codeS T w S
theorem codeS_lt {n : Nat} (T : Nat) (w : Vec n) : ∀ (S : List (Vec n)), (∀ s ∈ S, (dot s w).natAbs ≤ T) → codeS T w S < (2 * T + 1) ^ S.length
  | [], _ => by simp [codeS]
  | s :: S, h => by
    have ih := codeS_lt T w S (fun x hx => h x (List.mem_cons_of_mem _ hx))
    have h0 := h s List.mem_cons_self
    simp only [codeS, List.length_cons, Nat.pow_succ]
    have h1 : (dot s w + T).toNat ≤ 2 * T := by omega
    have h2 : (2 * T + 1) * (codeS T w S + 1) ≤ (2 * T + 1) * (2 * T + 1) ^ S.length := Nat.mul_le_mul_left _ ih
    rw [Nat.mul_add, Nat.mul_one] at h2
    rw [Nat.mul_comm ((2 * T + 1) ^ S.length)]
    omega
theorem codeS_inj {n : Nat} (T : Nat) (w u : Vec n) : ∀ (S : List (Vec n)), (∀ s ∈ S, (dot s w).natAbs ≤ T) → (∀ s ∈ S, (dot s u).natAbs ≤ T) → codeS T w S = codeS T u S → ∀ s ∈ S, dot s w = dot s u
  | [], _, _, _, s, hs => by cases hs
  | a :: S, hw, hu, e, s, hs => by
    have a1 := hw a List.mem_cons_self
    have a2 := hu a List.mem_cons_self
    simp only [codeS] at e
    have m1 : ((dot a w + T).toNat + (2 * T + 1) * codeS T w S) % (2 * T + 1) = (dot a w + T).toNat := by
      rw [Nat.add_mul_mod_self_left]
      exact Nat.mod_eq_of_lt (by omega)
    have m2 : ((dot a u + T).toNat + (2 * T + 1) * codeS T u S) % (2 * T + 1) = (dot a u + T).toNat := by
      rw [Nat.add_mul_mod_self_left]
      exact Nat.mod_eq_of_lt (by omega)
    have e0 : (dot a w + T).toNat = (dot a u + T).toNat := by rw [← m1, ← m2, e]
    have e1 : codeS T w S = codeS T u S := by
      have : (2 * T + 1) * codeS T w S = (2 * T + 1) * codeS T u S := by omega
      exact Nat.eq_of_mul_eq_mul_left (by omega) this
    rcases List.mem_cons.mp hs with rfl | hs
    · omega
    · exact codeS_inj T w u S (fun x hx => hw x (List.mem_cons_of_mem _ hx)) (fun x hx => hu x (List.mem_cons_of_mem _ hx)) e1 s hs

/-- the bound: a solution of fewer rows than columns -/
def bnd (n M : Nat) : Nat := (2 * (n * M) + 1) ^ (n - 1)
theorem siegel {n M : Nat} {S : List (Vec n)} (hS : S.length + 1 ≤ n) (hM : ∀ s ∈ S, ∀ i, (s i).natAbs ≤ M) : ∃ w : Vec n, w ≠ zero ∧ (∀ s ∈ S, dot s w = 0) ∧ ∀ i, (w i).natAbs ≤ bnd n M := by
  have hB : 1 ≤ bnd n M := Nat.pos_of_ne_zero (by unfold bnd; exact Nat.pos_iff_ne_zero.mp (Nat.pow_pos (by omega)))
  obtain ⟨B, eB⟩ : ∃ B, B = bnd n M := ⟨_, rfl⟩
  rw [← eB] at hB
  have hdig : ∀ c i, (digs (B + 1) n c i).natAbs ≤ B := fun c i => by
    simp only [digs, Int.natAbs_natCast]
    have := Nat.mod_lt (c / (B + 1) ^ i.val) (show 0 < B + 1 by omega)
    omega
  have hdot : ∀ c, ∀ s ∈ S, (dot s (digs (B + 1) n c)).natAbs ≤ n * (M * B) := fun c s hs => dot_bound (hM s hs) (hdig c)
  have hD : (2 * (n * (M * B)) + 1) ^ (n - 1) < (B + 1) ^ n := by
    have h1 : 2 * (n * (M * B)) + 1 ≤ (2 * (n * M) + 1) * B := by
      have e1 : (2 * (n * M) + 1) * B = 2 * (n * (M * B)) + B := by grind
      omega
    have h2 := Nat.pow_le_pow_left h1 (n - 1)
    rw [Nat.mul_pow] at h2
    have h3 : (2 * (n * M) + 1) ^ (n - 1) = B := by rw [eB]; rfl
    rw [h3] at h2
    have h4 : B * B ^ (n - 1) = B ^ n := by
      rw [Nat.mul_comm, ← Nat.pow_succ]
      congr 1
      omega
    rw [h4] at h2
    have h5 : B ^ n < (B + 1) ^ n := Nat.pow_lt_pow_left (by omega) (by omega)
    omega
  obtain ⟨i, j, hij, hj, e⟩ := php ((2 * (n * (M * B)) + 1) ^ (n - 1)) (fun c => codeS (n * (M * B)) (digs (B + 1) n c) S) (fun c _ => by
    refine Nat.lt_of_lt_of_le (codeS_lt _ _ S (hdot c)) ?_
    exact Nat.pow_le_pow_right (by omega) (by omega))
  have hne : digs (B + 1) n i ≠ digs (B + 1) n j := fun z => by
    have := digs_inj (B + 1) n i j (by omega) (by omega) z
    omega
  refine ⟨comb 1 (digs (B + 1) n i) (-1) (digs (B + 1) n j), fun z => hne ?_, fun s hs => ?_, fun k => ?_⟩
  · funext k
    have := congrFun z k
    simp only [comb, zero] at this
    omega
  · have := codeS_inj _ _ _ S (hdot i) (hdot j) e s hs
    rw [dot_comb, this]; omega
  · rw [← eB]
    simp only [comb]
    have h1 := hdig i k
    have h2 := hdig j k
    have h3 : 0 ≤ digs (B + 1) n i k := Int.natCast_nonneg _
    have h4 : 0 ≤ digs (B + 1) n j k := Int.natCast_nonneg _
    omega

/-- a primitive vector that spans the kernel of rows with small items is small -/
theorem kernel_bound {n M : Nat} {K : List (Vec n)} {v : Vec n} (hv : Prim v) (hK : ∀ k ∈ K, dot k v = 0) (hM : ∀ k ∈ K, ∀ i, (k i).natAbs ≤ M)
    (one : ∀ w : Vec n, (∀ k ∈ K, dot k w = 0) → ∃ x y : Int, x ≠ 0 ∧ ∀ i, x * w i = y * v i) (i : Fin n) : (v i).natAbs ≤ bnd n M := by
  obtain ⟨S, h1, h2, h3, h4⟩ := select n K
  have h5 := h4 ⟨v, hv.ne, hK⟩
  obtain ⟨w, w1, w2, w3⟩ := siegel h5 (fun s hs => hM s (h1 s hs))
  obtain ⟨x, y, hx, hxy⟩ := one w (h3 w w2)
  have hw : ∃ i, w i ≠ 0 := by
    refine Classical.byContradiction fun z => w1 ?_
    funext i
    exact Classical.byContradiction fun q => z ⟨i, q⟩
  exact Nat.le_trans (hv.le hx hw hxy i) (w3 i)

/-! ### counting -/
/-- a list of numbers below N, no two alike, has at most N items -/
theorem nodup_len (N : Nat) (l : List Nat) (hd : l.Nodup) (hl : ∀ x ∈ l, x < N) : l.length ≤ N := by
  refine Classical.byContradiction fun h => ?_
  obtain ⟨i, j, hij, hj, e⟩ := php N (fun i => if h : i < l.length then l[i] else 0) (fun i hi => by
    have : i < l.length := by omega
    simp only [this, dif_pos]
    exact hl _ (List.getElem_mem _))
  have h1 : i < l.length := by omega
  have h2 : j < l.length := by omega
  simp only [h1, h2, dif_pos] at e
  have := (List.nodup_iff_pairwise_ne.mp hd)
  rw [List.pairwise_iff_getElem] at this
  exact this i j h1 h2 hij e
/-- a list of at most k things of U as one number -/
def codeL {α : Type} [DecidableEq α] (U : List α) : List α → Nat
  | [] => 0
  | x :: l => (U.idxOf x + 1) + (U.length + 1) * codeL U l
theorem codeL_lt {α : Type} [DecidableEq α] (U : List α) : ∀ (l : List α), (∀ x ∈ l, x ∈ U) → codeL U l < (U.length + 1) ^ l.length
  | [], _ => by simp [codeL]
  | x :: l, h => by
    have ih := codeL_lt U l (fun y hy => h y (List.mem_cons_of_mem _ hy))
    have hx : U.idxOf x < U.length := List.idxOf_lt_length_of_mem (h x List.mem_cons_self)
    simp only [codeL, List.length_cons, Nat.pow_succ]
    have h2 : (U.length + 1) * (codeL U l + 1) ≤ (U.length + 1) * (U.length + 1) ^ l.length := Nat.mul_le_mul_left _ ih
    rw [Nat.mul_add, Nat.mul_one] at h2
    rw [Nat.mul_comm ((U.length + 1) ^ l.length)]
    omega
theorem codeL_inj {α : Type} [DecidableEq α] (U : List α) : ∀ (l m : List α), (∀ x ∈ l, x ∈ U) → (∀ x ∈ m, x ∈ U) → codeL U l = codeL U m → l = m
  | [], [], _, _, _ => rfl
  | [], y :: m, _, _, e => by simp only [codeL] at e; omega
  | x :: l, [], _, _, e => by simp only [codeL] at e; omega
  | x :: l, y :: m, hl, hm, e => by
    have hx : U.idxOf x < U.length := List.idxOf_lt_length_of_mem (hl x List.mem_cons_self)
    have hy : U.idxOf y < U.length := List.idxOf_lt_length_of_mem (hm y List.mem_cons_self)
    simp only [codeL] at e
    have m1 : ((U.idxOf x + 1) + (U.length + 1) * codeL U l - 1) % (U.length + 1) = U.idxOf x := by
      rw [show U.idxOf x + 1 + (U.length + 1) * codeL U l - 1 = U.idxOf x + (U.length + 1) * codeL U l by omega, Nat.add_mul_mod_self_left]
      exact Nat.mod_eq_of_lt (by omega)
    have m2 : ((U.idxOf y + 1) + (U.length + 1) * codeL U m - 1) % (U.length + 1) = U.idxOf y := by
      rw [show U.idxOf y + 1 + (U.length + 1) * codeL U m - 1 = U.idxOf y + (U.length + 1) * codeL U m by omega, Nat.add_mul_mod_self_left]
      exact Nat.mod_eq_of_lt (by omega)
    have e0 : U.idxOf x = U.idxOf y := by rw [← m1, ← m2, e]
    have e1 : codeL U l = codeL U m := by
      have : (U.length + 1) * codeL U l = (U.length + 1) * codeL U m := by omega
      exact Nat.eq_of_mul_eq_mul_left (by omega) this
    have ex : x = y := by
      have g1 : U[U.idxOf x]? = some x := by rw [List.getElem?_eq_getElem hx, List.getElem_idxOf]
      have g2 : U[U.idxOf y]? = some y := by rw [List.getElem?_eq_getElem hy, List.getElem_idxOf]
      rw [e0, g2] at g1
      exact (Option.some.inj g1).symm
    rw [ex, codeL_inj U l m (fun z hz => hl z (List.mem_cons_of_mem _ hz)) (fun z hz => hm z (List.mem_cons_of_mem _ hz)) e1]
end Fm
/-! The program's functions on vectors (mirror); pivots; the echelon form. Plain Lean. -/
namespace Fm

instance {n : Nat} : DecidableEq (Vec n) := fun u v => decidable_of_iff (List.ofFn u = List.ofFn v) ⟨fun h => funext fun i => by have := congrArg (fun l => l[i.val]?) h; simpa using this, fun h => by rw [h]⟩

/-- the columns in the program's order -/
def cols : (n : Nat) → List (Fin n)
  | 0 => []
  | m + 1 => (List.finRange m).map Fin.succ ++ [0]
def key {n : Nat} (c : Fin n) : Nat := (c.val + n - 1) % n
def pivotOf {n : Nat} (v : Vec n) : Option (Fin n) := (cols n).find? (fun c => decide (v c ≠ 0))
def cleared {n : Nat} (v row : Vec n) (c : Fin n) : Vec n := if v c = 0 then v else prim (comb (row c) v (-(v c)) row)
def clearBy {n : Nat} (v row : Vec n) : Vec n := match pivotOf row with
  | some c => cleared v row c
  | none => v
def upright {n : Nat} (v : Vec n) (c : Fin n) : Vec n := if v c < 0 then neg v else v
def echStep {n : Nat} (found : List (Vec n)) (row : Vec n) : List (Vec n) :=
  match pivotOf (found.foldl clearBy row) with
  | none => found
  | some c => found.map (fun k => cleared k (upright (prim (found.foldl clearBy row)) c) c) ++ [upright (prim (found.foldl clearBy row)) c]
def keyOf {n : Nat} (v : Vec n) : Nat := match pivotOf v with
  | some c => key c
  | none => 0
def echelon {n : Nat} (rows : List (Vec n)) : List (Vec n) := (rows.foldl echStep []).mergeSort (fun a b => decide (keyOf a ≤ keyOf b))
def reduced {n : Nat} (v : Vec n) (rows : List (Vec n)) : Vec n := rows.foldl clearBy (prim v)

section
variable {n : Nat}
theorem key_zero {m : Nat} : key (0 : Fin (m + 1)) = m := by
  simp only [key, Fin.val_zero]
  rw [show 0 + (m + 1) - 1 = m by omega]
  exact Nat.mod_eq_of_lt (by omega)
theorem key_succ {m : Nat} (i : Fin m) : key (i.succ : Fin (m + 1)) = i.val := by
  simp only [key, Fin.val_succ]
  rw [show i.val + 1 + (m + 1) - 1 = i.val + (m + 1) by omega, Nat.add_mod_right]
  exact Nat.mod_eq_of_lt (by omega)
theorem mem_cols : ∀ {n : Nat} (c : Fin n), c ∈ cols n
  | 0, c => c.elim0
  | m + 1, c => by
    unfold cols
    by_cases h : c = 0
    · subst h; simp
    · refine List.mem_append_left _ (List.mem_map.mpr ⟨c.pred h, List.mem_finRange _, by simp⟩)
theorem pairwise_finRange : ∀ (m : Nat), (List.finRange m).Pairwise (fun a b => a.val < b.val)
  | m => by
    rw [List.pairwise_iff_getElem]
    intro i j hi hj hij
    simp only [List.getElem_finRange, Fin.val_cast]
    exact hij
theorem cols_sorted : ∀ {n : Nat}, (cols n).Pairwise (fun a b => key a < key b)
  | 0 => by simp [cols]
  | m + 1 => by
    unfold cols
    rw [List.pairwise_append, List.pairwise_map]
    refine ⟨?_, by simp, ?_⟩
    · refine (pairwise_finRange m).imp fun {a b} h => ?_
      rw [key_succ, key_succ]; exact h
    · intro a ha b hb
      obtain ⟨i, _, rfl⟩ := List.mem_map.mp ha
      have : b = 0 := by simpa using hb
      subst this
      rw [key_succ, key_zero]; exact i.isLt
theorem key_inj {c d : Fin n} (h : key c = key d) : c = d := by
  refine Classical.byContradiction fun hne => ?_
  have aux : ∀ l : List (Fin n), l.Pairwise (fun a b => key a < key b) → c ∈ l → d ∈ l → False := by
    intro l
    induction l with
    | nil => intro _ hc; cases hc
    | cons x l ih =>
      intro hp hc hd
      rw [List.pairwise_cons] at hp
      rcases List.mem_cons.mp hc with e1 | hc'
      · rcases List.mem_cons.mp hd with e2 | hd'
        · exact hne (e1.trans e2.symm)
        · have := hp.1 d hd'; rw [← e1] at this; omega
      · rcases List.mem_cons.mp hd with e2 | hd'
        · have := hp.1 c hc'; rw [← e2] at this; omega
        · exact ih hp.2 hc' hd'
  exact aux _ cols_sorted (mem_cols c) (mem_cols d)
theorem key_lt (c : Fin n) : key c < n := Nat.mod_lt _ (by have := c.isLt; omega)

theorem pivotOf_some {v : Vec n} {c : Fin n} (h : pivotOf v = some c) : v c ≠ 0 ∧ ∀ d, key d < key c → v d = 0 := by
  unfold pivotOf at h
  rw [List.find?_eq_some_iff_append] at h
  obtain ⟨h1, as, bs, h2, h3⟩ := h
  refine ⟨by simpa using h1, fun d hd => ?_⟩
  have hm := mem_cols d
  have hs := cols_sorted (n := n)
  rw [h2] at hm hs
  rw [List.pairwise_append, List.pairwise_cons] at hs
  rcases List.mem_append.mp hm with hm | hm
  · have := h3 d hm
    simpa using this
  · rcases List.mem_cons.mp hm with rfl | hm
    · omega
    · have := hs.2.1.1 d hm
      omega
theorem pivotOf_none {v : Vec n} (h : pivotOf v = none) : v = zero := by
  unfold pivotOf at h
  rw [List.find?_eq_none] at h
  funext i
  have := h i (mem_cols i)
  show v i = 0
  simpa using this
theorem pivotOf_of {v : Vec n} {c : Fin n} (h1 : v c ≠ 0) (h2 : ∀ d, key d < key c → v d = 0) : pivotOf v = some c := by
  cases e : pivotOf v with
  | none =>
    have := pivotOf_none e
    rw [this] at h1
    exact absurd rfl h1
  | some d =>
    obtain ⟨k1, k2⟩ := pivotOf_some e
    have : c = d := by
      refine key_inj ?_
      rcases Nat.lt_trichotomy (key c) (key d) with q | q | q
      · exact absurd (k2 c q) h1
      · exact q
      · exact absurd (h2 d q) k1
    rw [this]
theorem pivotOf_ex {v : Vec n} (h : v ≠ zero) : ∃ c, pivotOf v = some c := by
  cases e : pivotOf v with
  | none => exact absurd (pivotOf_none e) h
  | some c => exact ⟨c, rfl⟩
/-- the pivot depends on the zeros alone -/
theorem pivotOf_congr {v w : Vec n} (h : ∀ i, v i = 0 ↔ w i = 0) {c : Fin n} (e : pivotOf v = some c) : pivotOf w = some c := by
  obtain ⟨h1, h2⟩ := pivotOf_some e
  exact pivotOf_of (fun z => h1 ((h c).mpr z)) fun d hd => (h d).mp (h2 d hd)

/-! ### clearing -/
theorem cleared_sub {P : Vec n → Prop} (hP : Sub P) {v row : Vec n} {c : Fin n} (hv : P v) (hr : P row) : P (cleared v row c) := by
  unfold cleared
  split
  · exact hv
  · exact hP.prim (hP.comb_ _ _ _ _ hv hr)
theorem cleared_at {v row : Vec n} {c : Fin n} : cleared v row c c = 0 := by
  unfold cleared
  split
  · assumption
  · rw [prim_zero_iff]; simp only [comb]; grind
theorem cleared_zero {v row : Vec n} {c d : Fin n} (h1 : v d = 0) (h2 : row d = 0) : cleared v row c d = 0 := by
  unfold cleared
  split
  · exact h1
  · rw [prim_zero_iff]; simp only [comb]; rw [h1, h2]; simp
theorem cleared_ne {v row : Vec n} {c d : Fin n} (h1 : v d ≠ 0) (h2 : row d = 0) (h3 : row c ≠ 0) : cleared v row c d ≠ 0 := by
  unfold cleared
  split
  · exact h1
  · rw [ne_eq, prim_zero_iff]; simp only [comb]; rw [h2]; simp
    exact ⟨h3, h1⟩
/-- a positive multiple of the vector plus a multiple of the row -/
theorem cleared_eq (v row : Vec n) (c : Fin n) (h : 0 < row c) : ∃ g x y : Int, 0 < g ∧ 0 < x ∧ ∀ u : Vec n, g * dot u (cleared v row c) = x * dot u v + y * dot u row := by
  unfold cleared
  split
  · exact ⟨1, 1, 0, by omega, by omega, fun u => by omega⟩
  · refine ⟨primG (comb (row c) v (-(v c)) row), row c, -(v c), primG_pos _, h, fun u => ?_⟩
    rw [← dot_prim, dot_comb]

/-- rows in echelon form: pivots, positive there, primitive -/
structure Ech (G : List (Vec n × Fin n)) : Prop where
  piv : ∀ p ∈ G, pivotOf p.1 = some p.2
  pos : ∀ p ∈ G, 0 < p.1 p.2
  prm : ∀ p ∈ G, Prim p.1
  off : G.Pairwise (fun p q => p.1 q.2 = 0 ∧ q.1 p.2 = 0)

theorem clearBy_piv {v row : Vec n} {c : Fin n} (h : pivotOf row = some c) : clearBy v row = cleared v row c := by
  unfold clearBy; rw [h]
theorem clearBy_none {v row : Vec n} (h : pivotOf row = none) : clearBy v row = v := by
  unfold clearBy; rw [h]
theorem pos_of_mul {a b : Int} (h : 0 < a * b) (ha : 0 < a) : 0 < b := by
  refine Classical.byContradiction fun z => ?_
  have := Int.mul_nonneg (Int.le_of_lt ha) (show 0 ≤ -b by omega)
  have e : a * -b = -(a * b) := Int.mul_neg _ _
  omega
theorem fold_sub {P : Vec n → Prop} (hP : Sub P) : ∀ (L : List (Vec n)) (v : Vec n), (∀ l ∈ L, P l) → P v → P (L.foldl clearBy v)
  | [], _, _, hv => hv
  | l :: L, v, hL, hv => by
    rw [List.foldl_cons]
    refine fold_sub hP L _ (fun x hx => hL x (List.mem_cons_of_mem _ hx)) ?_
    unfold clearBy
    split
    · exact cleared_sub hP hv (hL l List.mem_cons_self)
    · exact hv
theorem fold_keep0 {d : Fin n} : ∀ (L : List (Vec n)) (v : Vec n), (∀ l ∈ L, l d = 0) → v d = 0 → (L.foldl clearBy v) d = 0
  | [], _, _, hv => hv
  | l :: L, v, hL, hv => by
    rw [List.foldl_cons]
    refine fold_keep0 L _ (fun x hx => hL x (List.mem_cons_of_mem _ hx)) ?_
    cases hc : pivotOf l with
    | some c => rw [clearBy_piv hc]; exact cleared_zero hv (hL l List.mem_cons_self)
    | none => rw [clearBy_none hc]; exact hv
theorem fold_ne {d : Fin n} : ∀ (L : List (Vec n)) (v : Vec n), (∀ l ∈ L, l d = 0) → v d ≠ 0 → (L.foldl clearBy v) d ≠ 0
  | [], _, _, hv => hv
  | l :: L, v, hL, hv => by
    rw [List.foldl_cons]
    refine fold_ne L _ (fun x hx => hL x (List.mem_cons_of_mem _ hx)) ?_
    cases hc : pivotOf l with
    | some c => rw [clearBy_piv hc]; exact cleared_ne hv (hL l List.mem_cons_self) (pivotOf_some hc).1
    | none => rw [clearBy_none hc]; exact hv
theorem fold_zero : ∀ (G : List (Vec n × Fin n)) (v : Vec n), (∀ p ∈ G, pivotOf p.1 = some p.2) → G.Pairwise (fun p q => p.1 q.2 = 0 ∧ q.1 p.2 = 0) → ∀ p ∈ G, ((G.map (·.1)).foldl clearBy v) p.2 = 0
  | [], _, _, _, p, hp => by cases hp
  | g :: G, v, h, ho, p, hp => by
    rw [List.pairwise_cons] at ho
    rw [List.map_cons, List.foldl_cons]
    rcases List.mem_cons.mp hp with rfl | hp
    · refine fold_keep0 _ _ (fun l hl => ?_) ?_
      · obtain ⟨q, hq, rfl⟩ := List.mem_map.mp hl
        exact (ho.1 q hq).2
      · rw [clearBy_piv (h p List.mem_cons_self)]
        exact cleared_at
    · exact fold_zero G _ (fun q hq => h q (List.mem_cons_of_mem _ hq)) ho.2 p hp
/-- what stays before c, and c itself, when rows that are 0 there or begin behind it are taken away -/
theorem fold_front {c : Fin n} : ∀ (G : List (Vec n × Fin n)) (v : Vec n), (∀ p ∈ G, pivotOf p.1 = some p.2) → (∀ p ∈ G, p.2 ≠ c) → v c ≠ 0 → (∀ d, key d < key c → v d = 0) →
    ((G.map (·.1)).foldl clearBy v) c ≠ 0
  | [], _, _, _, h, _ => h
  | g :: G, v, hg, hne, h, hz => by
    rw [List.map_cons, List.foldl_cons, clearBy_piv (hg g List.mem_cons_self)]
    by_cases e : v g.2 = 0
    · unfold cleared
      rw [if_pos e]
      exact fold_front G v (fun q hq => hg q (List.mem_cons_of_mem _ hq)) (fun q hq => hne q (List.mem_cons_of_mem _ hq)) h hz
    · have hk : key c < key g.2 := by
        rcases Nat.lt_trichotomy (key c) (key g.2) with q | q | q
        · exact q
        · exact absurd (key_inj q).symm (hne g List.mem_cons_self)
        · exact absurd (hz g.2 q) e
      obtain ⟨p1, p2⟩ := pivotOf_some (hg g List.mem_cons_self)
      refine fold_front G _ (fun q hq => hg q (List.mem_cons_of_mem _ hq)) (fun q hq => hne q (List.mem_cons_of_mem _ hq)) ?_ fun d hd => ?_
      · exact cleared_ne h (p2 c hk) p1
      · exact cleared_zero (hz d hd) (p2 d (by omega))
theorem Ech.ne {G : List (Vec n × Fin n)} (h : Ech G) : ∀ p ∈ G, p.1 p.2 ≠ 0 := fun p hp => by have := h.pos p hp; omega

theorem upright_cases (v : Vec n) (c : Fin n) : upright v c = v ∨ upright v c = neg v := by
  unfold upright
  split
  · exact .inr rfl
  · exact .inl rfl
theorem upright_zero (v : Vec n) (c i : Fin n) : upright v c i = 0 ↔ v i = 0 := by
  rcases upright_cases v c with e | e
  · rw [e]
  · rw [e]
    show -v i = 0 ↔ v i = 0
    omega
theorem upright_pos {v : Vec n} {c : Fin n} (h : v c ≠ 0) : 0 < upright v c c := by
  unfold upright
  split
  · show 0 < -v c
    omega
  · omega
theorem gcdV_neg (v : Vec n) : gcdV (neg v) = gcdV v := by
  refine Nat.dvd_antisymm (gcdV_great _ _ fun i => ?_) (gcdV_great _ _ fun i => ?_)
  · have := gcdV_dvd (neg v) i
    simpa [neg] using this
  · have := gcdV_dvd v i
    simpa [neg] using this
theorem upright_Prim {v : Vec n} {c : Fin n} (h : Prim v) : Prim (upright v c) := by
  rcases upright_cases v c with e | e
  · rw [e]; exact h
  · rw [e]
    show gcdV (neg v) = 1
    rw [gcdV_neg]; exact h
theorem upright_sub {P : Vec n → Prop} (hP : Sub P) {v : Vec n} {c : Fin n} (h : P v) : P (upright v c) := by
  rcases upright_cases v c with e | e
  · rw [e]; exact h
  · rw [e]; exact hP.neg h

/-- ONE ROW MORE. P: what the rows so far span; P': one dimension more, told by the place j -/
theorem ech_step {P P' : Vec n → Prop} (hP' : Sub P') {j : Fin n} (hPP : ∀ v, P v ↔ P' v ∧ v j = 0) {G : List (Vec n × Fin n)} (hE : Ech G) (hB : Basis P G) {x : Vec n} (hx : P' x) (hxj : x j ≠ 0) :
    ∃ G', Ech G' ∧ Basis P' G' ∧ echStep (G.map (·.1)) x = G'.map (·.1) ∧ G'.length = G.length + 1 := by
  obtain ⟨rest, hrest⟩ : ∃ r, r = (G.map (·.1)).foldl clearBy x := ⟨_, rfl⟩
  have r1 : P' rest := by
    rw [hrest]
    refine fold_sub hP' _ _ (fun l hl => ?_) hx
    obtain ⟨q, hq, rfl⟩ := List.mem_map.mp hl
    exact ((hPP _).mp (hB.mem q hq)).1
  have r2 : rest j ≠ 0 := by
    rw [hrest]
    refine fold_ne _ _ (fun l hl => ?_) hxj
    obtain ⟨q, hq, rfl⟩ := List.mem_map.mp hl
    exact ((hPP _).mp (hB.mem q hq)).2
  have r3 : ∀ p ∈ G, rest p.2 = 0 := by
    rw [hrest]
    exact fold_zero G x hE.piv hE.off
  have rne : rest ≠ zero := fun e => r2 (by rw [e]; rfl)
  obtain ⟨c, hc⟩ := pivotOf_ex rne
  obtain ⟨c1, c2⟩ := pivotOf_some hc
  obtain ⟨y, hy⟩ : ∃ y, y = upright (prim rest) c := ⟨_, rfl⟩
  have yz : ∀ i, y i = 0 ↔ rest i = 0 := fun i => by rw [hy, upright_zero, prim_zero_iff]
  have yc : 0 < y c := by
    rw [hy]
    exact upright_pos fun z => c1 ((prim_zero_iff _ _).mp z)
  have yP : Prim y := by rw [hy]; exact upright_Prim (prim_Prim rne)
  have yP' : P' y := by rw [hy]; exact upright_sub hP' (hP'.prim r1)
  have ypiv : pivotOf y = some c := pivotOf_congr (fun i => (yz i).symm) hc
  have cne : ∀ p ∈ G, p.2 ≠ c := fun p hp e => c1 (by rw [← e]; exact r3 p hp)
  have hpiv : ∀ p ∈ G, pivotOf (cleared p.1 y c) = some p.2 ∧ 0 < (cleared p.1 y c) p.2 ∧ Prim (cleared p.1 y c) := fun p hp => by
    obtain ⟨p1, p2⟩ := pivotOf_some (hE.piv p hp)
    have y0 : y p.2 = 0 := (yz _).mpr (r3 p hp)
    unfold cleared
    split
    · exact ⟨hE.piv p hp, hE.pos p hp, hE.prm p hp⟩
    · rename_i hk
      have hlt : key p.2 < key c := by
        rcases Nat.lt_trichotomy (key p.2) (key c) with q | q | q
        · exact q
        · exact absurd (key_inj q) (cne p hp)
        · exact absurd (p2 c q) hk
      have at_ : (comb (y c) p.1 (-(p.1 c)) y) p.2 = y c * p.1 p.2 := by
        simp only [comb]; rw [y0]; simp
      have pos : 0 < (comb (y c) p.1 (-(p.1 c)) y) p.2 := by
        rw [at_]; exact Int.mul_pos yc (hE.pos p hp)
      refine ⟨?_, ?_, ?_⟩
      · refine pivotOf_of (fun z => ?_) fun d hd => (prim_zero_iff _ _).mpr ?_
        · have := (prim_zero_iff _ _).mp z
          omega
        · simp only [comb]
          rw [p2 d hd, (yz d).mpr (c2 d (by omega))]; simp
      · have e := prim_eq (comb (y c) p.1 (-(p.1 c)) y) p.2
        rw [e] at pos
        exact pos_of_mul pos (primG_pos _)
      · refine prim_Prim fun z => ?_
        have := congrFun z p.2
        simp only [zero] at this
        omega
  refine ⟨G.map (fun p => (cleared p.1 y c, p.2)) ++ [(y, c)], ⟨?_, ?_, ?_, ?_⟩, ⟨?_, ?_, ?_, ?_⟩, ?_, by simp⟩
  · intro p hp
    rcases List.mem_append.mp hp with hp | hp
    · obtain ⟨q, hq, rfl⟩ := List.mem_map.mp hp
      exact (hpiv q hq).1
    · have : p = (y, c) := by simpa using hp
      rw [this]; exact ypiv
  · intro p hp
    rcases List.mem_append.mp hp with hp | hp
    · obtain ⟨q, hq, rfl⟩ := List.mem_map.mp hp
      exact (hpiv q hq).2.1
    · have : p = (y, c) := by simpa using hp
      rw [this]; exact yc
  · intro p hp
    rcases List.mem_append.mp hp with hp | hp
    · obtain ⟨q, hq, rfl⟩ := List.mem_map.mp hp
      exact (hpiv q hq).2.2
    · have : p = (y, c) := by simpa using hp
      rw [this]; exact yP
  · rw [List.pairwise_append, List.pairwise_map]
    refine ⟨List.Pairwise.imp_of_mem ?_ hE.off, by simp, ?_⟩
    · intro p q hp hq e
      exact ⟨cleared_zero e.1 ((yz _).mpr (r3 q hq)), cleared_zero e.2 ((yz _).mpr (r3 p hp))⟩
    · intro p hp q hq
      obtain ⟨p, hp, rfl⟩ := List.mem_map.mp hp
      have : q = (y, c) := by simpa using hq
      rw [this]
      exact ⟨cleared_at, (yz _).mpr (r3 p (by assumption))⟩
  · intro p hp
    rcases List.mem_append.mp hp with hp | hp
    · obtain ⟨q, hq, rfl⟩ := List.mem_map.mp hp
      exact cleared_sub hP' ((hPP _).mp (hB.mem q hq)).1 yP'
    · have : p = (y, c) := by simpa using hp
      rw [this]; exact yP'
  · intro p hp
    rcases List.mem_append.mp hp with hp | hp
    · obtain ⟨q, hq, rfl⟩ := List.mem_map.mp hp
      have := (hpiv q hq).2.1
      show (cleared q.1 y c) q.2 ≠ 0
      omega
    · have : p = (y, c) := by simpa using hp
      rw [this]
      show y c ≠ 0
      omega
  · rw [List.pairwise_append, List.pairwise_map]
    refine ⟨List.Pairwise.imp_of_mem ?_ hE.off, by simp, ?_⟩
    · intro p q hp hq e
      exact ⟨cleared_zero e.1 ((yz _).mpr (r3 q hq)), cleared_zero e.2 ((yz _).mpr (r3 p hp))⟩
    · intro p hp q hq
      obtain ⟨p, hp, rfl⟩ := List.mem_map.mp hp
      have : q = (y, c) := by simpa using hq
      rw [this]
      exact ⟨cleared_at, (yz _).mpr (r3 p (by assumption))⟩
  · intro v hv hz
    have hzG : ∀ p ∈ G, v p.2 = 0 := fun p hp => hz (cleared p.1 y c, p.2) (List.mem_append_left _ (List.mem_map.mpr ⟨p, hp, rfl⟩))
    have hzc : v c = 0 := hz (y, c) (by simp)
    have e : comb (rest j) v (-(v j)) rest = zero := by
      refine hB.ker _ ((hPP _).mpr ⟨hP'.comb_ _ _ _ _ hv r1, ?_⟩) fun p hp => ?_
      · simp only [comb]; grind
      · simp only [comb]; rw [hzG p hp, r3 p hp]; simp
    have vj : v j = 0 := by
      have := congrFun e c
      simp only [comb, zero] at this
      rw [hzc] at this
      have k : v j * rest c = 0 := by
        have : -(v j) * rest c = -(v j * rest c) := Int.neg_mul _ _
        simp only [Int.mul_zero] at *
        omega
      rcases Int.mul_eq_zero.mp k with z | z
      · exact z
      · exact absurd z c1
    refine smul_zero_of r2 ?_
    rw [← e, vj]
    funext i
    simp [smul, comb]
  · unfold echStep
    rw [← hrest, hc]
    dsimp only
    rw [← hy]
    simp [List.map_map, Function.comp_def]
end
end Fm
/-! The echelon form: of what is spanned alone. Plain Lean. -/
namespace Fm
variable {n : Nat}

/-- P, and 0 at the pivots of B -/
def Cut (P : Vec n → Prop) (B : List (Vec n × Fin n)) (v : Vec n) : Prop := P v ∧ ∀ p ∈ B, v p.2 = 0
theorem Cut.sub {P : Vec n → Prop} (hP : Sub P) (B : List (Vec n × Fin n)) : Sub (Cut P B) := ⟨fun x u y v hu hv => ⟨hP.comb_ _ _ _ _ hu.1 hv.1, fun p hp => by
    simp only [comb]; rw [hu.2 p hp, hv.2 p hp]; simp⟩, fun g v hg h => ⟨hP.div_ g v hg h.1, fun p hp => by
    have := h.2 p hp
    simp only [smul] at this
    rcases Int.mul_eq_zero.mp this with z | z
    · exact absurd z hg
    · exact z⟩⟩
theorem Basis.front {P : Vec n → Prop} {B1 B2 : List (Vec n × Fin n)} (h : Basis P (B1 ++ B2)) : Basis (Cut P B2) B1 := by
  have off := h.off
  rw [List.pairwise_append] at off
  exact ⟨fun p hp => ⟨h.mem p (List.mem_append_left _ hp), fun q hq => (off.2.2 p hp q hq).1⟩, fun p hp => h.piv p (List.mem_append_left _ hp), off.1, fun v hv hz => h.ker v hv.1 fun p hp => by
    rcases List.mem_append.mp hp with k | k
    · exact hz p k
    · exact hv.2 p k⟩
theorem ech_fold {P : Vec n → Prop} (hP : Sub P) : ∀ (B : List (Vec n × Fin n)) (G : List (Vec n × Fin n)), Ech G → Basis (Cut P B) G → (∀ p ∈ B, P p.1) → (∀ p ∈ B, p.1 p.2 ≠ 0) → B.Pairwise (fun p q => p.1 q.2 = 0 ∧ q.1 p.2 = 0) →
    ∃ G', Ech G' ∧ Basis P G' ∧ (B.map (·.1)).foldl echStep (G.map (·.1)) = G'.map (·.1) ∧ G'.length = G.length + B.length
  | [], G, hE, hB, _, _, _ => ⟨G, hE, ⟨fun p hp => (hB.mem p hp).1, hB.piv, hB.off, fun v hv hz => hB.ker v ⟨hv, by simp⟩ hz⟩, rfl, by simp⟩
  | b :: B, G, hE, hB, h1, h2, h3 => by
    rw [List.pairwise_cons] at h3
    obtain ⟨G1, e1, e2, e3, e4⟩ := ech_step (P := Cut P (b :: B)) (P' := Cut P B) (Cut.sub hP B) (j := b.2) (fun v => by
      unfold Cut
      constructor
      · rintro ⟨k1, k2⟩
        exact ⟨⟨k1, fun p hp => k2 p (List.mem_cons_of_mem _ hp)⟩, k2 b List.mem_cons_self⟩
      · rintro ⟨⟨k1, k2⟩, k3⟩
        refine ⟨k1, fun p hp => ?_⟩
        rcases List.mem_cons.mp hp with rfl | hp
        · exact k3
        · exact k2 p hp) hE hB (x := b.1) ⟨h1 b List.mem_cons_self, fun p hp => (h3.1 p hp).1⟩ (h2 b List.mem_cons_self)
    obtain ⟨G2, f1, f2, f3, f4⟩ := ech_fold hP B G1 e1 e2 (fun p hp => h1 p (List.mem_cons_of_mem _ hp)) (fun p hp => h2 p (List.mem_cons_of_mem _ hp)) h3.2
    refine ⟨G2, f1, f2, ?_, ?_⟩
    · rw [List.map_cons, List.foldl_cons, e3, f3]
    · rw [f4, e4, List.length_cons]; omega
/-- the rows found after a part of the lines -/
theorem ech_front {P : Vec n → Prop} (hP : Sub P) {B1 B2 : List (Vec n × Fin n)} (h : Basis P (B1 ++ B2)) :
    ∃ G, Ech G ∧ Basis (Cut P B2) G ∧ (B1.map (·.1)).foldl echStep [] = G.map (·.1) ∧ G.length = B1.length := by
  have hf := h.front
  obtain ⟨G, h1, h2, h3, h4⟩ := ech_fold (Cut.sub hP B2) B1 [] ⟨by simp, by simp, by simp, by simp⟩ ⟨by simp, by simp, by simp, fun v hv _ => hf.ker v hv.1 hv.2⟩ hf.mem hf.piv hf.off
  exact ⟨G, h1, h2, h3, by simpa using h4⟩

theorem Ech.perm {G H : List (Vec n × Fin n)} (p : H.Perm G) (h : Ech G) : Ech H :=
  ⟨fun q hq => h.piv q (p.mem_iff.mp hq), fun q hq => h.pos q (p.mem_iff.mp hq), fun q hq => h.prm q (p.mem_iff.mp hq), (p.pairwise_iff fun {_ _} e => ⟨e.2, e.1⟩).mpr h.off⟩
theorem Basis.perm {P : Vec n → Prop} {G H : List (Vec n × Fin n)} (p : H.Perm G) (h : Basis P G) : Basis P H :=
  ⟨fun q hq => h.mem q (p.mem_iff.mp hq), fun q hq => h.piv q (p.mem_iff.mp hq), (p.pairwise_iff fun {_ _} e => ⟨e.2, e.1⟩).mpr h.off, fun v hv hz => h.ker v hv fun q hq => hz q (p.mem_iff.mpr hq)⟩
/-- THE ECHELON FORM of lines that span P -/
theorem echelon_ok {P : Vec n → Prop} (hP : Sub P) {B : List (Vec n × Fin n)} (h : Basis P B) :
    ∃ G, Ech G ∧ Basis P G ∧ G.Pairwise (fun p q => key p.2 < key q.2) ∧ echelon (B.map (·.1)) = G.map (·.1) ∧ G.length = B.length := by
  obtain ⟨G, h1, h2, h3, h4⟩ := ech_front hP (B1 := B) (B2 := []) (by simpa using h)
  have h2' : Basis P G := ⟨fun p hp => (h2.mem p hp).1, h2.piv, h2.off, fun v hv hz => h2.ker v ⟨hv, by simp⟩ hz⟩
  have pm := List.mergeSort_perm G (fun p q : Vec n × Fin n => decide (key p.2 ≤ key q.2))
  have e1 := h1.perm pm
  have e2 := h2'.perm pm
  refine ⟨G.mergeSort (fun p q => decide (key p.2 ≤ key q.2)), e1, e2, ?_, ?_, by rw [pm.length_eq]; exact h4⟩
  · have hs := List.pairwise_mergeSort (le := fun p q : Vec n × Fin n => decide (key p.2 ≤ key q.2)) (fun a b c h k => by
      simp only [decide_eq_true_eq] at *; omega) (fun a b => by
      simp only [Bool.or_eq_true, decide_eq_true_eq]; omega) G
    have hs2 := List.Pairwise.and hs e1.off
    refine List.Pairwise.imp_of_mem (fun {p q} hp hq e => ?_) hs2
    obtain ⟨k1, k2, k3⟩ := e
    simp only [decide_eq_true_eq] at k1
    rcases Nat.lt_or_eq_of_le k1 with k | k
    · exact k
    · have := key_inj k
      have q0 := e1.ne q hq
      rw [← this] at q0
      exact absurd k3 q0
  · unfold echelon
    rw [h3]
    rw [← List.map_mergeSort (r := fun p q : Vec n × Fin n => decide (key p.2 ≤ key q.2))]
    intro a ha b hb
    unfold keyOf
    rw [h1.piv a ha, h1.piv b hb]

theorem Basis.hit {P : Vec n → Prop} (hP : Sub P) {G : List (Vec n × Fin n)} (hE : Ech G) (hB : Basis P G) {v : Vec n} (hv : P v) {c : Fin n} (hc : pivotOf v = some c) : ∃ p ∈ G, p.2 = c := by
  refine Classical.byContradiction fun hne => ?_
  obtain ⟨c1, c2⟩ := pivotOf_some hc
  have w1 := fold_front G v hE.piv (fun p hp e => hne ⟨p, hp, e⟩) c1 c2
  have w2 : P ((G.map (·.1)).foldl clearBy v) := fold_sub hP _ _ (fun l hl => by
    obtain ⟨q, hq, rfl⟩ := List.mem_map.mp hl
    exact hB.mem q hq) hv
  have w3 := hB.ker _ w2 (fold_zero G v hE.piv hE.off)
  exact w1 (by rw [w3]; rfl)
theorem Ech.off_of {G : List (Vec n × Fin n)} (h : Ech G) {p q : Vec n × Fin n} (hp : p ∈ G) (hq : q ∈ G) (hne : p.2 ≠ q.2) : p.1 q.2 = 0 :=
  (pairwise_all (S := fun p q : Vec n × Fin n => p.1 q.2 = 0 ∧ q.1 p.2 = 0) (fun a b e => ⟨e.2, e.1⟩) h.off p hp q hq (fun e => hne (by rw [e]))).1
theorem ech_sub {P : Vec n → Prop} (hP : Sub P) {G H : List (Vec n × Fin n)} (eG : Ech G) (bG : Basis P G) (eH : Ech H) (bH : Basis P H) : ∀ p ∈ G, p ∈ H := by
  intro p hp
  obtain ⟨q, hq, e⟩ := bH.hit hP eH (bG.mem p hp) (eG.piv p hp)
  have hw : comb (q.1 p.2) p.1 (-(p.1 p.2)) q.1 = zero := by
    refine bG.ker _ (hP.comb_ _ _ _ _ (bG.mem p hp) (bH.mem q hq)) fun r hr => ?_
    by_cases hrp : r.2 = p.2
    · rw [hrp]; simp only [comb]; grind
    · obtain ⟨q', hq', e'⟩ := bH.hit hP eH (bG.mem r hr) (eG.piv r hr)
      have z1 : p.1 r.2 = 0 := eG.off_of hp hr (fun z => hrp z.symm)
      have z2 : q.1 r.2 = 0 := by
        rw [← e']
        exact eH.off_of hq hq' (fun z => hrp (by rw [← e', ← z, e]))
      simp only [comb]; rw [z1, z2]; simp
  have e1 : p.1 = q.1 := by
    have q0 := eH.pos q hq
    rw [e] at q0
    refine (eG.prm p hp).unique (eH.prm q hq) q0 (eG.pos p hp) fun i => ?_
    have := congrFun hw i
    simp only [comb, zero] at this
    have e3 : -(p.1 p.2) * q.1 i = -(p.1 p.2 * q.1 i) := Int.neg_mul _ _
    omega
  have : p = q := Prod.ext e1 e.symm
  rw [this]; exact hq
theorem sorted_ext {α : Type} {lt : α → α → Prop} (irr : ∀ a, ¬ lt a a) (asy : ∀ a b, lt a b → ¬ lt b a) : ∀ {l m : List α}, l.Pairwise lt → m.Pairwise lt → (∀ x, x ∈ l ↔ x ∈ m) → l = m
  | [], [], _, _, _ => rfl
  | [], b :: m, _, _, h => absurd ((h b).mpr List.mem_cons_self) (by simp)
  | a :: l, [], _, _, h => absurd ((h a).mp List.mem_cons_self) (by simp)
  | a :: l, b :: m, hl, hm, h => by
    rw [List.pairwise_cons] at hl hm
    have hab : a = b := by
      refine Classical.byContradiction fun hne => ?_
      have h1 : a ∈ m := (List.mem_cons.mp ((h a).mp List.mem_cons_self)).resolve_left hne
      have h2 : b ∈ l := (List.mem_cons.mp ((h b).mpr List.mem_cons_self)).resolve_left (fun e => hne e.symm)
      exact asy _ _ (hl.1 b h2) (hm.1 a h1)
    subst hab
    have : l = m := sorted_ext irr asy hl.2 hm.2 fun x => by
      constructor
      · intro hx
        rcases List.mem_cons.mp ((h x).mp (List.mem_cons_of_mem _ hx)) with e | e
        · subst e
          exact absurd (hl.1 x hx) (irr x)
        · exact e
      · intro hx
        rcases List.mem_cons.mp ((h x).mpr (List.mem_cons_of_mem _ hx)) with e | e
        · subst e
          exact absurd (hm.1 x hx) (irr x)
        · exact e
    rw [this]
theorem ech_unique {P : Vec n → Prop} (hP : Sub P) {G H : List (Vec n × Fin n)} (eG : Ech G) (bG : Basis P G) (sG : G.Pairwise (fun p q => key p.2 < key q.2)) (eH : Ech H) (bH : Basis P H) (sH : H.Pairwise (fun p q => key p.2 < key q.2)) : G = H :=
  sorted_ext (lt := fun p q : Vec n × Fin n => key p.2 < key q.2) (fun _ => Nat.lt_irrefl _) (fun _ _ h => by omega) sG sH fun x => ⟨fun hx => ech_sub hP eG bG eH bH x hx, fun hx => ech_sub hP eH bH eG bG x hx⟩
theorem Basis.congr {P Q : Vec n → Prop} (h : ∀ v, P v ↔ Q v) {B : List (Vec n × Fin n)} (b : Basis P B) : Basis Q B :=
  ⟨fun p hp => (h _).mp (b.mem p hp), b.piv, b.off, fun v hv hz => b.ker v ((h v).mpr hv) hz⟩
end Fm
/-! The builder (mirror) and its invariant. Plain Lean. -/
namespace Fm
variable {n : Nat}

structure Bld (n : Nat) where
  lines : List (Vec n)
  rays : List (Vec n × Nat)
  count : Nat
def orient (a l : Vec n) : Vec n := if dot a l < 0 then neg l else l
def turnIx (a : Vec n) (lines : List (Vec n)) : Option Nat := lines.findIdx? (fun l => decide (dot a l ≠ 0))
def nbB (rays : List (Vec n × Nat)) (p q : Vec n) (shared : Nat) : Bool := rays.all fun r => !((r.2 &&& shared == shared) && (decide (r.1 ≠ p) && decide (r.1 ≠ q)))
def keptB (a : Vec n) (bit : Nat) (rays : List (Vec n × Nat)) : List (Vec n × Nat) := (rays.filter fun r => decide (dot a r.1 = 0)).map fun r => (r.1, r.2 ||| bit)
def possB (a : Vec n) (rays : List (Vec n × Nat)) : List (Vec n × Nat) := rays.filter fun r => decide (0 < dot a r.1)
def negsB (a : Vec n) (rays : List (Vec n × Nat)) : List (Vec n × Nat) := rays.filter fun r => decide (dot a r.1 < 0)
def freshB (a : Vec n) (bit : Nat) (rays : List (Vec n × Nat)) : List (Vec n × Nat) :=
  (possB a rays).flatMap fun p => ((negsB a rays).filter fun q => nbB rays p.1 q.1 (p.2 &&& q.2)).map fun q => (prim (mid a p.1 q.1), (p.2 &&& q.2) ||| bit)
def restOf (i : Nat) (lines : List (Vec n)) : List (Vec n) := lines.take i ++ lines.drop (i + 1)
def add (a : Vec n) (ex : Bool) (b : Bld n) : Bld n :=
  match turnIx a b.lines with
  | some i => {
      lines := (restOf i b.lines).map (fun o => prim (moved a (orient a (b.lines.getD i zero)) o))
      rays := (b.rays.map fun r => (prim (moved a (orient a (b.lines.getD i zero)) r.1), r.2 ||| 2 ^ b.count)) ++ if ex then [] else [(orient a (b.lines.getD i zero), 2 ^ b.count - 1)]
      count := b.count + 1 }
  | none => {
      lines := b.lines
      rays := (keptB a (2 ^ b.count) b.rays ++ if ex then [] else possB a b.rays) ++ freshB a (2 ^ b.count) b.rays
      count := b.count + 1 }
def bld0 (n : Nat) : Bld n := { lines := (List.finRange n).map unit, rays := [], count := 0 }
def run (A : List (Con n)) : Bld n := A.foldl (fun b p => add p.1 p.2 b) (bld0 n)
theorem run_app (A : List (Con n)) (p : Con n) : run (A ++ [p]) = add p.1 p.2 (run A) := by
  unfold run
  rw [List.foldl_append]; rfl

/-- a mask tells the zeros -/
def MaskOk (A : List (Con n)) (v : Vec n) (m : Nat) : Prop := m < 2 ^ A.length ∧ ∀ (i : Nat) (h : i < A.length), m.testBit i = decide (dot A[i].1 v = 0)
structure BInv (A : List (Con n)) (b : Bld n) (B : List (Vec n × Fin n)) : Prop where
  lines : b.lines = B.map (·.1)
  basis : Basis (lin A) B
  rinv : RInv A (b.rays.map (·.1))
  off : ∀ r ∈ b.rays, ∀ p ∈ B, r.1 p.2 = 0
  prL : ∀ l ∈ b.lines, Prim l
  prR : ∀ r ∈ b.rays, Prim r.1
  count : b.count = A.length
  mask : ∀ r ∈ b.rays, MaskOk A r.1 r.2

theorem orient_cases (a l : Vec n) : orient a l = l ∨ orient a l = neg l := by
  unfold orient
  split
  · exact .inr rfl
  · exact .inl rfl
theorem orient_pos {a l : Vec n} (h : dot a l ≠ 0) : 0 < dot a (orient a l) := by
  unfold orient
  split
  · rw [dot_neg]; omega
  · omega
theorem Prim_neg {v : Vec n} (h : Prim v) : Prim (neg v) := by
  show gcdV (neg v) = 1
  rw [gcdV_neg]; exact h
theorem orient_Prim {a l : Vec n} (h : Prim l) : Prim (orient a l) := by
  rcases orient_cases a l with e | e
  · rw [e]; exact h
  · rw [e]; exact Prim_neg h
theorem turnIx_some {a : Vec n} {B : List (Vec n × Fin n)} {i : Nat} (h : turnIx a (B.map (·.1)) = some i) :
    ∃ B1 B2 l0 j0, B = B1 ++ (l0, j0) :: B2 ∧ B1.length = i ∧ (B.map (·.1)).getD i zero = l0 ∧ dot a l0 ≠ 0 ∧ restOf i (B.map (·.1)) = (B1 ++ B2).map (·.1) := by
  unfold turnIx at h
  rw [List.findIdx?_eq_some_iff_getElem] at h
  obtain ⟨hi, h1, h2⟩ := h
  rw [List.length_map] at hi
  refine ⟨B.take i, B.drop (i + 1), (B[i]).1, (B[i]).2, ?_, by rw [List.length_take]; omega, ?_, ?_, ?_⟩
  · have e := (List.take_append_drop i B).symm
    rw [List.drop_eq_getElem_cons hi] at e
    exact e
  · rw [List.getD_eq_getElem?_getD, List.getElem?_map, List.getElem?_eq_getElem hi]; rfl
  · simpa using h1
  · unfold restOf
    rw [List.map_append, List.map_take, List.map_drop]
theorem turnIx_none {a : Vec n} {L : List (Vec n)} (h : turnIx a L = none) : ∀ l ∈ L, dot a l = 0 := by
  unfold turnIx at h
  rw [List.findIdx?_eq_none_iff] at h
  intro l hl
  have := h l hl
  simpa using this

theorem MaskOk.or {A : List (Con n)} {a : Vec n} {ex : Bool} {v w : Vec n} {m : Nat} (h : MaskOk A v m) (hz : ∀ c ∈ A, dot c.1 w = 0 ↔ dot c.1 v = 0) (h0 : dot a w = 0) : MaskOk (A ++ [(a, ex)]) w (m ||| 2 ^ A.length) := by
  have e : (A ++ [(a, ex)]).length = A.length + 1 := by simp
  refine ⟨?_, fun i hi => ?_⟩
  · rw [e]
    refine Nat.or_lt_two_pow ?_ (Nat.pow_lt_pow_right (by omega) (by omega))
    exact Nat.lt_trans h.1 (Nat.pow_lt_pow_right (by omega) (by omega))
  · rw [Nat.testBit_or, Nat.testBit_two_pow]
    by_cases hk : i < A.length
    · rw [h.2 i hk, List.getElem_append_left hk]
      have : ¬ A.length = i := by omega
      simp only [this, decide_false, Bool.or_false]
      have hz' := hz A[i] (List.getElem_mem hk)
      by_cases q : dot A[i].1 v = 0
      · simp [q, hz'.mpr q]
      · have : ¬ dot A[i].1 w = 0 := fun z => q (hz'.mp z)
        simp [q, this]
    · have ei : i = A.length := by omega
      subst ei
      simp [h0]
theorem MaskOk.keep {A : List (Con n)} {a : Vec n} {ex : Bool} {v : Vec n} {m : Nat} (h : MaskOk A v m) (h0 : dot a v ≠ 0) : MaskOk (A ++ [(a, ex)]) v m := by
  have e : (A ++ [(a, ex)]).length = A.length + 1 := by simp
  refine ⟨?_, fun i hi => ?_⟩
  · rw [e]
    exact Nat.lt_trans h.1 (Nat.pow_lt_pow_right (by omega) (by omega))
  · by_cases hk : i < A.length
    · rw [h.2 i hk, List.getElem_append_left hk]
    · have ei : i = A.length := by omega
      subst ei
      have : m.testBit A.length = false := Nat.testBit_lt_two_pow h.1
      simp [h0, this]
theorem MaskOk.and {A : List (Con n)} {p q w : Vec n} {a : Vec n} {ex : Bool} {m k : Nat} (hm : MaskOk A p m) (hk : MaskOk A q k) (hz : ∀ c ∈ A, dot c.1 w = 0 ↔ (dot c.1 p = 0 ∧ dot c.1 q = 0)) (h0 : dot a w = 0) : MaskOk (A ++ [(a, ex)]) w ((m &&& k) ||| 2 ^ A.length) := by
  refine MaskOk.or (v := w) ⟨Nat.lt_of_le_of_lt Nat.and_le_left hm.1, fun i hi => ?_⟩ (fun _ _ => Iff.rfl) h0
  rw [Nat.testBit_and, hm.2 i hi, hk.2 i hi]
  have hz' := hz A[i] (List.getElem_mem hi)
  by_cases q1 : dot A[i].1 p = 0
  · by_cases q2 : dot A[i].1 q = 0
    · simp [q1, q2, hz'.mpr ⟨q1, q2⟩]
    · have : ¬ dot A[i].1 w = 0 := fun z => q2 (hz'.mp z).2
      simp [q1, q2, this]
  · have : ¬ dot A[i].1 w = 0 := fun z => q1 (hz'.mp z).1
    simp [q1, this]
/-- a mask holds another's zeros -/
theorem mask_sub {A : List (Con n)} {p q r : Vec n} {m k t : Nat} (hm : MaskOk A p m) (hk : MaskOk A q k) (ht : MaskOk A r t) : (t &&& (m &&& k) == (m &&& k)) = true ↔ ∀ c ∈ A, dot c.1 p = 0 → dot c.1 q = 0 → dot c.1 r = 0 := by
  rw [beq_iff_eq]
  constructor
  · intro h c hc e1 e2
    obtain ⟨i, hi, rfl⟩ := List.getElem_of_mem hc
    have := congrArg (fun x => x.testBit i) h
    simp only [Nat.testBit_and, hm.2 i hi, hk.2 i hi, ht.2 i hi, e1, e2] at this
    simpa using this
  · intro h
    refine Nat.eq_of_testBit_eq fun i => ?_
    simp only [Nat.testBit_and]
    by_cases hi : i < A.length
    · rw [hm.2 i hi, hk.2 i hi, ht.2 i hi]
      by_cases e1 : dot A[i].1 p = 0
      · by_cases e2 : dot A[i].1 q = 0
        · have := h A[i] (List.getElem_mem hi) e1 e2
          simp [e1, e2, this]
        · simp [e2]
      · simp [e1]
    · have : m.testBit i = false := Nat.testBit_lt_two_pow (Nat.lt_of_lt_of_le hm.1 (Nat.pow_le_pow_right (by omega) (by omega)))
      simp [this]
theorem nbB_iff {A : List (Con n)} {rays : List (Vec n × Nat)} (hm : ∀ r ∈ rays, MaskOk A r.1 r.2) {p q : Vec n × Nat} (hp : p ∈ rays) (hq : q ∈ rays) :
    nbB rays p.1 q.1 (p.2 &&& q.2) = true ↔ ∀ r ∈ rays.map (·.1), (∀ c ∈ A, dot c.1 p.1 = 0 → dot c.1 q.1 = 0 → dot c.1 r = 0) → r = p.1 ∨ r = q.1 := by
  unfold nbB
  rw [List.all_eq_true]
  constructor
  · intro h r hr hz
    obtain ⟨x, hx, rfl⟩ := List.mem_map.mp hr
    have := h x hx
    rw [(mask_sub (hm p hp) (hm q hq) (hm x hx)).mpr hz] at this
    simp at this
    exact this
  · intro h x hx
    cases e : (x.2 &&& (p.2 &&& q.2) == (p.2 &&& q.2)) with
    | false => rfl
    | true =>
      have := h x.1 (List.mem_map.mpr ⟨x, hx, rfl⟩) ((mask_sub (hm p hp) (hm q hq) (hm x hx)).mp e)
      simp
      exact this

/-- the neighbours, told of the vectors alone -/
noncomputable def nbV (A : List (Con n)) (R : List (Vec n)) (p q : Vec n) : Bool :=
  @decide (∀ r ∈ R, (∀ c ∈ A, dot c.1 p = 0 → dot c.1 q = 0 → dot c.1 r = 0) → r = p ∨ r = q) (Classical.propDecidable _)
theorem nbV_ok (A : List (Con n)) (R : List (Vec n)) : NbOk A R (nbV A R) := fun p _ q _ => by
  unfold nbV
  exact @decide_eq_true_iff _ (Classical.propDecidable _)
theorem add_none_rays {A : List (Con n)} {a : Vec n} {ex : Bool} {bit : Nat} {rays : List (Vec n × Nat)} (hm : ∀ r ∈ rays, MaskOk A r.1 r.2) :
    ((keptB a bit rays ++ if ex then [] else possB a rays) ++ freshB a bit rays).map (·.1) = next a ex (rays.map (·.1)) (nbV A (rays.map (·.1))) := by
  unfold next
  rw [List.map_append, List.map_append]
  congr 1
  · congr 1
    · unfold keptB kept
      rw [List.map_map, List.filter_map]
      rfl
    · unfold possB poss
      cases ex with
      | true => rfl
      | false => rw [List.filter_map]; rfl
  · unfold freshB fresh
    have e1 : poss a (rays.map (·.1)) = (possB a rays).map (·.1) := by unfold poss possB; rw [List.filter_map]; rfl
    have e2 : negs a (rays.map (·.1)) = (negsB a rays).map (·.1) := by unfold negs negsB; rw [List.filter_map]; rfl
    rw [e1, e2, List.map_flatMap, List.flatMap_map]
    unfold List.flatMap
    congr 1
    refine List.map_congr_left fun p hp => ?_
    rw [List.map_map, List.filter_map, List.map_map]
    have e3 : (negsB a rays).filter (fun q => nbB rays p.1 q.1 (p.2 &&& q.2)) = (negsB a rays).filter ((fun q => nbV A (rays.map (·.1)) p.1 q) ∘ (·.1)) := by
      refine List.filter_congr fun q hq => ?_
      have hp' : p ∈ rays := (List.mem_filter.mp hp).1
      have hq' : q ∈ rays := (List.mem_filter.mp hq).1
      have k1 := nbB_iff hm hp' hq'
      have k2 := nbV_ok A (rays.map (·.1)) p.1 (List.mem_map.mpr ⟨p, hp', rfl⟩) q.1 (List.mem_map.mpr ⟨q, hq', rfl⟩)
      rw [Bool.eq_iff_iff]
      exact k1.trans k2.symm
    rw [e3]
    rfl

theorem unit_Prim (j : Fin n) : Prim (unit j) := by
  have h := gcdV_dvd (unit j) j
  have : (unit j j).natAbs = 1 := by simp [unit]
  rw [this] at h
  exact Nat.dvd_one.mp h
theorem binv0 : BInv ([] : List (Con n)) (bld0 n) ((List.finRange n).map fun j => (unit j, j)) where
  lines := by simp [bld0, List.map_map, Function.comp_def]
  basis := by
    refine ⟨fun p _ q hq => (by cases hq), fun p hp => ?_, ?_, fun v _ hz => funext fun i => hz (unit i, i) (List.mem_map.mpr ⟨i, List.mem_finRange i, rfl⟩)⟩
    · obtain ⟨j, _, rfl⟩ := List.mem_map.mp hp
      simp [unit]
    · rw [List.pairwise_map]
      refine (pairwise_finRange n).imp fun {a b} h => ?_
      have : a ≠ b := fun e => by rw [e] at h; omega
      exact ⟨by simp [unit, this.symm], by simp [unit, this]⟩
  rinv := ⟨by simp [bld0], by simp [bld0], fun v _ hn => absurd (fun p hp => by cases hp) hn, by simp [bld0]⟩
  off := by simp [bld0]
  prL := fun l hl => by
    obtain ⟨j, _, rfl⟩ := List.mem_map.mp hl
    exact unit_Prim j
  prR := by simp [bld0]
  count := rfl
  mask := by simp [bld0]

/-- THE STEP -/
theorem BInv.add {A : List (Con n)} {b : Bld n} {B : List (Vec n × Fin n)} (h : BInv A b B) (a : Vec n) (ex : Bool) : ∃ B', BInv (A ++ [(a, ex)]) (add a ex b) B' := by
  unfold Fm.add
  cases ht : turnIx a b.lines with
  | some i =>
    dsimp only
    have ht' := ht
    rw [h.lines] at ht'
    obtain ⟨B1, B2, l0, j0, e1, e2, e3, e4, e5⟩ := turnIx_some ht'
    rw [h.lines, e3, e5]
    obtain ⟨l, hl⟩ : ∃ l, l = orient a l0 := ⟨_, rfl⟩
    rw [← hl]
    have hb := h.basis
    rw [e1] at hb
    have hpos : 0 < dot a l := by rw [hl]; exact orient_pos e4
    have hcase : l = l0 ∨ l = neg l0 := by rw [hl]; exact orient_cases a l0
    have hl0 : lin A l0 := hb.mem (l0, j0) (by simp)
    have hlin : lin A l := by
      rcases hcase with e | e
      · rw [e]; exact hl0
      · rw [e]; exact (Sub.lin A).neg hl0
    have sub : ∀ p ∈ B1 ++ B2, p ∈ B := fun p hp => by
      rw [e1]
      rcases List.mem_append.mp hp with k | k
      · exact List.mem_append_left _ k
      · exact List.mem_append_right _ (List.mem_cons_of_mem _ k)
    have off := hb.off
    rw [List.pairwise_append, List.pairwise_cons] at off
    have l0z : ∀ p ∈ B1 ++ B2, l0 p.2 = 0 := fun p hp => by
      rcases List.mem_append.mp hp with k | k
      · exact (off.2.2 p k (l0, j0) List.mem_cons_self).2
      · exact (off.2.1.1 p k).1
    have lz : ∀ p ∈ B1 ++ B2, l p.2 = 0 := fun p hp => by
      rcases hcase with e | e
      · rw [e]; exact l0z p hp
      · rw [e]
        show -l0 p.2 = 0
        rw [l0z p hp]; rfl
    have lP : Prim l := by
      rw [hl]
      refine orient_Prim (h.prL l0 ?_)
      rw [h.lines, e1]
      simp
    have mz : ∀ v : Vec n, ∀ p ∈ B1 ++ B2, v p.2 = 0 → prim (moved a l v) p.2 = 0 := fun v p hp hv => by
      rw [prim_zero_iff]
      show dot a l * v p.2 + -(dot a v) * l p.2 = 0
      rw [hv, lz p hp]; simp
    have bt := hb.turn (ex := ex) hcase hpos
    refine ⟨(B1 ++ B2).map fun p => (prim (moved a l p.1), p.2), ?_, bt, ?_, ?_, ?_, ?_, ?_, ?_⟩
    · show ((B1 ++ B2).map (·.1)).map _ = _
      rw [List.map_map, List.map_map]; rfl
    · have e6 : ((b.rays.map (fun r => (prim (moved a l r.1), r.2 ||| 2 ^ b.count)) ++ if ex then [] else [(l, 2 ^ b.count - 1)] : List (Vec n × Nat))).map (fun r => r.1) = (b.rays.map (·.1)).map (fun r => prim (moved a l r)) ++ if ex then [] else [l] := by
        rw [List.map_append, List.map_map, List.map_map]
        cases ex <;> rfl
      show RInv _ (List.map _ _)
      rw [e6]
      exact h.rinv.turn hlin hpos
    · intro r hr p hp
      obtain ⟨q, hq, rfl⟩ := List.mem_map.mp hp
      rcases List.mem_append.mp hr with hr | hr
      · obtain ⟨x, hx, rfl⟩ := List.mem_map.mp hr
        exact mz _ q hq (h.off x hx q (sub q hq))
      · cases ex with
        | true => simp at hr
        | false =>
          have : r = (l, 2 ^ b.count - 1) := by simpa using hr
          rw [this]
          exact lz q hq
    · intro x hx
      obtain ⟨y, hy, rfl⟩ := List.mem_map.mp hx
      obtain ⟨q, hq, rfl⟩ := List.mem_map.mp hy
      refine prim_Prim fun z => ?_
      have := bt.piv (prim (moved a l q.1), q.2) (List.mem_map.mpr ⟨q, hq, rfl⟩)
      exact this ((prim_zero_iff _ _).mpr (by rw [z]; rfl))
    · intro r hr
      rcases List.mem_append.mp hr with hr | hr
      · obtain ⟨x, hx, rfl⟩ := List.mem_map.mp hr
        refine prim_Prim fun z => ?_
        refine h.rinv.nlin x.1 (List.mem_map.mpr ⟨x, hx, rfl⟩) fun c hc => ?_
        refine (moved_zero hlin hpos hc).mp ?_
        rw [z]; exact dot_zero _
      · cases ex with
        | true => simp at hr
        | false =>
          have : r = (l, 2 ^ b.count - 1) := by simpa using hr
          rw [this]; exact lP
    · show b.count + 1 = _
      rw [h.count]; simp
    · intro r hr
      rcases List.mem_append.mp hr with hr | hr
      · obtain ⟨x, hx, rfl⟩ := List.mem_map.mp hr
        show MaskOk _ (prim (moved a l x.1)) (x.2 ||| 2 ^ b.count)
        rw [h.count]
        exact (h.mask x hx).or (fun c hc => (dot_prim_zero _ _).trans (moved_zero hlin hpos hc)) ((dot_prim_zero _ _).mpr (dot_moved_self _ _ _))
      · cases ex with
        | true => simp at hr
        | false =>
          have : r = (l, 2 ^ b.count - 1) := by simpa using hr
          rw [this]
          show MaskOk _ l (2 ^ b.count - 1)
          rw [h.count]
          have p0 : 0 < 2 ^ A.length := Nat.pow_pos (by omega)
          refine MaskOk.keep ⟨by omega, fun i hi => ?_⟩ (by omega)
          rw [Nat.testBit_two_pow_sub_one, hlin A[i] (List.getElem_mem hi)]
          simp [hi]
  | none =>
    dsimp only
    have hz := turnIx_none ht
    have hzB : ∀ p ∈ B, dot a p.1 = 0 := fun p hp => hz p.1 (by rw [h.lines]; exact List.mem_map.mpr ⟨p, hp, rfl⟩)
    have ha : ∀ v, lin A v → dot a v = 0 := fun v hv => h.basis.gen (Sub.lin A) hv hzB
    have hR : ∀ x ∈ b.rays, x.1 ∈ b.rays.map (·.1) := fun x hx => List.mem_map.mpr ⟨x, hx, rfl⟩
    have hin : ∀ r, r ∈ ((keptB a (2 ^ b.count) b.rays ++ if ex then [] else possB a b.rays) ++ freshB a (2 ^ b.count) b.rays) →
        (∃ x ∈ b.rays, dot a x.1 = 0 ∧ r = (x.1, x.2 ||| 2 ^ b.count)) ∨ (r ∈ b.rays ∧ 0 < dot a r.1) ∨ ∃ p ∈ b.rays, ∃ q ∈ b.rays, 0 < dot a p.1 ∧ dot a q.1 < 0 ∧ r = (prim (mid a p.1 q.1), (p.2 &&& q.2) ||| 2 ^ b.count) := by
      intro r hr
      rcases List.mem_append.mp hr with hr | hr
      · rcases List.mem_append.mp hr with hr | hr
        · unfold keptB at hr
          obtain ⟨x, hx, rfl⟩ := List.mem_map.mp hr
          obtain ⟨h1, h2⟩ := List.mem_filter.mp hx
          exact .inl ⟨x, h1, by simpa using h2, rfl⟩
        · cases ex with
          | true => simp at hr
          | false =>
            obtain ⟨h1, h2⟩ := List.mem_filter.mp (show r ∈ possB a b.rays by simpa using hr)
            exact .inr (.inl ⟨h1, by simpa using h2⟩)
      · unfold freshB at hr
        obtain ⟨p, hp, hr⟩ := List.mem_flatMap.mp hr
        obtain ⟨q, hq, rfl⟩ := List.mem_map.mp hr
        obtain ⟨h1, h2⟩ := List.mem_filter.mp hp
        obtain ⟨h3, h4⟩ := List.mem_filter.mp (List.mem_filter.mp hq).1
        exact .inr (.inr ⟨p, h1, q, h3, by simpa using h2, by simpa using h4, rfl⟩)
    have ms : ∀ {p q : Vec n × Nat}, p ∈ b.rays → q ∈ b.rays → 0 < dot a p.1 → dot a q.1 < 0 → ∀ c ∈ A, dot c.1 (mid a p.1 q.1) = 0 ↔ (dot c.1 p.1 = 0 ∧ dot c.1 q.1 = 0) := fun {p q} hp hq h1 h2 c hc =>
      ⟨fun z => mid_zero (h.rinv.sat_ _ (hR p hp)) (h.rinv.sat_ _ (hR q hq)) h1 h2 hc z, fun z => mid_zero' z.1 z.2⟩
    refine ⟨B, h.lines, h.basis.stay hzB, ?_, ?_, h.prL, ?_, ?_, ?_⟩
    · show RInv _ (List.map _ _)
      rw [add_none_rays h.mask]
      exact h.rinv.next ha (nbV_ok A _)
    · intro r hr p hp
      rcases hin r hr with ⟨x, hx, h0, rfl⟩ | ⟨h1, h2⟩ | ⟨x, hx, y, hy, h1, h2, rfl⟩
      · exact h.off x hx p hp
      · exact h.off r h1 p hp
      · show prim (mid a x.1 y.1) p.2 = 0
        rw [prim_zero_iff]
        show dot a x.1 * y.1 p.2 + -(dot a y.1) * x.1 p.2 = 0
        rw [h.off x hx p hp, h.off y hy p hp]; simp
    · intro r hr
      rcases hin r hr with ⟨x, hx, h0, rfl⟩ | ⟨h1, h2⟩ | ⟨x, hx, y, hy, h1, h2, rfl⟩
      · exact h.prR x hx
      · exact h.prR r h1
      · refine prim_Prim fun z => ?_
        refine h.rinv.nlin x.1 (hR x hx) fun c hc => ((ms hx hy h1 h2 c hc).mp ?_).1
        rw [z]; exact dot_zero _
    · show b.count + 1 = _
      rw [h.count]; simp
    · intro r hr
      rcases hin r hr with ⟨x, hx, h0, rfl⟩ | ⟨h1, h2⟩ | ⟨x, hx, y, hy, h1, h2, rfl⟩
      · show MaskOk _ x.1 (x.2 ||| 2 ^ b.count)
        rw [h.count]
        exact (h.mask x hx).or (fun _ _ => Iff.rfl) h0
      · exact (h.mask r h1).keep (by omega)
      · show MaskOk _ (prim (mid a x.1 y.1)) ((x.2 &&& y.2) ||| 2 ^ b.count)
        rw [h.count]
        exact (h.mask x hx).and (h.mask y hy) (fun c hc => (dot_prim_zero _ _).trans (ms hx hy h1 h2 c hc)) ((dot_prim_zero _ _).mpr (dot_mid_self _ _ _))
theorem binv_aux (A' : List (Con n)) : ∀ (A : List (Con n)) (b : Bld n) (B : List (Vec n × Fin n)), BInv A b B → ∃ B', BInv (A ++ A') (A'.foldl (fun b p => Fm.add p.1 p.2 b) b) B' := by
  induction A' with
  | nil => intro A b B h; exact ⟨B, by simpa using h⟩
  | cons p A' ih =>
    intro A b B h
    obtain ⟨B1, h1⟩ := h.add p.1 p.2
    obtain ⟨B2, h2⟩ := ih _ _ _ h1
    exact ⟨B2, by simpa using h2⟩
/-- THE BUILDER's invariant holds -/
theorem run_inv (A : List (Con n)) : ∃ B, BInv A (run A) B := by
  obtain ⟨B, h⟩ := binv_aux A [] (bld0 n) _ binv0
  exact ⟨B, by unfold run; simpa using h⟩
end Fm
/-! dual (mirror): what it gives is told by the cone alone. Plain Lean. -/
namespace Fm
variable {n : Nat}

def lexLe : List Int → List Int → Bool
  | [], _ => true
  | _ :: _, [] => false
  | a :: as, b :: bs => decide (a < b) || (decide (a = b) && lexLe as bs)
theorem lexLe_total : ∀ (u v : List Int), (lexLe u v || lexLe v u) = true
  | [], _ => by simp [lexLe]
  | _ :: _, [] => by simp [lexLe]
  | a :: as, b :: bs => by
    have := lexLe_total as bs
    simp only [lexLe, Bool.or_eq_true, Bool.and_eq_true, decide_eq_true_eq] at *
    rcases Int.lt_trichotomy a b with h | h | h
    · exact .inl (.inl h)
    · rcases this with k | k
      · exact .inl (.inr ⟨h, k⟩)
      · exact .inr (.inr ⟨h.symm, k⟩)
    · exact .inr (.inl h)
theorem lexLe_trans : ∀ (u v w : List Int), lexLe u v = true → lexLe v w = true → lexLe u w = true
  | [], _, _, _, _ => by simp [lexLe]
  | _ :: _, [], _, h, _ => by simp [lexLe] at h
  | _ :: _, _ :: _, [], _, h => by simp [lexLe] at h
  | a :: as, b :: bs, c :: cs, h, k => by
    have ih := lexLe_trans as bs cs
    simp only [lexLe, Bool.or_eq_true, Bool.and_eq_true, decide_eq_true_eq] at *
    rcases h with h | ⟨h, h'⟩
    · rcases k with k | ⟨k, k'⟩
      · exact .inl (by omega)
      · exact .inl (by omega)
    · rcases k with k | ⟨k, k'⟩
      · exact .inl (by omega)
      · exact .inr ⟨by omega, ih h' k'⟩
theorem lexLe_antisymm : ∀ (u v : List Int), lexLe u v = true → lexLe v u = true → u = v
  | [], [], _, _ => rfl
  | [], _ :: _, _, h => by simp [lexLe] at h
  | _ :: _, [], h, _ => by simp [lexLe] at h
  | a :: as, b :: bs, h, k => by
    have ih := lexLe_antisymm as bs
    simp only [lexLe, Bool.or_eq_true, Bool.and_eq_true, decide_eq_true_eq] at *
    rcases h with h | ⟨h, h'⟩
    · rcases k with k | ⟨k, k'⟩ <;> omega
    · rcases k with k | ⟨k, k'⟩
      · omega
      · rw [h, ih h' k']
def vecLe (u v : Vec n) : Bool := lexLe (List.ofFn u) (List.ofFn v)
theorem ofFn_inj {u v : Vec n} (h : List.ofFn u = List.ofFn v) : u = v := funext fun i => by have := congrArg (fun l => l[i.val]?) h; simpa using this
def sortRays (l : List (Vec n)) : List (Vec n) := l.mergeSort vecLe
def dedup (l : List (Vec n)) : List (Vec n) := l.foldl (fun acc r => if r ∈ acc then acc else acc ++ [r]) []
def consOf (E C : List (Vec n)) : List (Con n) := E.map (fun e => (e, true)) ++ C.map (fun c => (c, false))
def dual (E C : List (Vec n)) : List (Vec n) × List (Vec n) :=
  (echelon (run (consOf E C)).lines, sortRays (dedup ((run (consOf E C)).rays.map fun r => reduced r.1 (echelon (run (consOf E C)).lines))))

structure Spec (A : List (Con n)) (G : List (Vec n × Fin n)) (S : List (Vec n)) : Prop where
  ech : Ech G
  bas : Basis (lin A) G
  srt : G.Pairwise (fun p q => key p.2 < key q.2)
  rinv : RInv A S
  prm : ∀ s ∈ S, Prim s
  red : ∀ s ∈ S, ∀ p ∈ G, s p.2 = 0
  ord : S.Pairwise (fun u v => vecLe u v = true)

/-! ### reduced -/
theorem fold_same {A : List (Con n)} : ∀ (G : List (Vec n × Fin n)) (v : Vec n), (∀ p ∈ G, pivotOf p.1 = some p.2) → (∀ p ∈ G, 0 < p.1 p.2) → (∀ p ∈ G, lin A p.1) →
    ∃ g x : Int, 0 < g ∧ 0 < x ∧ ∀ c ∈ A, g * dot c.1 ((G.map (·.1)).foldl clearBy v) = x * dot c.1 v
  | [], v, _, _, _ => ⟨1, 1, by omega, by omega, fun _ _ => rfl⟩
  | p :: G, v, h1, h2, h3 => by
    rw [List.map_cons, List.foldl_cons, clearBy_piv (h1 p List.mem_cons_self)]
    obtain ⟨g, x, hg, hx, e⟩ := fold_same G (cleared v p.1 p.2) (fun q hq => h1 q (List.mem_cons_of_mem _ hq)) (fun q hq => h2 q (List.mem_cons_of_mem _ hq)) (fun q hq => h3 q (List.mem_cons_of_mem _ hq))
    obtain ⟨g', x', y', hg', hx', e'⟩ := cleared_eq v p.1 p.2 (h2 p List.mem_cons_self)
    refine ⟨g' * g, x * x', Int.mul_pos hg' hg, Int.mul_pos hx hx', fun c hc => ?_⟩
    have k1 := e c hc
    have k2 := e' c.1
    rw [h3 p List.mem_cons_self c hc] at k2
    rw [Int.mul_assoc, k1]
    grind
theorem fold_Prim {A : List (Con n)} : ∀ (G : List (Vec n × Fin n)) (v : Vec n), (∀ p ∈ G, pivotOf p.1 = some p.2) → (∀ p ∈ G, 0 < p.1 p.2) → (∀ p ∈ G, lin A p.1) → Prim v → ¬ lin A v → Prim ((G.map (·.1)).foldl clearBy v)
  | [], v, _, _, _, h, _ => h
  | p :: G, v, h1, h2, h3, hp, hn => by
    rw [List.map_cons, List.foldl_cons, clearBy_piv (h1 p List.mem_cons_self)]
    have hn' : ¬ lin A (cleared v p.1 p.2) := fun z => hn fun c hc => by
      obtain ⟨g', x', y', hg', hx', e'⟩ := cleared_eq v p.1 p.2 (h2 p List.mem_cons_self)
      have k2 := e' c.1
      rw [h3 p List.mem_cons_self c hc, z c hc] at k2
      simp only [Int.mul_zero, Int.add_zero] at k2
      rcases Int.mul_eq_zero.mp k2.symm with y | y
      · omega
      · exact y
    refine fold_Prim G _ (fun q hq => h1 q (List.mem_cons_of_mem _ hq)) (fun q hq => h2 q (List.mem_cons_of_mem _ hq)) (fun q hq => h3 q (List.mem_cons_of_mem _ hq)) ?_ hn'
    unfold cleared at hn' ⊢
    split
    · exact hp
    · rename_i hz
      rw [if_neg hz] at hn'
      refine prim_Prim fun z => hn' ?_
      rw [z, prim_zero]
      exact lin_zero A
theorem RInv.map {A : List (Con n)} {R : List (Vec n)} (h : RInv A R) {f : Vec n → Vec n} (hf : ∀ r ∈ R, ∃ g x : Int, 0 < g ∧ 0 < x ∧ ∀ c ∈ A, g * dot c.1 (f r) = x * dot c.1 r) : RInv A (R.map f) := by
  have zz : ∀ r ∈ R, ∀ c ∈ A, dot c.1 (f r) = 0 ↔ dot c.1 r = 0 := fun r hr c hc => by
    obtain ⟨g, x, hg, hx, e⟩ := hf r hr
    have e := e c hc
    constructor
    · intro z
      rw [z] at e
      simp only [Int.mul_zero] at e
      rcases Int.mul_eq_zero.mp e.symm with y | y
      · omega
      · exact y
    · intro z
      rw [z] at e
      simp only [Int.mul_zero] at e
      rcases Int.mul_eq_zero.mp e with y | y
      · omega
      · exact y
  refine ⟨?_, ?_, ?_, ?_⟩
  · intro s hs
    obtain ⟨r, hr, rfl⟩ := List.mem_map.mp hs
    intro c hc
    have k := h.sat_ r hr c hc
    refine ⟨?_, fun e => (zz r hr c hc).mpr (k.2 e)⟩
    obtain ⟨g, x, hg, hx, e⟩ := hf r hr
    have e := e c hc
    have := Int.mul_nonneg (Int.le_of_lt hx) k.1
    exact Int.nonneg_of_mul_nonneg_right (by omega) hg
  · intro s hs
    obtain ⟨r, hr, rfl⟩ := List.mem_map.mp hs
    exact fun z => h.nlin r hr fun c hc => (zz r hr c hc).mp (z c hc)
  · intro v hv hn
    obtain ⟨r, hr, hz⟩ := h.cov v hv hn
    exact ⟨f r, List.mem_map.mpr ⟨r, hr, rfl⟩, fun c hc e => (zz r hr c hc).mpr (hz c hc e)⟩
  · rw [List.pairwise_map]
    refine List.Pairwise.imp_of_mem (fun {r s} hr hs q => ?_) h.anti
    exact ⟨fun z => q.1 fun c hc e => (zz s hs c hc).mp (z c hc ((zz r hr c hc).mpr e)), fun z => q.2 fun c hc e => (zz r hr c hc).mp (z c hc ((zz s hs c hc).mpr e))⟩
theorem RInv.perm {A : List (Con n)} {R S : List (Vec n)} (h : RInv A R) (p : S.Perm R) : RInv A S :=
  ⟨fun s hs => h.sat_ s (p.mem_iff.mp hs), fun s hs => h.nlin s (p.mem_iff.mp hs), fun v hv hn => by
    obtain ⟨r, hr, hz⟩ := h.cov v hv hn
    exact ⟨r, p.mem_iff.mpr hr, hz⟩, (p.pairwise_iff fun {_ _} e => ⟨e.2, e.1⟩).mpr h.anti⟩
theorem RInv.nodup {A : List (Con n)} {R : List (Vec n)} (h : RInv A R) : R.Pairwise (· ≠ ·) := h.anti.imp fun q e => q.1 (by rw [e]; exact Zle.refl _ _)
theorem dedup_aux : ∀ (l acc : List (Vec n)), (acc ++ l).Pairwise (· ≠ ·) → l.foldl (fun acc r => if r ∈ acc then acc else acc ++ [r]) acc = acc ++ l
  | [], acc, _ => by simp
  | r :: l, acc, h => by
    rw [List.foldl_cons]
    have hr : r ∉ acc := fun hm => by
      rw [List.pairwise_append] at h
      exact h.2.2 r hm r List.mem_cons_self rfl
    rw [if_neg hr, dedup_aux l (acc ++ [r]) (by simpa using h)]
    simp
theorem dedup_id {l : List (Vec n)} (h : l.Pairwise (· ≠ ·)) : dedup l = l := by
  unfold dedup
  rw [dedup_aux l [] (by simpa using h)]
  simp

/-- WHAT DUAL GIVES -/
theorem dual_spec (E C : List (Vec n)) : ∃ G, (dual E C).1 = G.map (·.1) ∧ Spec (consOf E C) G (dual E C).2 ∧ G.length ≤ n ∧ (dual E C).2.length = (run (consOf E C)).rays.length := by
  obtain ⟨B, h⟩ := run_inv (consOf E C)
  obtain ⟨G, h1, h2, h3, h4, h5⟩ := echelon_ok (Sub.lin (consOf E C)) h.basis
  have eF : echelon (run (consOf E C)).lines = G.map (·.1) := by rw [h.lines]; exact h4
  obtain ⟨R, hR⟩ : ∃ R, R = (run (consOf E C)).rays.map fun r => reduced r.1 (echelon (run (consOf E C)).lines) := ⟨_, rfl⟩
  have eR : R = ((run (consOf E C)).rays.map (·.1)).map fun r => (G.map (·.1)).foldl clearBy (prim r) := by
    rw [hR, List.map_map, eF]; rfl
  have rR : RInv (consOf E C) R := by
    rw [eR]
    refine h.rinv.map fun r hr => ?_
    obtain ⟨x, hx, rfl⟩ := List.mem_map.mp hr
    obtain ⟨g, y, hg, hy, e⟩ := fold_same (A := consOf E C) G (prim x.1) h1.piv h1.pos h2.mem
    rw [prim_of_Prim (h.prR x hx)] at e ⊢
    exact ⟨g, y, hg, hy, e⟩
  have pm := List.mergeSort_perm R vecLe
  have e2 : (dual E C).2 = R.mergeSort vecLe := by
    show sortRays (dedup _) = _
    rw [← hR, dedup_id rR.nodup]; rfl
  have gl : G.length ≤ n := by
    have nd : (G.map (fun p => p.2.val)).Nodup := by
      rw [List.nodup_iff_pairwise_ne, List.pairwise_map]
      refine h3.imp fun {p q} k e => ?_
      have : p.2 = q.2 := Fin.ext e
      rw [this] at k
      omega
    have := nodup_len n _ nd (fun x hx => by
      obtain ⟨p, _, rfl⟩ := List.mem_map.mp hx
      exact p.2.isLt)
    rw [List.length_map] at this
    exact this
  refine ⟨G, eF, ?_, gl, ?_⟩
  · rw [e2]
    refine ⟨h1, h2, h3, rR.perm pm, fun s hs => ?_, fun s hs => ?_, ?_⟩
    · have hs := pm.mem_iff.mp hs
      rw [eR] at hs
      obtain ⟨r, hr, rfl⟩ := List.mem_map.mp hs
      obtain ⟨x, hx, rfl⟩ := List.mem_map.mp hr
      have hx1 := h.prR x hx
      rw [prim_of_Prim hx1]
      exact fold_Prim (A := consOf E C) G x.1 h1.piv h1.pos h2.mem hx1 (h.rinv.nlin _ hr)
    · have hs := pm.mem_iff.mp hs
      rw [eR] at hs
      obtain ⟨r, hr, rfl⟩ := List.mem_map.mp hs
      exact fold_zero G _ h1.piv h1.off
    · exact List.pairwise_mergeSort (le := vecLe) (fun a b c => lexLe_trans _ _ _) (fun a b => lexLe_total _ _) R
  · rw [e2, pm.length_eq, hR, List.length_map]

/-! ### the cone alone tells the generators -/
theorem exists_big (A : List (Con n)) (v : Vec n) : ∃ m : Int, 0 < m ∧ ∀ p ∈ A, dot p.1 v ≤ m ∧ -m ≤ dot p.1 v := by
  induction A with
  | nil => exact ⟨1, by omega, by simp⟩
  | cons p A ih =>
    obtain ⟨m, hm, h⟩ := ih
    refine ⟨m + (dot p.1 v).natAbs, by omega, fun q hq => ?_⟩
    rcases List.mem_cons.mp hq with rfl | hq
    · omega
    · have := h q hq; omega
theorem zle_sat {A : List (Con n)} {s t : Vec n} (hs : sat A s) (ht : sat A t) (hz : Zle A s t) : ∃ m : Int, 0 < m ∧ sat A (comb m s (-1) t) := by
  obtain ⟨m, hm, h⟩ := exists_big A t
  refine ⟨m, hm, fun p hp => ?_⟩
  rw [dot_comb]
  refine ⟨?_, fun e => by rw [(hs p hp).2 e, (ht p hp).2 e]; simp⟩
  by_cases e : dot p.1 s = 0
  · rw [e, hz p hp e]; simp
  · have k1 := (hs p hp).1
    have k2 := (h p hp).1
    have k3 : m * 1 ≤ m * dot p.1 s := Int.mul_le_mul_of_nonneg_left (by omega) (by omega)
    omega
theorem sat_zle {A : List (Con n)} {s t : Vec n} {m : Int} (ht : sat A t) (h : sat A (comb m s (-1) t)) : Zle A s t := fun p hp e => by
  have k := (h p hp).1
  rw [dot_comb, e] at k
  have := (ht p hp).1
  simp only [Int.mul_zero] at k
  omega
theorem Spec.sub {A A' : List (Con n)} {G : List (Vec n × Fin n)} {S S' : List (Vec n)} (h : Spec A G S) (h' : Spec A' G S') (e : ∀ v, sat A v ↔ sat A' v) : ∀ s ∈ S, s ∈ S' := by
  have el : ∀ v, lin A v ↔ lin A' v := fun v => by rw [sat_lin_neg, sat_lin_neg, e, e]
  intro s hs
  have sA := h.rinv.sat_ s hs
  obtain ⟨s', hs', z'⟩ := h'.rinv.cov s ((e _).mp sA) (fun z => h.rinv.nlin s hs ((el _).mpr z))
  have s'A := (e _).mpr (h'.rinv.sat_ s' hs')
  have z : Zle A s s' := by
    obtain ⟨m, hm, k⟩ := zle_sat ((e _).mp sA) (h'.rinv.sat_ s' hs') z'
    exact sat_zle s'A ((e _).mpr k)
  obtain ⟨m, c, hm, hc, hl⟩ := h.rinv.uniq hs s'A z
  have w : comb m s' (-c) s = zero := h.bas.ker _ hl fun p hp => by
    simp only [comb]
    rw [h.red s hs p hp, h'.red s' hs' p hp]; simp
  have hc0 : c ≠ 0 := fun z0 => by
    rw [z0] at w
    have : s' = zero := by
      refine smul_zero_of (g := m) (by omega) ?_
      rw [← w]
      funext i
      simp [smul, comb]
    exact (h'.prm s' hs').ne this
  have es : s' = s := by
    refine (h'.prm s' hs').unique (h.prm s hs) hm (show 0 < c by omega) fun i => ?_
    have k := congrFun w i
    simp only [comb, zero] at k
    have e3 : -c * s i = -(c * s i) := Int.neg_mul _ _
    omega
  rw [← es]; exact hs'
theorem Spec.unique {A A' : List (Con n)} {G G' : List (Vec n × Fin n)} {S S' : List (Vec n)} (h : Spec A G S) (h' : Spec A' G' S') (e : ∀ v, sat A v ↔ sat A' v) : G = G' ∧ S = S' := by
  have el : ∀ v, lin A v ↔ lin A' v := fun v => by rw [sat_lin_neg, sat_lin_neg, e, e]
  have eG : G = G' := ech_unique (Sub.lin A) h.ech h.bas h.srt h'.ech (h'.bas.congr fun v => (el v).symm) h'.srt
  subst eG
  refine ⟨rfl, ?_⟩
  have pw : ∀ {A : List (Con n)} {G : List (Vec n × Fin n)} {S : List (Vec n)}, Spec A G S → S.Pairwise (fun u v => vecLe u v = true ∧ u ≠ v) := fun h => List.Pairwise.and h.ord h.rinv.nodup
  refine sorted_ext (lt := fun u v : Vec n => vecLe u v = true ∧ u ≠ v) (fun a q => q.2 rfl) (fun a b q r => q.2 (ofFn_inj (lexLe_antisymm _ _ q.1 r.1))) (pw h) (pw h') fun x => ⟨h.sub h' e x, h'.sub h (fun v => (e v).symm) x⟩
theorem dual_unique {E C E' C' : List (Vec n)} (e : ∀ v, sat (consOf E C) v ↔ sat (consOf E' C') v) : dual E C = dual E' C' := by
  obtain ⟨G, h1, h2, _⟩ := dual_spec E C
  obtain ⟨G', h1', h2', _⟩ := dual_spec E' C'
  obtain ⟨k1, k2⟩ := h2.unique h2' e
  exact Prod.ext (by rw [h1, h1', k1]) k2
end Fm
/-! Bounds: small numbers, few rays. The law's facts. Plain Lean. -/
namespace Fm
variable {n : Nat}

/-! ### small numbers -/
def Small (M : Nat) (v : Vec n) : Prop := ∀ i, (v i).natAbs ≤ M
theorem unit_small (j : Fin n) {M : Nat} (h : 1 ≤ M) : Small M (unit j) := fun i => by
  unfold unit
  split
  · show 1 ≤ M; exact h
  · show 0 ≤ M; omega
theorem basis_bound {P : Vec n → Prop} (hP : Sub P) {G : List (Vec n × Fin n)} (hB : Basis P G) {K0 : List (Vec n)} (hK : ∀ v, P v ↔ ∀ k ∈ K0, dot k v = 0) {M : Nat} (hM : ∀ k ∈ K0, Small M k) (h1 : 1 ≤ M) {p : Vec n × Fin n} (hp : p ∈ G) (hprim : Prim p.1) : Small (bnd n M) p.1 := by
  have off : ∀ q ∈ G, q.2 ≠ p.2 → p.1 q.2 = 0 := fun q hq hne =>
    (pairwise_all (S := fun p q : Vec n × Fin n => p.1 q.2 = 0 ∧ q.1 p.2 = 0) (fun a b e => ⟨e.2, e.1⟩) hB.off p hp q hq (fun e => hne (by rw [e]))).1
  refine kernel_bound (K := K0 ++ ((G.filter fun q => decide (q.2 ≠ p.2)).map fun q => unit q.2)) hprim ?_ ?_ ?_
  · intro k hk
    rcases List.mem_append.mp hk with hk | hk
    · exact (hK _).mp (hB.mem p hp) k hk
    · obtain ⟨q, hq, rfl⟩ := List.mem_map.mp hk
      obtain ⟨h2, h3⟩ := List.mem_filter.mp hq
      rw [dot_unit]
      exact off q h2 (by simpa using h3)
  · intro k hk
    rcases List.mem_append.mp hk with hk | hk
    · exact hM k hk
    · obtain ⟨q, hq, rfl⟩ := List.mem_map.mp hk
      exact unit_small _ h1
  · intro w hw
    have w1 : P w := (hK _).mpr fun k hk => hw k (List.mem_append_left _ hk)
    have w2 : ∀ q ∈ G, q.2 ≠ p.2 → w q.2 = 0 := fun q hq hne => by
      have := hw (unit q.2) (List.mem_append_right _ (List.mem_map.mpr ⟨q, List.mem_filter.mpr ⟨hq, by simpa using hne⟩, rfl⟩))
      rwa [dot_unit] at this
    have e : comb (p.1 p.2) w (-(w p.2)) p.1 = zero := by
      refine hB.ker _ (hP.comb_ _ _ _ _ w1 (hB.mem p hp)) fun q hq => ?_
      by_cases hne : q.2 = p.2
      · rw [hne]; simp only [comb]; grind
      · simp only [comb]; rw [w2 q hq hne, off q hq hne]; simp
    refine ⟨p.1 p.2, w p.2, hB.piv p hp, fun i => ?_⟩
    have := congrFun e i
    simp only [comb, zero] at this
    have e3 : -(w p.2) * p.1 i = -(w p.2 * p.1 i) := Int.neg_mul _ _
    omega
theorem lin_iff (A : List (Con n)) (v : Vec n) : lin A v ↔ ∀ k ∈ A.map (·.1), dot k v = 0 := by
  constructor
  · intro h k hk
    obtain ⟨p, hp, rfl⟩ := List.mem_map.mp hk
    exact h p hp
  · intro h p hp
    exact h p.1 (List.mem_map.mpr ⟨p, hp, rfl⟩)
def kerRows (A : List (Con n)) (B : List (Vec n × Fin n)) (r : Vec n) : List (Vec n) := ((A.filter fun p => decide (dot p.1 r = 0)).map (·.1)) ++ B.map fun q => unit q.2
theorem kerRows_self {A : List (Con n)} {B : List (Vec n × Fin n)} {r : Vec n} (h : ∀ p ∈ B, r p.2 = 0) : ∀ k ∈ kerRows A B r, dot k r = 0 := by
  intro k hk
  rcases List.mem_append.mp hk with hk | hk
  · obtain ⟨q, hq, rfl⟩ := List.mem_map.mp hk
    have := (List.mem_filter.mp hq).2
    simpa using this
  · obtain ⟨q, hq, rfl⟩ := List.mem_map.mp hk
    rw [dot_unit]; exact h q hq
theorem ray_bound {A : List (Con n)} {R : List (Vec n)} {B : List (Vec n × Fin n)} (hR : RInv A R) (hB : Basis (lin A) B) {M : Nat} (hM : ∀ p ∈ A, Small M p.1) (h1 : 1 ≤ M) {r : Vec n} (hr : r ∈ R) (hoff : ∀ p ∈ B, r p.2 = 0) (hp : Prim r) : Small (bnd n M) r := by
  refine kernel_bound (K := kerRows A B r) hp (kerRows_self hoff) ?_ ?_
  · intro k hk
    rcases List.mem_append.mp hk with hk | hk
    · obtain ⟨q, hq, rfl⟩ := List.mem_map.mp hk
      exact hM q (List.mem_filter.mp hq).1
    · obtain ⟨q, hq, rfl⟩ := List.mem_map.mp hk
      exact unit_small _ h1
  · intro w hw
    have w1 : ∀ p ∈ A, dot p.1 r = 0 → dot p.1 w = 0 := fun p hp e => hw p.1 (List.mem_append_left _ (List.mem_map.mpr ⟨p, List.mem_filter.mpr ⟨hp, by simpa using e⟩, rfl⟩))
    have w2 : ∀ p ∈ B, w p.2 = 0 := fun p hp => by
      have := hw (unit p.2) (List.mem_append_right _ (List.mem_map.mpr ⟨p, hp, rfl⟩))
      rwa [dot_unit] at this
    obtain ⟨N, hN, hb⟩ := exists_big A w
    have sr := hR.sat_ r hr
    have s1 : sat A (comb N r 1 w) := fun p hp => by
      rw [dot_comb]
      refine ⟨?_, fun e => ?_⟩
      · by_cases e : dot p.1 r = 0
        · rw [e, w1 p hp e]; simp
        · have k1 := (sr p hp).1
          have k2 := (hb p hp).2
          have k3 : N * 1 ≤ N * dot p.1 r := Int.mul_le_mul_of_nonneg_left (by omega) (by omega)
          omega
      · have e := (sr p hp).2 e
        rw [e, w1 p hp e]; simp
    have z1 : Zle A r (comb N r 1 w) := fun p hp e => by rw [dot_comb, e, w1 p hp e]; simp
    obtain ⟨m, c, hm, hc, hl⟩ := hR.uniq hr s1 z1
    have e := hB.ker _ hl fun p hp => by
      simp only [comb]; rw [hoff p hp, w2 p hp]; simp
    refine ⟨m, c - m * N, by omega, fun i => ?_⟩
    have := congrFun e i
    simp only [comb, zero] at this
    grind
/-- few rays -/
theorem count_bound {A : List (Con n)} {R : List (Vec n)} {B : List (Vec n × Fin n)} (hR : RInv A R) (hoff : ∀ r ∈ R, ∀ p ∈ B, r p.2 = 0) : R.length ≤ (A.length + n + 1) ^ (n - 1) := by
  obtain ⟨U, hU⟩ : ∃ U : List (Vec n), U = A.map (·.1) ++ (List.finRange n).map unit := ⟨_, rfl⟩
  have hUl : U.length = A.length + n := by rw [hU]; simp
  have sel : ∀ r : Vec n, ∃ S : List (Vec n), r ∈ R → (∀ s ∈ S, s ∈ U) ∧ S.length ≤ n - 1 ∧ (∀ w, (∀ s ∈ S, dot s w = 0) → Zle A r w) ∧ ∀ s ∈ S, dot s r = 0 := by
    intro r
    by_cases hr : r ∈ R
    · obtain ⟨S, h1, h2, h3, h4⟩ := select n (kerRows A B r)
      have hr0 : r ≠ zero := fun e => hR.nlin r hr (by rw [e]; exact lin_zero A)
      have h5 := h4 ⟨r, hr0, kerRows_self (hoff r hr)⟩
      refine ⟨S, fun _ => ⟨fun s hs => ?_, by omega, fun w hw p hp e => ?_, fun s hs => kerRows_self (hoff r hr) s (h1 s hs)⟩⟩
      · rcases List.mem_append.mp (h1 s hs) with k | k
        · obtain ⟨q, hq, rfl⟩ := List.mem_map.mp k
          rw [hU]
          exact List.mem_append_left _ (List.mem_map.mpr ⟨q, (List.mem_filter.mp hq).1, rfl⟩)
        · obtain ⟨q, hq, rfl⟩ := List.mem_map.mp k
          rw [hU]
          exact List.mem_append_right _ (List.mem_map.mpr ⟨q.2, List.mem_finRange _, rfl⟩)
      · exact h3 w hw p.1 (List.mem_append_left _ (List.mem_map.mpr ⟨p, List.mem_filter.mpr ⟨hp, by simpa using e⟩, rfl⟩))
    · exact ⟨[], fun h => absurd h hr⟩
  obtain ⟨f, hf⟩ := Classical.axiomOfChoice sel
  have nd : (R.map fun r => codeL U (f r)).Nodup := by
    rw [List.nodup_iff_pairwise_ne, List.pairwise_map]
    refine List.Pairwise.imp_of_mem (fun {r s} hr hs q e => q.1 ?_) hR.anti
    obtain ⟨a1, a2, a3, a4⟩ := hf r hr
    obtain ⟨b1, b2, b3, b4⟩ := hf s hs
    have ee := codeL_inj U _ _ a1 b1 e
    exact a3 s (by rw [ee]; exact b4)
  have := nodup_len ((U.length + 1) ^ (n - 1)) _ nd (fun x hx => by
    obtain ⟨r, hr, rfl⟩ := List.mem_map.mp hx
    obtain ⟨a1, a2, a3, a4⟩ := hf r hr
    refine Nat.lt_of_lt_of_le (codeL_lt U _ a1) (Nat.pow_le_pow_right (by omega) a2))
  rw [List.length_map, hUl] at this
  exact this

/-- every state of the builder: small numbers, few rays -/
theorem run_small {A : List (Con n)} {M : Nat} (hM : ∀ p ∈ A, Small M p.1) (h1 : 1 ≤ M) :
    (∀ l ∈ (run A).lines, Small (bnd n M) l) ∧ (∀ r ∈ (run A).rays, Small (bnd n M) r.1) ∧ (run A).rays.length ≤ (A.length + n + 1) ^ (n - 1) := by
  obtain ⟨B, h⟩ := run_inv A
  refine ⟨fun l hl => ?_, fun r hr => ?_, ?_⟩
  · have hp := h.prL l hl
    rw [h.lines] at hl
    obtain ⟨p, hp', rfl⟩ := List.mem_map.mp hl
    exact basis_bound (Sub.lin A) h.basis (K0 := A.map (·.1)) (lin_iff A) (fun k hk => by
      obtain ⟨q, hq, rfl⟩ := List.mem_map.mp hk
      exact hM q hq) h1 hp' hp
  · exact ray_bound h.rinv h.basis hM h1 (List.mem_map.mpr ⟨r, hr, rfl⟩) (h.off r hr) (h.prR r hr)
  · have := count_bound (B := B) h.rinv (fun r hr p hp => by
      obtain ⟨x, hx, rfl⟩ := List.mem_map.mp hr
      exact h.off x hx p hp)
    rwa [List.length_map] at this
/-- every state of the echelon form's making -/
theorem ech_small {A : List (Con n)} {M : Nat} (hM : ∀ p ∈ A, Small M p.1) (h1 : 1 ≤ M) {L1 L2 : List (Vec n)} (e : (run A).lines = L1 ++ L2) :
    (∀ l ∈ L1.foldl echStep [], Small (bnd n M) l ∧ ∃ c, pivotOf l = some c) ∧ (L1.foldl echStep []).length = L1.length := by
  obtain ⟨B, h⟩ := run_inv A
  have e1 : B.map (·.1) = L1 ++ L2 := h.lines.symm.trans e
  obtain ⟨B1, B2, rfl, rfl, rfl⟩ := List.map_eq_append_iff.mp e1
  obtain ⟨G, g1, g2, g3, g4⟩ := ech_front (Sub.lin A) h.basis
  rw [g3]
  refine ⟨fun l hl => ?_, by rw [List.length_map, List.length_map, g4]⟩
  obtain ⟨p, hp, rfl⟩ := List.mem_map.mp hl
  refine ⟨?_, p.2, g1.piv p hp⟩
  refine basis_bound (Cut.sub (Sub.lin A) B2) g2 (K0 := A.map (·.1) ++ B2.map fun q => unit q.2) (fun v => ?_) (fun k hk => ?_) h1 hp (g1.prm p hp)
  · unfold Cut
    rw [lin_iff]
    constructor
    · rintro ⟨k1, k2⟩ k hk
      rcases List.mem_append.mp hk with hk | hk
      · exact k1 k hk
      · obtain ⟨q, hq, rfl⟩ := List.mem_map.mp hk
        rw [dot_unit]; exact k2 q hq
    · intro k
      refine ⟨fun x hx => k x (List.mem_append_left _ hx), fun p hp => ?_⟩
      have := k (unit p.2) (List.mem_append_right _ (List.mem_map.mpr ⟨p, hp, rfl⟩))
      rwa [dot_unit] at this
  · rcases List.mem_append.mp hk with hk | hk
    · obtain ⟨q, hq, rfl⟩ := List.mem_map.mp hk
      exact hM q hq
    · obtain ⟨q, hq, rfl⟩ := List.mem_map.mp hk
      exact unit_small _ h1
theorem lines_len (A : List (Con n)) : (run A).lines.length ≤ n := by
  obtain ⟨B, h⟩ := run_inv A
  obtain ⟨G, g1, g2, g3, g4, g5⟩ := echelon_ok (Sub.lin A) h.basis
  have gl : G.length ≤ n := by
    have nd : (G.map (fun p => p.2.val)).Nodup := by
      rw [List.nodup_iff_pairwise_ne, List.pairwise_map]
      refine g3.imp fun {p q} k e => ?_
      have : p.2 = q.2 := Fin.ext e
      rw [this] at k
      omega
    have := nodup_len n _ nd (fun x hx => by
      obtain ⟨p, _, rfl⟩ := List.mem_map.mp hx
      exact p.2.isLt)
    rw [List.length_map] at this
    exact this
  rw [h.lines, List.length_map]
  omega
/-- what dual gives is small -/
theorem Spec.small {A : List (Con n)} {G : List (Vec n × Fin n)} {S : List (Vec n)} (h : Spec A G S) {M : Nat} (hM : ∀ p ∈ A, Small M p.1) (h1 : 1 ≤ M) : (∀ p ∈ G, Small (bnd n M) p.1) ∧ ∀ s ∈ S, Small (bnd n M) s :=
  ⟨fun p hp => basis_bound (Sub.lin A) h.bas (K0 := A.map (·.1)) (lin_iff A) (fun k hk => by
      obtain ⟨q, hq, rfl⟩ := List.mem_map.mp hk
      exact hM q hq) h1 hp (h.ech.prm p hp), fun s hs => ray_bound h.rinv h.bas hM h1 hs (h.red s hs) (h.prm s hs)⟩

/-! ### the number of rays behind few conditions -/
def capF (r : Nat) : Nat := (r + 1) * (r + 1) / 4
def cap : Nat → Nat → Nat → Nat
  | 0, _, r => r
  | c + 1, l, r => max (if l = 0 then 0 else cap c (l - 1) (r + 1)) (cap c l (capF r))
theorem capF_mono {r s : Nat} (h : r ≤ s) : capF r ≤ capF s := Nat.div_le_div_right (Nat.mul_le_mul (by omega) (by omega))
theorem cap_mono : ∀ (c l r s : Nat), r ≤ s → cap c l r ≤ cap c l s
  | 0, _, _, _, h => h
  | c + 1, l, r, s, h => by
    have h1 := cap_mono c (l - 1) (r + 1) (s + 1) (by omega)
    have h2 := cap_mono c l (capF r) (capF s) (capF_mono h)
    simp only [cap]
    by_cases hl : l = 0
    · rw [if_pos hl, if_pos hl]; omega
    · rw [if_neg hl, if_neg hl]; omega
theorem capF_ok (O P N : Nat) : O + P + P * N ≤ capF (O + P + N) := by
  unfold capF
  rw [Nat.le_div_iff_mul_le (by omega)]
  have key : 4 * (P * (N + 1)) ≤ (P + N + 1) * (P + N + 1) := by
    have e : ((P : Int) + N + 1) * (P + N + 1) = 4 * (P * (N + 1)) + (P - N - 1) * (P - N - 1) := by grind
    have sq : (0 : Int) ≤ (P - N - 1) * (P - N - 1) := by
      rcases Int.le_total 0 ((P : Int) - N - 1) with h | h
      · exact Int.mul_nonneg h h
      · have := Int.mul_nonneg (show 0 ≤ -((P : Int) - N - 1) by omega) (show 0 ≤ -((P : Int) - N - 1) by omega)
        have e2 : -((P : Int) - N - 1) * -((P : Int) - N - 1) = (P - N - 1) * (P - N - 1) := by grind
        omega
    have : (4 : Int) * (P * (N + 1)) ≤ (P + N + 1) * (P + N + 1) := by omega
    exact_mod_cast this
  by_cases hO : O = 0
  · subst hO
    have e1 : P + P * N = P * (N + 1) := by rw [Nat.mul_add, Nat.mul_one]; omega
    simp only [Nat.zero_add]
    rw [e1]; omega
  · by_cases hPN : P + N = 0
    · have hP : P = 0 := by omega
      have hN : N = 0 := by omega
      subst hP hN
      simp only [Nat.add_zero, Nat.zero_mul]
      obtain ⟨k, rfl⟩ : ∃ k, O = k + 1 := ⟨O - 1, by omega⟩
      have : (k + 1 + 1) * (k + 1 + 1) = k * k + 4 * k + 4 := by grind
      rw [this]
      have : 0 ≤ k * k := Nat.zero_le _
      omega
    · have e1 : P + P * N = P * (N + 1) := by rw [Nat.mul_add, Nat.mul_one]; omega
      have e2 : (O + P + N + 1) * (O + P + N + 1) = (P + N + 1) * (P + N + 1) + O * (2 * (P + N) + 2 + O) := by grind
      have e3 : O * 4 ≤ O * (2 * (P + N) + 2 + O) := by
        by_cases h1 : 1 ≤ P + N
        · exact Nat.mul_le_mul_left _ (by omega)
        · omega
      rw [e2]; omega
theorem freshB_len (a : Vec n) (bit : Nat) (rays : List (Vec n × Nat)) : (freshB a bit rays).length ≤ (possB a rays).length * (negsB a rays).length := by
  unfold freshB
  have : ∀ l : List (Vec n × Nat), (l.flatMap fun p => ((negsB a rays).filter fun q => nbB rays p.1 q.1 (p.2 &&& q.2)).map fun q => (prim (mid a p.1 q.1), (p.2 &&& q.2) ||| bit)).length ≤ l.length * (negsB a rays).length := by
    intro l
    induction l with
    | nil => simp
    | cons p l ih =>
      rw [List.flatMap_cons, List.length_append, List.length_map, List.length_cons, Nat.add_mul, Nat.one_mul]
      have := List.length_filter_le (fun q => nbB rays p.1 q.1 (p.2 &&& q.2)) (negsB a rays)
      omega
  exact this _
theorem parts_len (a : Vec n) (bit : Nat) : ∀ (rays : List (Vec n × Nat)), (keptB a bit rays).length + (possB a rays).length + (negsB a rays).length = rays.length
  | [] => rfl
  | r :: rays => by
    have ih := parts_len a bit rays
    unfold keptB possB negsB at *
    simp only [List.filter_cons, List.length_map] at *
    rcases Int.lt_trichotomy (dot a r.1) 0 with h | h | h
    · have h1 : ¬ dot a r.1 = 0 := by omega
      have h2 : ¬ 0 < dot a r.1 := by omega
      simp [h, h1, h2] at *; omega
    · simp [h] at *; omega
    · have h1 : ¬ dot a r.1 = 0 := by omega
      have h2 : ¬ dot a r.1 < 0 := by omega
      simp [h, h1, h2] at *; omega
theorem add_len (a : Vec n) (b : Bld n) : ((add a false b).lines.length + 1 = b.lines.length ∧ (add a false b).rays.length = b.rays.length + 1) ∨ ((add a false b).lines.length = b.lines.length ∧ (add a false b).rays.length ≤ capF b.rays.length) := by
  unfold add
  cases ht : turnIx a b.lines with
  | some i =>
    left
    unfold turnIx at ht
    rw [List.findIdx?_eq_some_iff_getElem] at ht
    obtain ⟨hi, _⟩ := ht
    dsimp only
    refine ⟨?_, by simp⟩
    rw [List.length_map]
    unfold restOf
    rw [List.length_append, List.length_take, List.length_drop]
    omega
  | none =>
    right
    dsimp only
    refine ⟨rfl, ?_⟩
    have h1 := parts_len a (2 ^ b.count) b.rays
    have h2 := freshB_len a (2 ^ b.count) b.rays
    have h3 := capF_ok (keptB a (2 ^ b.count) b.rays).length (possB a b.rays).length (negsB a b.rays).length
    rw [h1] at h3
    simp only [List.length_append, Bool.false_eq_true, if_false]
    omega
theorem fold_cap : ∀ (C : List (Vec n)) (b : Bld n), (C.foldl (fun b c => add c false b) b).rays.length ≤ cap C.length b.lines.length b.rays.length
  | [], b => Nat.le_refl _
  | c :: C, b => by
    rw [List.foldl_cons, List.length_cons]
    have ih := fold_cap C (add c false b)
    simp only [cap]
    rcases add_len c b with ⟨h1, h2⟩ | ⟨h1, h2⟩
    · have e : (add c false b).lines.length = b.lines.length - 1 := by omega
      rw [e, h2] at ih
      have : ¬ b.lines.length = 0 := by omega
      rw [if_neg this]; omega
    · rw [h1] at ih
      have := cap_mono C.length b.lines.length _ _ h2
      omega
theorem fold_exact : ∀ (E : List (Vec n)) (b : Bld n), b.rays = [] → (E.foldl (fun b c => add c true b) b).rays = [] ∧ (E.foldl (fun b c => add c true b) b).lines.length ≤ b.lines.length
  | [], b, h => ⟨h, Nat.le_refl _⟩
  | e :: E, b, h => by
    rw [List.foldl_cons]
    have k : (add e true b).rays = [] ∧ (add e true b).lines.length ≤ b.lines.length := by
      unfold add
      cases ht : turnIx e b.lines with
      | some i =>
        dsimp only
        refine ⟨by simp [h], ?_⟩
        rw [List.length_map]
        unfold restOf
        rw [List.length_append, List.length_take, List.length_drop]
        unfold turnIx at ht
        rw [List.findIdx?_eq_some_iff_getElem] at ht
        obtain ⟨hi, _⟩ := ht
        omega
      | none =>
        dsimp only
        exact ⟨by simp [h, keptB, freshB, possB], Nat.le_refl _⟩
    obtain ⟨h1, h2⟩ := fold_exact E (add e true b) k.1
    exact ⟨h1, by omega⟩
theorem run_eq (E C : List (Vec n)) : run (consOf E C) = C.foldl (fun b c => add c false b) (E.foldl (fun b c => add c true b) (bld0 n)) := by
  unfold run consOf
  rw [List.foldl_append, List.foldl_map, List.foldl_map]
theorem cap_7 : ∀ l, l ≤ 5 → ∀ c, c ≤ 7 → cap c l 0 ≤ 42 := by decide +kernel
theorem rays_few {E C : List (Vec n)} (hn : n ≤ 5) (hC : C.length ≤ 7) : (run (consOf E C)).rays.length ≤ 42 := by
  rw [run_eq]
  obtain ⟨h1, h2⟩ := fold_exact E (bld0 n) rfl
  have h3 := fold_cap C (E.foldl (fun b c => add c true b) (bld0 n))
  rw [h1] at h3
  have h4 : (bld0 n).lines.length = n := by simp [bld0]
  exact Nat.le_trans h3 (cap_7 _ (by omega) _ hC)

/-! ### few facets -/
theorem len_of_rel {α β : Type} [DecidableEq β] {l : List α} {m : List β} (r : α → β → Prop) (hd : l.Pairwise (· ≠ ·)) (h1 : ∀ x ∈ l, ∃ y ∈ m, r x y) (h2 : ∀ x ∈ l, ∀ x' ∈ l, ∀ y, r x y → r x' y → x = x') : l.length ≤ m.length := by
  have hc : ∀ x : α, ∃ k : Nat, x ∈ l → ∃ y, m[k]? = some y ∧ r x y := fun x => by
    by_cases hx : x ∈ l
    · obtain ⟨y, hy, hr⟩ := h1 x hx
      obtain ⟨k, hk⟩ := List.getElem?_of_mem hy
      exact ⟨k, fun _ => ⟨y, hk, hr⟩⟩
    · exact ⟨0, fun h => absurd h hx⟩
  obtain ⟨f, hf⟩ := Classical.axiomOfChoice hc
  have nd : (l.map f).Nodup := by
    rw [List.nodup_iff_pairwise_ne, List.pairwise_map]
    refine List.Pairwise.imp_of_mem (fun {a b} ha hb q e => q ?_) hd
    obtain ⟨y, e1, r1⟩ := hf a ha
    obtain ⟨z, e2, r2⟩ := hf b hb
    rw [e, e2] at e1
    cases e1
    exact h2 a ha b hb _ r1 r2
  have := nodup_len m.length _ nd (fun k hk => by
    obtain ⟨x, hx, rfl⟩ := List.mem_map.mp hk
    obtain ⟨y, e1, _⟩ := hf x hx
    exact (List.getElem?_eq_some_iff.mp e1).1)
  rwa [List.length_map] at this
theorem mem_consOf {E C : List (Vec n)} {p : Con n} : p ∈ consOf E C ↔ (p.1 ∈ E ∧ p.2 = true) ∨ (p.1 ∈ C ∧ p.2 = false) := by
  unfold consOf
  obtain ⟨v, b⟩ := p
  simp only [List.mem_append, List.mem_map, Prod.mk.injEq]
  constructor
  · rintro (⟨a, h, rfl, rfl⟩ | ⟨a, h, rfl, rfl⟩)
    · exact .inl ⟨h, rfl⟩
    · exact .inr ⟨h, rfl⟩
  · rintro (⟨h, rfl⟩ | ⟨h, rfl⟩)
    · exact .inl ⟨v, h, rfl, rfl⟩
    · exact .inr ⟨v, h, rfl, rfl⟩
theorem sat_consOf {E C : List (Vec n)} {v : Vec n} : sat (consOf E C) v ↔ (∀ e ∈ E, dot e v = 0) ∧ ∀ c ∈ C, 0 ≤ dot c v := by
  constructor
  · intro h
    exact ⟨fun e he => (h (e, true) (mem_consOf.mpr (.inl ⟨he, rfl⟩))).2 rfl, fun c hc => (h (c, false) (mem_consOf.mpr (.inr ⟨hc, rfl⟩))).1⟩
  · rintro ⟨h1, h2⟩ p hp
    rcases mem_consOf.mp hp with ⟨k1, k2⟩ | ⟨k1, k2⟩
    · have := h1 _ k1
      exact ⟨by omega, fun _ => this⟩
    · exact ⟨h2 _ k1, fun e => by rw [k2] at e; cases e⟩
theorem lin_consOf {E C : List (Vec n)} {v : Vec n} : lin (consOf E C) v ↔ (∀ e ∈ E, dot e v = 0) ∧ ∀ c ∈ C, dot c v = 0 := by
  constructor
  · intro h
    exact ⟨fun e he => h (e, true) (mem_consOf.mpr (.inl ⟨he, rfl⟩)), fun c hc => h (c, false) (mem_consOf.mpr (.inr ⟨hc, rfl⟩))⟩
  · rintro ⟨h1, h2⟩ p hp
    rcases mem_consOf.mp hp with ⟨k1, k2⟩ | ⟨k1, k2⟩
    · exact h1 _ k1
    · exact h2 _ k1
/-- the sum of some vectors -/
def vsum (L : List (Vec n)) : Vec n := L.foldr (fun v acc => comb 1 v 1 acc) zero
theorem dot_vsum (c : Vec n) : ∀ L : List (Vec n), dot c (vsum L) = (L.map (dot c)).sum
  | [] => dot_zero c
  | v :: L => by
    show dot c (comb 1 v 1 (vsum L)) = _
    rw [dot_comb, dot_vsum c L, List.map_cons, List.sum_cons]; omega
theorem sum_nonneg : ∀ {l : List Int}, (∀ x ∈ l, 0 ≤ x) → 0 ≤ l.sum
  | [], _ => by simp
  | a :: l, h => by
    have h1 := h a List.mem_cons_self
    have h2 := sum_nonneg (fun x hx => h x (List.mem_cons_of_mem _ hx))
    rw [List.sum_cons]; omega
theorem sum_pos : ∀ {l : List Int}, (∀ x ∈ l, 0 ≤ x) → (∃ x ∈ l, 0 < x) → 0 < l.sum
  | [], _, h => by obtain ⟨x, hx, _⟩ := h; cases hx
  | a :: l, h, hx => by
    have h1 := h a List.mem_cons_self
    have h2 := sum_nonneg (fun x hx => h x (List.mem_cons_of_mem _ hx))
    rw [List.sum_cons]
    obtain ⟨x, hx, hp⟩ := hx
    rcases List.mem_cons.mp hx with rfl | hx
    · omega
    · have := sum_pos (fun x hx => h x (List.mem_cons_of_mem _ hx)) ⟨x, hx, hp⟩
      omega
theorem sum_zero : ∀ {l : List Int}, (∀ x ∈ l, x = 0) → l.sum = 0
  | [], _ => rfl
  | a :: l, h => by
    rw [List.sum_cons, h a List.mem_cons_self, sum_zero (fun x hx => h x (List.mem_cons_of_mem _ hx))]; rfl
/-- a condition is in the dual of what the generators span -/
theorem cond_in_dual {E C : List (Vec n)} {G : List (Vec n × Fin n)} {S : List (Vec n)} (h : Spec (consOf E C) G S) : (∀ e ∈ E, lin (consOf (G.map (·.1)) S) e) ∧ ∀ c ∈ C, sat (consOf (G.map (·.1)) S) c := by
  have hg : ∀ p ∈ G, lin (consOf E C) p.1 := h.bas.mem
  have hs := h.rinv.sat_
  refine ⟨fun e he => lin_consOf.mpr ⟨fun l hl => ?_, fun s hs' => ?_⟩, fun c hc => sat_consOf.mpr ⟨fun l hl => ?_, fun s hs' => ?_⟩⟩
  · obtain ⟨p, hp, rfl⟩ := List.mem_map.mp hl
    rw [dot_comm]; exact (lin_consOf.mp (hg p hp)).1 e he
  · rw [dot_comm]; exact (sat_consOf.mp (hs s hs')).1 e he
  · obtain ⟨p, hp, rfl⟩ := List.mem_map.mp hl
    rw [dot_comm]; exact (lin_consOf.mp (hg p hp)).2 c hc
  · rw [dot_comm]; exact (sat_consOf.mp (hs s hs')).2 c hc
theorem facets_few {E C : List (Vec n)} {G G' : List (Vec n × Fin n)} {S S' : List (Vec n)} (h : Spec (consOf E C) G S) (h' : Spec (consOf (G.map (·.1)) S) G' S') : S'.length ≤ C.length := by
  obtain ⟨hE, hC⟩ := cond_in_dual h
  refine len_of_rel (fun f c => c ∈ C ∧ ¬ lin (consOf (G.map (·.1)) S) c ∧ Zle (consOf (G.map (·.1)) S) f c) h'.rinv.nodup (fun f hf => ?_) (fun f hf f' hf' c r1 r2 => ?_)
  · refine Classical.byContradiction fun hne => ?_
    have fsat := sat_consOf.mp (h'.rinv.sat_ f hf)
    have fl : ∀ p ∈ G, dot f p.1 = 0 := fun p hp => by rw [dot_comm]; exact fsat.1 p.1 (List.mem_map.mpr ⟨p, hp, rfl⟩)
    have fs : ∀ s ∈ S, 0 ≤ dot f s := fun s hs => by rw [dot_comm]; exact fsat.2 s hs
    obtain ⟨r0, hr0, hp0⟩ : ∃ r ∈ S, 0 < dot f r := by
      refine Classical.byContradiction fun z => h'.rinv.nlin f hf (lin_consOf.mpr ⟨fun l hl => fsat.1 l hl, fun s hs => ?_⟩)
      have h1 := fs s hs
      have h2 : ¬ 0 < dot f s := fun y => z ⟨s, hs, y⟩
      rw [dot_comm]; omega
    obtain ⟨V, hV⟩ : ∃ V, V = vsum (S.filter fun s => decide (dot f s = 0)) := ⟨_, rfl⟩
    obtain ⟨N, hN, hb⟩ := exists_big (consOf E C) r0
    have key : sat (consOf E C) (comb N V (-1) r0) := by
      refine sat_consOf.mpr ⟨fun e he => ?_, fun c hc => ?_⟩
      · have es : ∀ s ∈ S, dot e s = 0 := fun s hs => (sat_consOf.mp (h.rinv.sat_ s hs)).1 e he
        have : dot e V = 0 := by
          rw [hV, dot_vsum]
          refine sum_zero fun x hx => ?_
          obtain ⟨s, hs, rfl⟩ := List.mem_map.mp hx
          exact es s (List.mem_filter.mp hs).1
        rw [dot_comb, this, es r0 hr0]; simp
      · have cs : ∀ s ∈ S, 0 ≤ dot c s := fun s hs => (sat_consOf.mp (h.rinv.sat_ s hs)).2 c hc
        have Vn : 0 ≤ dot c V := by
          rw [hV, dot_vsum]
          refine sum_nonneg fun x hx => ?_
          obtain ⟨s, hs, rfl⟩ := List.mem_map.mp hx
          exact cs s (List.mem_filter.mp hs).1
        rw [dot_comb]
        by_cases hl : lin (consOf (G.map (·.1)) S) c
        · have c0 : dot c r0 = 0 := by rw [dot_comm]; exact (lin_consOf.mp hl).2 r0 hr0
          rw [c0]
          have := Int.mul_nonneg (Int.le_of_lt hN) Vn
          omega
        · have hz : ¬ Zle (consOf (G.map (·.1)) S) f c := fun z => hne ⟨c, hc, hc, hl, z⟩
          obtain ⟨s, hs, e1, e2⟩ : ∃ s ∈ S, dot f s = 0 ∧ dot c s ≠ 0 := by
            refine Classical.byContradiction fun z => hz fun p hp e => ?_
            rcases mem_consOf.mp hp with ⟨k1, k2⟩ | ⟨k1, k2⟩
            · exact (sat_consOf.mp (hC c hc)).1 _ k1
            · refine Classical.byContradiction fun y => z ⟨p.1, k1, ?_, ?_⟩
              · rw [dot_comm]; exact e
              · rw [dot_comm]; exact y
          have Vp : 0 < dot c V := by
            rw [hV, dot_vsum]
            refine sum_pos (fun x hx => ?_) ⟨dot c s, List.mem_map.mpr ⟨s, List.mem_filter.mpr ⟨hs, by simpa using e1⟩, rfl⟩, ?_⟩
            · obtain ⟨s, hs, rfl⟩ := List.mem_map.mp hx
              exact cs s (List.mem_filter.mp hs).1
            · have := cs s hs; omega
          have k2 := (hb (c, false) (mem_consOf.mpr (.inr ⟨hc, rfl⟩))).1
          have k3 : N * 1 ≤ N * dot c V := Int.mul_le_mul_of_nonneg_left (by omega) (by omega)
          dsimp only at k2
          omega
    have pos := gen_sat h.rinv h.bas fl fs key
    have V0 : dot f V = 0 := by
      rw [hV, dot_vsum]
      refine sum_zero fun x hx => ?_
      obtain ⟨s, hs, rfl⟩ := List.mem_map.mp hx
      have := (List.mem_filter.mp hs).2
      simpa using this
    rw [dot_comb, V0] at pos
    omega
  · obtain ⟨hc, hl, z1⟩ := r1
    obtain ⟨_, _, z2⟩ := r2
    have cs := hC c hc
    have back : ∀ {f : Vec n}, f ∈ S' → Zle (consOf (G.map (·.1)) S) f c → Zle (consOf (G.map (·.1)) S) c f := by
      intro f hf z
      obtain ⟨f2, hf2, z3⟩ := h'.rinv.cov c cs hl
      have := h'.rinv.ne hf hf2 (z.trans z3)
      subst this
      exact z3
    exact h'.rinv.ne hf hf' (z1.trans (back hf' z2))
end Fm
/-! The law's facts. Plain Lean. -/
namespace Fm
variable {n : Nat}

/-- a sum of multiples of L and nonnegative multiples of R -/
def Mixed (L R : List (Vec n)) (v : Vec n) : Prop := ∀ c, (∀ l ∈ L, dot c l = 0) → (∀ r ∈ R, 0 ≤ dot c r) → 0 ≤ dot c v
theorem mixed_zero (L R : List (Vec n)) : Mixed L R zero := fun c _ _ => by rw [dot_zero]; exact Int.le_refl _
theorem Mixed.line {L R : List (Vec n)} {v l : Vec n} (h : Mixed L R v) (hl : l ∈ L) (x : Int) : Mixed L R (comb 1 v x l) := fun c h1 h2 => by
  rw [dot_comb, h1 l hl]
  have := h c h1 h2
  omega
theorem Mixed.ray {L R : List (Vec n)} {v r : Vec n} (h : Mixed L R v) (hr : r ∈ R) {x : Int} (hx : 0 ≤ x) : Mixed L R (comb 1 v x r) := fun c h1 h2 => by
  rw [dot_comb]
  have k1 := h c h1 h2
  have k2 := Int.mul_nonneg hx (h2 r hr)
  omega
theorem Mixed.sat {A : List (Con n)} {L R : List (Vec n)} {v : Vec n} (h : Mixed L R v) (hL : ∀ l ∈ L, lin A l) (hR : ∀ r ∈ R, sat A r) : sat A v := by
  have pos : ∀ p ∈ A, 0 ≤ dot p.1 v := fun p hp => h p.1 (fun l hl => hL l hl p hp) fun r hr => (hR r hr p hp).1
  refine fun p hp => ⟨pos p hp, fun e => ?_⟩
  have k := h (neg p.1) (fun l hl => by rw [dot_comm, dot_neg, dot_comm, hL l hl p hp]; rfl) fun r hr => by
    rw [dot_comm, dot_neg, dot_comm, (hR r hr p hp).2 e]; decide
  rw [dot_comm, dot_neg, dot_comm] at k
  have := pos p hp
  omega

/-- in, told of dots with the row first -/
def Inn (E C : List (Vec n)) (v : Vec n) : Prop := (∀ e ∈ E, dot e v = 0) ∧ ∀ c ∈ C, 0 ≤ dot c v
theorem inn_iff {E C : List (Vec n)} {v : Vec n} : Inn E C v ↔ sat (consOf E C) v := sat_consOf.symm

section
variable (E C : List (Vec n))
theorem gens_lin : ∀ l ∈ (dual E C).1, lin (consOf E C) l := by
  obtain ⟨G, h1, h2, _⟩ := dual_spec E C
  intro l hl
  rw [h1] at hl
  obtain ⟨p, hp, rfl⟩ := List.mem_map.mp hl
  exact h2.bas.mem p hp
theorem gens_sat : ∀ r ∈ (dual E C).2, sat (consOf E C) r := by
  obtain ⟨G, h1, h2, _⟩ := dual_spec E C
  exact h2.rinv.sat_
theorem gens_ne : (∀ l ∈ (dual E C).1, l ≠ zero) ∧ ∀ r ∈ (dual E C).2, r ≠ zero := by
  obtain ⟨G, h1, h2, _⟩ := dual_spec E C
  refine ⟨fun l hl => ?_, fun r hr => (h2.prm r hr).ne⟩
  rw [h1] at hl
  obtain ⟨p, hp, rfl⟩ := List.mem_map.mp hl
  exact (h2.ech.prm p hp).ne
/-- K1: the generators satisfy the rows -/
theorem law_gens : ∀ v, (v ∈ (dual E C).2 ∨ v ∈ (dual E C).1 ∨ ∃ l ∈ (dual E C).1, v = neg l) → Inn E C v ∧ v ≠ zero := by
  rintro v (h | h | ⟨l, h, rfl⟩)
  · exact ⟨inn_iff.mpr (gens_sat E C v h), (gens_ne E C).2 v h⟩
  · exact ⟨inn_iff.mpr (gens_lin E C v h).sat, (gens_ne E C).1 v h⟩
  · refine ⟨inn_iff.mpr ((Sub.lin _).neg (gens_lin E C l h)).sat, fun z => (gens_ne E C).1 l h ?_⟩
    funext i
    have := congrFun z i
    simp only [neg, zero] at this
    show l i = 0
    omega
/-- the dual of the generators holds where the rows do -/
theorem law_faces (v : Vec n) : sat (consOf (dual (dual E C).1 (dual E C).2).1 (dual (dual E C).1 (dual E C).2).2) v ↔ sat (consOf E C) v := by
  obtain ⟨G, h1, h2, _⟩ := dual_spec E C
  obtain ⟨G', h1', h2', _⟩ := dual_spec (dual E C).1 (dual E C).2
  constructor
  · intro h
    obtain ⟨k1, k2⟩ := sat_consOf.mp h
    have gl : ∀ p ∈ G', dot v p.1 = 0 := fun p hp => by
      rw [dot_comm]
      exact k1 p.1 (by rw [h1']; exact List.mem_map.mpr ⟨p, hp, rfl⟩)
    have gr : ∀ r ∈ (dual (dual E C).1 (dual E C).2).2, 0 ≤ dot v r := fun r hr => by rw [dot_comm]; exact k2 r hr
    have hd := cond_in_dual (by rw [h1] at *; exact h2 : Spec (consOf E C) G (dual E C).2)
    rw [← h1] at hd
    refine sat_consOf.mpr ⟨fun e he => ?_, fun c hc => ?_⟩
    · rw [dot_comm]
      exact h2'.bas.gen (Sub.lin _) (hd.1 e he) gl
    · rw [dot_comm]
      exact gen_sat h2'.rinv h2'.bas gl gr (hd.2 c hc)
  · intro h
    have fl : ∀ f, sat (consOf (dual E C).1 (dual E C).2) f → 0 ≤ dot f v := fun f hf => by
      obtain ⟨k1, k2⟩ := sat_consOf.mp hf
      refine gen_sat h2.rinv h2.bas (fun p hp => ?_) (fun r hr => ?_) h
      · rw [dot_comm]
        exact k1 p.1 (by rw [h1]; exact List.mem_map.mpr ⟨p, hp, rfl⟩)
      · rw [dot_comm]; exact k2 r hr
    refine sat_consOf.mpr ⟨fun f hf => ?_, fun f hf => fl f (gens_sat _ _ f hf)⟩
    have hl := gens_lin _ _ f hf
    have a := fl f hl.sat
    have b := fl (neg f) ((Sub.lin _).neg hl).sat
    rw [dot_comm (neg f), dot_neg, dot_comm v] at b
    omega
/-- K2: the dual of the dual -/
theorem law_dual2 : dual (dual (dual E C).1 (dual E C).2).1 (dual (dual E C).1 (dual E C).2).2 = dual E C := dual_unique (law_faces E C)
/-- K3 -/
theorem law_same (v : Vec n) : Inn (dual (dual E C).1 (dual E C).2).1 (dual (dual E C).1 (dual E C).2).2 v ↔ Inn E C v := by
  rw [inn_iff, inn_iff]; exact law_faces E C v
/-- K4: sums of the generators -/
theorem law_mixed {v : Vec n} (h : Mixed (dual E C).1 (dual E C).2 v) : Inn E C v ∧ Inn (dual (dual E C).1 (dual E C).2).1 (dual (dual E C).1 (dual E C).2).2 v := by
  have k := inn_iff.mpr (h.sat (gens_lin E C) (gens_sat E C))
  exact ⟨k, (law_same E C v).mpr k⟩
/-- K5: a sum added to the dual's rows -/
theorem law_more {v : Vec n} (h : Mixed (dual E C).1 (dual E C).2 v) : dual (dual E C).1 ((dual E C).2 ++ [v]) = dual (dual E C).1 (dual E C).2 := by
  refine dual_unique fun f => ?_
  rw [sat_consOf, sat_consOf]
  constructor
  · rintro ⟨k1, k2⟩
    exact ⟨k1, fun c hc => k2 c (List.mem_append_left _ hc)⟩
  · rintro ⟨k1, k2⟩
    refine ⟨k1, fun c hc => ?_⟩
    rcases List.mem_append.mp hc with hc | hc
    · exact k2 c hc
    · have : c = v := by simpa using hc
      rw [this, dot_comm]
      exact h f (fun l hl => by rw [dot_comm]; exact k1 l hl) (fun r hr => by rw [dot_comm]; exact k2 r hr)
/-- K6: a row that follows -/
theorem law_follows {v : Vec n} (h : Mixed (dual (dual E C).1 (dual E C).2).1 (dual (dual E C).1 (dual E C).2).2 v) : dual E (v :: C) = dual E C := by
  refine dual_unique fun x => ?_
  constructor
  · intro hx
    obtain ⟨k1, k2⟩ := sat_consOf.mp hx
    exact sat_consOf.mpr ⟨k1, fun c hc => k2 c (List.mem_cons_of_mem _ hc)⟩
  · intro hx
    obtain ⟨k1, k2⟩ := sat_consOf.mp hx
    have hf := sat_consOf.mp ((law_faces E C x).mpr hx)
    refine sat_consOf.mpr ⟨k1, fun c hc => ?_⟩
    rcases List.mem_cons.mp hc with rfl | hc
    · rw [dot_comm]
      exact h x (fun l hl => by rw [dot_comm]; exact hf.1 l hl) (fun r hr => by rw [dot_comm]; exact hf.2 r hr)
    · exact k2 c hc
/-- K7: the facets in another order -/
theorem law_reversed : dual (dual (dual E C).1 (dual E C).2).1 (dual (dual E C).1 (dual E C).2).2.reverse = dual E C := by
  rw [← law_dual2 E C]
  refine dual_unique fun x => ?_
  rw [law_dual2 E C]
  rw [sat_consOf, sat_consOf]
  simp only [List.mem_reverse]
/-- sizes: the first dual -/
theorem dual_small {M : Nat} (hM : (∀ e ∈ E, Small M e) ∧ ∀ c ∈ C, Small M c) (h1 : 1 ≤ M) : (∀ l ∈ (dual E C).1, Small (bnd n M) l) ∧ ∀ r ∈ (dual E C).2, Small (bnd n M) r := by
  obtain ⟨G, k1, k2, _⟩ := dual_spec E C
  have := k2.small (M := M) (fun p hp => by
    rcases mem_consOf.mp hp with ⟨a, _⟩ | ⟨a, _⟩
    · exact hM.1 _ a
    · exact hM.2 _ a) h1
  refine ⟨fun l hl => ?_, this.2⟩
  rw [k1] at hl
  obtain ⟨p, hp, rfl⟩ := List.mem_map.mp hl
  exact this.1 p hp
theorem dual_lines : (dual E C).1.length ≤ n := by
  obtain ⟨G, k1, _, k2, _⟩ := dual_spec E C
  rw [k1, List.length_map]; exact k2
theorem dual_rays (hn : n ≤ 5) (hC : C.length ≤ 7) : (dual E C).2.length ≤ 42 := by
  obtain ⟨G, _, _, _, k⟩ := dual_spec E C
  rw [k]; exact rays_few hn hC
theorem dual_facets : (dual (dual E C).1 (dual E C).2).2.length ≤ C.length := by
  obtain ⟨G, h1, h2, _⟩ := dual_spec E C
  obtain ⟨G', h1', h2', _⟩ := dual_spec (dual E C).1 (dual E C).2
  rw [h1] at h2'
  have := facets_few h2 h2'
  rw [← h1] at this
  exact this
end
end Fm
set_option maxRecDepth 100000
/-! The text, the heap's predicates, the first defs. -/
namespace FW
open PySem PySem.Spec PyProof.Rows L2 Fm
def topS (i : Nat) : Stmt := PySem.Challenge.pw_floodmark_k06_whole_cones_and_their_dual.main.body.getD i (.Pass ⟨0, 0, 0, 0⟩)
abbrev sGcd : Stmt := topS 2
abbrev sPrim : Stmt := topS 3
abbrev sDot : Stmt := topS 4
abbrev sComb : Stmt := topS 5
abbrev sPiv : Stmt := topS 6
abbrev sClr : Stmt := topS 7
abbrev sEch : Stmt := topS 8
abbrev sRed : Stmt := topS 9
abbrev sInit : Stmt := inClass (topS 11) 0
abbrev sTurn : Stmt := inClass (topS 11) 1
abbrev sAdd : Stmt := inClass (topS 11) 2
abbrev sJoin : Stmt := inClass (topS 11) 3
abbrev sNb : Stmt := inClass (topS 11) 4
abbrev sDual : Stmt := topS 12
abbrev sCell : Stmt := topS 14
abbrev sDraws : Stmt := topS 15
abbrev sLDot : Stmt := topS 18
abbrev sLSum : Stmt := topS 19
abbrev sSmall : Stmt := topS 21
abbrev sRows : Stmt := topS 22
abbrev sIn : Stmt := topS 23
abbrev sMixed : Stmt := topS 24
abbrev sLaw : Stmt := topS 25

/-! ### vectors in the heap -/
variable {n : Nat}
def il (v : Vec n) : List V := (List.ofFn v).map V.int
theorem il_len (v : Vec n) : (il v).length = n := by simp [il]
theorem il_get (v : Vec n) (i : Fin n) : (il v)[i.val]? = some (.int (v i)) := by
  unfold il
  rw [List.getElem?_map, List.getElem?_ofFn]
  simp
theorem il_inj {u v : Vec n} (h : il u = il v) : u = v := by
  funext i
  have h1 := il_get u i
  rw [h, il_get v i] at h1
  exact (V.int.inj (Option.some.inj h1)).symm
def VecAt (H : Hp) (a : Addr) (v : Vec n) : Prop := H a = some (.lst (il v))
theorem VecAt.same {H H' : Hp} (s : Same H H') {a : Addr} {v : Vec n} (h : VecAt H a v) : VecAt H' a v := s _ _ h
theorem VecAt.sq {K : PySem.W.Frag} {H : Hp} {a : Addr} {v : Vec n} (h : VecAt H a v) : SqL K H a ((List.ofFn v).map V.int) := SqL.of h
theorem same_upd {H : Hp} {p : Addr} {o : HO} (h : H p = none) : Same H (upd H p o) := fun b x e => by
  rw [upd_ne (ne_of_none e h)]
  exact e
theorem int_at {ns : List Int} {i : Nat} {x : V} (h : (ns.map V.int)[i]? = some x) : ∃ z, ns[i]? = some z ∧ x = .int z := by
  rw [List.getElem?_map] at h
  cases e : ns[i]? with
  | none => rw [e] at h; cases h
  | some z => rw [e] at h; exact ⟨z, rfl, (Option.some.inj h).symm⟩

section
variable {P : Program} {w : World} {K : PySem.W.Frag} {mg : Str → Option Value} {base : Heap}
/-! ### common_divisor -/
theorem gcdL_snoc {ns : List Int} {i : Nat} {z : Int} (h : ns[i]? = some z) : gcdL (ns.take (i + 1)) = Nat.gcd (gcdL (ns.take i)) z.natAbs := by
  unfold gcdL
  rw [List.take_add_one, h, Option.toList_some, List.foldl_append]
  rfl
theorem scGcd : FnScope ["vector", "divisor", "item"] ["vector"] (defScope sGcd) := ⟨rfl, rfl, rfl, by decide +kernel, rfl, by decide +kernel, by decide +kernel⟩
def spGcd (K : PySem.W.Frag) : Sp := fun vs H Q _ => ∃ (a : Addr) (ns : List Int), vs = [.ref a] ∧ SqL K H a (ns.map V.int) ∧ Q (.int ((gcdL ns : Nat) : Int)) H
theorem ok_gcd {f : Addr} {fd : FuncData} (F : Fun K "common_divisor" "common_divisor" sGcd f fd) (mG : mg "gcd" = some (.builtin "math.gcd")) : FnOk P w K mg base CX0 1 f fd ["vector"] (spGcd K) := by
  refine F.ok scGcd (fun vs H Q E h => ?_) (fun cdv A outer s H vs Q E hr h => ?_)
  · obtain ⟨a, ns, rfl, _⟩ := h
    rfl
  · obtain ⟨a, ns, rfl, hS, q⟩ := h
    refine ⟨_, pss_cons (ps_set (i := 1) scGcd.nd rfl (.inl rfl) pe_int)
      (pss_cons (ps_for PassesOwn.never rfl (pi_list (pv 0)) (pg_name (i := 2) scGcd.nd rfl (.inl rfl))
        (pss_one (ps_set (i := 1) scGcd.nd rfl (.inl rfl) (pe_callBfun cr_gcd (by rfl) mG (pa_cons (pv 1) (pa_cons (pv 2) pa_nil))))))
      (pss_one (ps_ret (pv 1)))), ?_⟩
    refine ⟨.ref a, rfl, a, rfl, ⟨_, hS⟩, for_list (K := K) (a := a) (xs := ns.map V.int) (fun i σ H3 => (∃ y, σ = [some (.ref a), some (.int ((gcdL (ns.take i) : Nat) : Int)), y]) ∧ H3 = H) ⟨⟨none, rfl⟩, rfl⟩ (fun i σ H3 _ ⟨_, e⟩ => by rw [e]; exact hS) ?_ ?_⟩
    · rintro i x σ H3 hi ⟨⟨y, rfl⟩, rfl⟩
      obtain ⟨z, hz, rfl⟩ := int_at hi
      refine ⟨_, rfl, _, rfl, _, _, rfl, ?_⟩
      refine ⟨⟨some (.int z), ?_⟩, rfl⟩
      rw [gcdL_snoc hz, Int.natAbs_natCast]
      rfl
    · rintro σ H3 ⟨⟨y, rfl⟩, rfl⟩
      refine ⟨_, rfl, ?_⟩
      rw [List.take_of_length_le (by rw [List.length_map]; exact Nat.le_refl _)]
      exact q
end
end FW
set_option maxRecDepth 100000
set_option exponentiation.threshold 100000
namespace FW
open PySem PySem.Spec PyProof.Rows L2 Fm
variable {n : Nat}
/-- all but what stands at D is as it was -/
def Kp (D : Addr) (H H' : Hp) : Prop := ∀ b o, H b = some o → b ≠ D → H' b = some o
theorem Same.kp {H H' : Hp} (s : Same H H') (D : Addr) : Kp D H H' := fun b o e _ => s b o e
theorem Kp.trans {D : Addr} {H H1 H2 : Hp} (a : Kp D H H1) (b : Kp D H1 H2) : Kp D H H2 := fun c o e hc => b c o (a c o e hc) hc
theorem Kp.upd {D : Addr} {H : Hp} {o : HO} : Kp D H (upd H D o) := fun b x e hb => by rw [upd_ne hb]; exact e
/-- a list comprehension that gives one item a turn -/
theorem lc_make {J : It} {n : Nat} {G : Hp → Prop} {Y : Nat → Hp → V → Hp → Prop} (w : Walk J n G Y) {g : TG} {tt : TT} {te : TE} {vs : List Nat} {σ : L2.St} {H1 : Hp} {D : Addr} {Qd : Hp → Prop} (R : Nat → V → Hp → Prop)
    (hR : ∀ i y H H', Kp D H H' → R i y H → R i y H') (hG : ∀ H, Same H1 H → G H) (nD : H1 D = none) (hz : n ≤ sizeLine)
    (hs : ∀ i x H H' (Nx : Hp → Prop), i < n → Same H1 H → (∃ o, H D = some o) → Y i H x H' → (∀ y H4, Same H H4 → R i y H4 → ∃ acc, H4 D = some (.lst acc) ∧ acc.length < sizeLine ∧ Nx (upd H4 D (.lst (acc ++ [y])))) →
      g x (wipe σ vs) H' fun σ2 H2 => wipe σ2 vs = wipe σ vs ∧ tt σ2 H2 fun b H3 => if b = true then te σ2 H3 fun y H4 => ∃ acc, H4 D = some (.lst acc) ∧ acc.length < sizeLine ∧ Nx (upd H4 D (.lst (acc ++ [y]))) else Nx H3)
    (hd : ∀ H ys, Same H1 H → H D = some (.lst ys) → ys.length = n → (∀ i y, ys[i]? = some y → R i y H) → Qd H) :
    ∃ W : Nat → Nat → Hp → Prop, (∃ m, W 0 m (upd H1 D (.lst []))) ∧ ∀ i m H, W i m H →
      (J.stop i H ∧ Qd H) ∨ (J.go i H ∧ ∃ Nx : Hp → Prop, (∀ H', Nx H' → ∃ m', m' < m ∧ W (i + 1) m' H') ∧ ∀ x H', J.yld i H x H' → g x (wipe σ vs) H' fun σ2 H2 => wipe σ2 vs = wipe σ vs ∧ tt σ2 H2 fun b H3 =>
        if b = true then te σ2 H3 fun y H4 => ∃ acc, H4 D = some (.lst acc) ∧ acc.length < sizeLine ∧ Nx (upd H4 D (.lst (acc ++ [y]))) else Nx H3) := by
  refine lc_it w (fun i H => Same H1 H ∧ ∃ ys, H D = some (.lst ys) ∧ ys.length = i ∧ ∀ j y, ys[j]? = some y → R j y H) ?_ ?_ ?_ ?_
  · exact ⟨same_upd nD, [], upd_same, rfl, fun j y e => by simp at e⟩
  · rintro i H _ ⟨s, _⟩
    exact hG H s
  · rintro i x H H' hi ⟨s, ys, hD, hl, hr⟩ hy
    refine hs i x H H' _ hi s ⟨_, hD⟩ hy fun y H4 s4 r4 => ⟨ys, s4 _ _ hD, by omega, ?_, ys ++ [y], upd_same, by simp [hl], ?_⟩
    · intro b o e
      have nb : b ≠ D := ne_of_none e nD
      rw [upd_ne nb]
      exact s4 _ _ (s _ _ e)
    · intro j z hz'
      have k4 : Kp D H (upd H4 D (.lst (ys ++ [y]))) := (Same.kp s4 D).trans Kp.upd
      by_cases hj : j < ys.length
      · rw [List.getElem?_append_left hj] at hz'
        exact hR j z H _ k4 (hr j z hz')
      · rw [List.getElem?_append_right (by omega)] at hz'
        have ej : j = ys.length := by
          have := (List.getElem?_eq_some_iff.mp hz').1
          simp at this
          omega
        subst ej
        simp at hz'
        subst hz'
        rw [hl]
        exact hR _ _ H4 _ Kp.upd r4
  · rintro H ⟨s, ys, hD, hl, hr⟩
    exact hd H ys s hD hl hr

/-- the same where nothing is tested -/
theorem lc_mk {J : It} {n : Nat} {G : Hp → Prop} {Y : Nat → Hp → V → Hp → Prop} (w : Walk J n G Y) {g : TG} {te : TE} {vs : List Nat} {σ : L2.St} {H1 : Hp} {D : Addr} {Qd : Hp → Prop} (R : Nat → V → Hp → Prop)
    (hR : ∀ i y H H', Kp D H H' → R i y H → R i y H') (hG : ∀ H, Same H1 H → G H) (nD : H1 D = none) (hz : n ≤ sizeLine)
    (hs : ∀ i x H H' (Nx : Hp → Prop), i < n → Same H1 H → (∃ o, H D = some o) → Y i H x H' → (∀ y H4, Same H H4 → R i y H4 → ∃ acc, H4 D = some (.lst acc) ∧ acc.length < sizeLine ∧ Nx (upd H4 D (.lst (acc ++ [y])))) →
      g x (wipe σ vs) H' fun σ2 H2 => wipe σ2 vs = wipe σ vs ∧ te σ2 H2 fun y H4 => ∃ acc, H4 D = some (.lst acc) ∧ acc.length < sizeLine ∧ Nx (upd H4 D (.lst (acc ++ [y]))))
    (hg : ∀ x σ H Q Q', (∀ σ H, Q σ H → Q' σ H) → g x σ H Q → g x σ H Q')
    (hd : ∀ H ys, Same H1 H → H D = some (.lst ys) → ys.length = n → (∀ i y, ys[i]? = some y → R i y H) → Qd H) :
    ∃ W : Nat → Nat → Hp → Prop, (∃ m, W 0 m (upd H1 D (.lst []))) ∧ ∀ i m H, W i m H →
      (J.stop i H ∧ Qd H) ∨ (J.go i H ∧ ∃ Nx : Hp → Prop, (∀ H', Nx H' → ∃ m', m' < m ∧ W (i + 1) m' H') ∧ ∀ x H', J.yld i H x H' → g x (wipe σ vs) H' fun σ2 H2 => wipe σ2 vs = wipe σ vs ∧ tYes σ2 H2 fun b H3 =>
        if b = true then te σ2 H3 fun y H4 => ∃ acc, H4 D = some (.lst acc) ∧ acc.length < sizeLine ∧ Nx (upd H4 D (.lst (acc ++ [y]))) else Nx H3) :=
  lc_make w R hR hG nD hz (fun i x H H' Nx hi s o y c => hg _ _ _ _ _ (fun σ2 H2 q => ⟨q.1, iteT (B := Nx H2) q.2⟩) (hs i x H H' Nx hi s o y c)) hd
theorem mono_name (i : Nat) : ∀ x σ H (Q Q' : L2.St → Hp → Prop), (∀ σ H, Q σ H → Q' σ H) → gName i x σ H Q → gName i x σ H Q' := fun _ _ _ _ _ h q => h _ _ q
theorem mono_tup2 (K : PySem.W.Frag) (i j : Nat) : ∀ x σ H (Q Q' : L2.St → Hp → Prop), (∀ σ H, Q σ H → Q' σ H) → gTup K 2 (gCons (gName i) (gCons (gName j) gNil)) x σ H Q → gTup K 2 (gCons (gName i) (gCons (gName j) gNil)) x σ H Q' := by
  rintro x σ H Q Q' h ⟨a, xs, e1, e2, e3, v, r, e4, v2, r2, e5, e6, e7⟩
  exact ⟨a, xs, e1, e2, e3, v, r, e4, v2, r2, e5, e6, h _ _ e7⟩
theorem mono_tup3 (K : PySem.W.Frag) (i j k : Nat) : ∀ x σ H (Q Q' : L2.St → Hp → Prop), (∀ σ H, Q σ H → Q' σ H) → gTup K 3 (gCons (gName i) (gCons (gName j) (gCons (gName k) gNil))) x σ H Q → gTup K 3 (gCons (gName i) (gCons (gName j) (gCons (gName k) gNil))) x σ H Q' := by
  rintro x σ H Q Q' h ⟨a, xs, e1, e2, e3, v, r, e4, v2, r2, e5, v3, r3, e8, e6, e7⟩
  exact ⟨a, xs, e1, e2, e3, v, r, e4, v2, r2, e5, v3, r3, e8, e6, h _ _ e7⟩
/-- a made list of ints -/
theorem il_of {v : Vec n} {ys : List V} (hl : ys.length = n) (hr : ∀ i y, ys[i]? = some y → ∃ h : i < n, y = .int (v ⟨i, h⟩)) : ys = il v := by
  refine List.ext_getElem? fun i => ?_
  by_cases hi : i < n
  · obtain ⟨_, e2⟩ := hr i ys[i] (List.getElem?_eq_getElem (by omega))
    rw [List.getElem?_eq_getElem (by omega), e2, il_get v ⟨i, hi⟩]
  · rw [List.getElem?_eq_none (by omega), List.getElem?_eq_none (by rw [il_len]; omega)]
theorem il_at {v : Vec n} {i : Nat} {x : V} (h : (il v)[i]? = some x) : ∃ hi : i < n, x = .int (v ⟨i, hi⟩) := by
  have hi : i < n := by
    have := (List.getElem?_eq_some_iff.mp h).1
    rwa [il_len] at this
  exact ⟨hi, Option.some.inj (h.symm.trans (il_get v ⟨i, hi⟩))⟩

section
variable {P : Program} {w : World} {K : PySem.W.Frag} {mg : Str → Option Value} {base : Heap}
/-! ### primitive -/
def Wd (b : Nat) (v : Vec n) : Prop := ∀ i, (v i).natAbs < 2 ^ b
theorem gcdV_lt {v : Vec n} {b : Nat} (h : Wd b v) : gcdV v < 2 ^ b := by
  by_cases hz : ∃ i, v i ≠ 0
  · obtain ⟨i, hi⟩ := hz
    exact Nat.lt_of_le_of_lt (Nat.le_of_dvd (by omega) (gcdV_dvd v i)) (h i)
  · have : v = zero := funext fun i => Classical.byContradiction fun q => hz ⟨i, q⟩
    have h0 : gcdV v = 0 := Nat.eq_zero_of_zero_dvd (gcdV_great v 0 fun i => by rw [this]; exact Nat.dvd_refl 0)
    rw [h0]
    exact Nat.pow_pos (by omega)
theorem scPrim : FnScope ["vector", "divisor", "item"] ["vector"] (defScope sPrim) := ⟨rfl, rfl, rfl, by decide +kernel, rfl, by decide +kernel, by decide +kernel⟩
def spPrim (K : PySem.W.Frag) : Sp := fun vs H Q _ => ∃ (n : Nat) (v : Vec n) (a : Addr), vs = [.ref a] ∧ VecAt H a v ∧ Wd 8000 v ∧ n ≤ 100 ∧ ∀ H' p, Same H H' → H p = none → VecAt H' p (prim v) → Q (.ref p) H'
theorem ok_prim {f fG : Addr} {fd fdG : FuncData} (F : Fun K "primitive" "primitive" sPrim f fd) (FG : Fun K "common_divisor" "common_divisor" sGcd fG fdG) (bG : Binds K fdG ["vector"] []) (gG : mg "common_divisor" = some (.ref fG)) (mG : mg "gcd" = some (.builtin "math.gcd")) (mL : mg "list" = none) :
    FnOk P w K mg base CX0 2 f fd ["vector"] (spPrim K) := by
  have GG : FnOk P w K mg base CX0 1 fG fdG ["vector"] (spGcd K) := ok_gcd FG mG
  refine F.ok scPrim (fun vs H Q E h => ?_) (fun cdv A outer s H vs Q E hr h => ?_)
  · obtain ⟨n, v, a, rfl, _⟩ := h
    rfl
  · obtain ⟨n, v, a, rfl, hA, hW, hn, q⟩ := h
    refine ⟨_, pss_cons (ps_set (i := 1) scPrim.nd rfl (.inr rfl) (pe_call GG hr (by rfl) gG FG.kp bG .nil pass0 (pa_cons (pv 0) pa_nil)))
      (pss_cons (ps_if (pt_cmpR op_le (pv 1) pe_int (nomark _)) (pss_one (ps_ret (pe_callTy call_list_of (by rfl) mL (by decide +kernel) (pa_cons (pv 0) pa_nil)))) pss_nil)
      (pss_one (ps_ret (pe_lc (own := [("item", 2)]) (g := gName 2) (tt := tYes) rfl scPrim.nd (pi_list (pv 0)) (blkOk_by (N := ["vector", "divisor", "item"]) (sc := defScope sPrim) (by decide +kernel))
        (fun _ _ _ _ _ => pg_name (i := 2) scPrim.nd rfl (Or.inl rfl)) (fun _ _ _ _ _ => pts_nil) (fun _ _ _ _ _ => pe_op op_fdivW (pv 2) (pv 1)))))), ?_⟩
    refine ⟨.ref a, rfl, a, List.ofFn v, rfl, hA.sq, ?_⟩
    refine ⟨_, rfl, _, 1, rfl, rfl, _, rfl, ite2 (fun e => ?_) (fun e => ?_)⟩
    · have e1 : gcdV v ≤ 1 := by
        have := of_decide_eq_true e
        show gcdL (List.ofFn v) ≤ 1
        omega
      refine ⟨.ref a, rfl, a, _, rfl, .inl hA.sq, fun l hl => ?_⟩
      refine q _ l (same_upd hl) hl ?_
      have : prim v = v := by unfold prim; rw [if_pos e1]
      rw [this]
      exact upd_same
    · have e1 : ¬ gcdV v ≤ 1 := fun z => e (by
        have : gcdL (List.ofFn v) ≤ 1 := z
        exact decide_eq_true (by omega))
      have hg : gcdV v = gcdL (List.ofFn v) := rfl
      refine ⟨.ref a, rfl, a, rfl, ⟨_, hA.sq⟩, fun D nD => ?_⟩
      refine lc_mk (walk_list (xs := il v)) (fun i y _ => ∃ h : i < n, y = .int (prim v ⟨i, h⟩)) (fun i y H H' _ r => r) (fun H' s' => SqL.of (s' _ _ hA)) nD (by rw [il_len]; exact Nat.le_trans hn (by decide)) ?_ (mono_name 2) ?_
      · rintro i x H1 H' Nx hi s1 _ ⟨rfl, hx⟩ cont
        obtain ⟨hi', rfl⟩ := il_at hx
        refine ⟨rfl, _, rfl, _, rfl, _, _, rfl, rfl, wide_div (b := 8000) ?_ ?_ (by decide) (by decide), ?_⟩
        · rw [← hg]; omega
        · rw [← hg, Int.natAbs_natCast]
          exact gcdV_lt hW
        · refine cont _ _ (Same.refl _) ⟨hi', ?_⟩
          unfold prim
          rw [if_neg e1]
          rfl
      · intro H2 ys s2 hD hl hr
        refine q H2 D s2 nD ?_
        show H2 D = some (.lst (il (prim v)))
        rw [hD, il_of (by rw [hl, il_len]) hr]
end
end FW
set_option maxRecDepth 100000
set_option exponentiation.threshold 100000
namespace FW
open PySem PySem.Spec PyProof.Rows L2 Fm
variable {n : Nat}
theorem sumF_list : ∀ (n : Nat) (f : Fin n → Int), sumF n f = (List.ofFn f).sum
  | 0, f => by simp [sumF]
  | n + 1, f => by
    rw [List.ofFn_succ, List.sum_cons]
    simp only [sumF]
    rw [sumF_list n (fun i => f i.succ)]
theorem wd_mul {x y : Int} {a b : Nat} (hx : x.natAbs < 2 ^ a) (hy : y.natAbs < 2 ^ b) : (x * y).natAbs < 2 ^ (a + b) := wide_lt hx hy
theorem wd_add {x y : Int} {a : Nat} (hx : x.natAbs < 2 ^ a) (hy : y.natAbs < 2 ^ a) : (x + y).natAbs < 2 ^ (a + 1) := by
  rw [Nat.pow_succ]
  omega
theorem wd_mono {x : Int} {a b : Nat} (h : a ≤ b) (hx : x.natAbs < 2 ^ a) : x.natAbs < 2 ^ b := Nat.lt_of_lt_of_le hx (Nat.pow_le_pow_right (by decide) h)
theorem Wd.mono {v : Vec n} {a b : Nat} (h : a ≤ b) (hv : Wd a v) : Wd b v := fun i => wd_mono h (hv i)
theorem wd_comb {x y : Int} {u v : Vec n} {a b c d e : Nat} (hx : x.natAbs < 2 ^ a) (hu : Wd b u) (hy : y.natAbs < 2 ^ c) (hv : Wd d v) (h1 : a + b ≤ e) (h2 : c + d ≤ e) : Wd (e + 1) (comb x u y v) := fun i =>
  wd_add (wd_mono h1 (wd_mul hx (hu i))) (wd_mono h2 (wd_mul hy (hv i)))
section
variable {P : Program} {w : World} {K : PySem.W.Frag} {mg : Str → Option Value} {base : Heap}
/-! ### dot -/
theorem scDot : FnScope ["first", "second", "a", "b"] ["first", "second"] (defScope sDot) := ⟨rfl, rfl, rfl, by decide +kernel, rfl, by decide +kernel, by decide +kernel⟩
def spDot (K : PySem.W.Frag) : Sp := fun vs H Q _ => ∃ (n : Nat) (u v : Vec n) (a b : Addr), vs = [.ref a, .ref b] ∧ VecAt H a u ∧ VecAt H b v ∧ Wd 100000 u ∧ Wd 100000 v ∧ n ≤ 100 ∧ ∀ H', Same H H' → Q (.int (dot u v)) H'
theorem ok_dot {f : Addr} {fd : FuncData} (F : Fun K "dot" "dot" sDot f fd) (mS : mg "sum" = none) (mZ : mg "zip" = none) : FnOk P w K mg base CX0 1 f fd ["first", "second"] (spDot K) := by
  refine F.ok scDot (fun vs H Q E h => ?_) (fun cdv A outer s H vs Q E hr h => ?_)
  · obtain ⟨n, u, v, a, b, rfl, _⟩ := h
    rfl
  · obtain ⟨n, u, v, a, b, rfl, hA, hB, hu, hv, hn, q⟩ := h
    refine ⟨_, pss_one (ps_ret (pe_callB (cr_sum rfl) (by rfl) mS (by decide +kernel) (pa_cons
      (pe_lc (own := [("a", 2), ("b", 3)]) (g := gTup K 2 (gCons (gName 2) (gCons (gName 3) gNil))) (tt := tYes) rfl scDot.nd (pi_zip (by rfl) mZ (pa_cons (pv 0) (pa_cons (pv 1) pa_nil)))
        (blkOk_by (N := ["first", "second", "a", "b"]) (sc := defScope sDot) (by decide +kernel))
        (fun _ _ _ _ _ => pg_tup rfl (pgs_cons (pg_name (i := 2) scDot.nd rfl (Or.inl rfl)) (pgs_cons (pg_name (i := 3) scDot.nd rfl (Or.inl rfl)) pgs_nil))) (fun _ _ _ _ _ => pts_nil)
        (fun _ _ _ _ _ => pe_op op_mulX (pv 2) (pv 3))) pa_nil))), ?_⟩
    refine ⟨.ref a, rfl, .ref b, rfl, a, b, il u, il v, rfl, SqL.of hA, SqL.of hB, fun D nD => ?_⟩
    refine lc_mk (walk_zip (xs := il u) (ys := il v) (n := n) (by rw [il_len, il_len]; omega)) (fun i y _ => ∃ h : i < n, y = .int (u ⟨i, h⟩ * v ⟨i, h⟩)) (fun i y H H' _ r => r) (fun H' s' => ⟨SqL.of (s' _ _ hA), SqL.of (s' _ _ hB)⟩) nD (Nat.le_trans hn (by decide)) ?_ (mono_tup2 K 2 3) ?_
    · rintro i x H1 H' Nx hi s1 _ ⟨T, x1, x2, rfl, nT, rfl, e1, e2⟩ cont
      obtain ⟨_, rfl⟩ := il_at e1
      obtain ⟨_, rfl⟩ := il_at e2
      refine ⟨T, _, rfl, SqT.of upd_same, rfl, _, _, rfl, _, _, rfl, rfl, rfl, _, rfl, _, rfl, _, _, rfl, rfl, mulx_ok (hu _) (hv _) (by decide), ?_⟩
      exact cont _ _ (same_upd nT) ⟨hi, rfl⟩
    · intro H2 ys s2 hD hl hr
      refine ⟨D, List.ofFn (fun i => u i * v i), rfl, SqL.of ?_, ?_⟩
      · rw [hD, il_of (v := fun i => u i * v i) hl hr]
        rfl
      · rw [← sumF_list]
        exact q H2 s2
/-! ### combined -/
theorem scComb : FnScope ["first", "vector", "second", "other", "a", "b"] ["first", "vector", "second", "other"] (defScope sComb) := ⟨rfl, rfl, rfl, by decide +kernel, rfl, by decide +kernel, by decide +kernel⟩
def spComb (K : PySem.W.Frag) : Sp := fun vs H Q _ => ∃ (n : Nat) (x y : Int) (u v : Vec n) (a b : Addr), vs = [.int x, .ref a, .int y, .ref b] ∧ VecAt H a u ∧ VecAt H b v ∧ x.natAbs < 2 ^ 100000 ∧ y.natAbs < 2 ^ 100000 ∧ Wd 100000 u ∧ Wd 100000 v ∧ n ≤ 100 ∧
  ∀ H' p, Same H H' → H p = none → VecAt H' p (comb x u y v) → Q (.ref p) H'
theorem ok_comb {f : Addr} {fd : FuncData} (F : Fun K "combined" "combined" sComb f fd) (mZ : mg "zip" = none) : FnOk P w K mg base CX0 1 f fd ["first", "vector", "second", "other"] (spComb K) := by
  refine F.ok scComb (fun vs H Q E h => ?_) (fun cdv A outer s H vs Q E hr h => ?_)
  · obtain ⟨n, x, y, u, v, a, b, rfl, _⟩ := h
    rfl
  · obtain ⟨n, x, y, u, v, a, b, rfl, hA, hB, hx, hy, hu, hv, hn, q⟩ := h
    refine ⟨_, pss_one (ps_ret (pe_lc (own := [("a", 4), ("b", 5)]) (g := gTup K 2 (gCons (gName 4) (gCons (gName 5) gNil))) (tt := tYes) rfl scComb.nd (pi_zip (by rfl) mZ (pa_cons (pv 1) (pa_cons (pv 3) pa_nil)))
        (blkOk_by (N := ["first", "vector", "second", "other", "a", "b"]) (sc := defScope sComb) (by decide +kernel))
        (fun _ _ _ _ _ => pg_tup rfl (pgs_cons (pg_name (i := 4) scComb.nd rfl (Or.inl rfl)) (pgs_cons (pg_name (i := 5) scComb.nd rfl (Or.inl rfl)) pgs_nil))) (fun _ _ _ _ _ => pts_nil)
        (fun _ _ _ _ _ => pe_op op_add (pe_op op_mulX (pv 0) (pv 4)) (pe_op op_mulX (pv 2) (pv 5))))), ?_⟩
    refine ⟨.ref a, rfl, .ref b, rfl, a, b, il u, il v, rfl, SqL.of hA, SqL.of hB, fun D nD => ?_⟩
    refine lc_mk (walk_zip (xs := il u) (ys := il v) (n := n) (by rw [il_len, il_len]; omega)) (fun i z _ => ∃ h : i < n, z = .int (comb x u y v ⟨i, h⟩)) (fun i y H H' _ r => r) (fun H' s' => ⟨SqL.of (s' _ _ hA), SqL.of (s' _ _ hB)⟩) nD (Nat.le_trans hn (by decide)) ?_ (mono_tup2 K 4 5) ?_
    · rintro i z H1 H' Nx hi s1 _ ⟨T, x1, x2, rfl, nT, rfl, e1, e2⟩ cont
      obtain ⟨_, rfl⟩ := il_at e1
      obtain ⟨_, rfl⟩ := il_at e2
      refine ⟨T, _, rfl, SqT.of upd_same, rfl, _, _, rfl, _, _, rfl, rfl, rfl, _, rfl, _, rfl, _, _, rfl, rfl, mulx_ok hx (hu _) (by decide), _, rfl, _, rfl, _, _, rfl, rfl, mulx_ok hy (hv _) (by decide), _, _, rfl, rfl, ?_⟩
      exact cont _ _ (same_upd nT) ⟨hi, rfl⟩
    · intro H2 ys s2 hD hl hr
      refine q H2 D s2 nD ?_
      show H2 D = some (.lst (il (comb x u y v)))
      rw [hD, il_of hl hr]
/-! ### pivot_of -/
def pivV (o : Option (Fin n)) : V := match o with
  | some c => .int ((c.val : Nat) : Int)
  | none => .non
theorem scPiv : FnScope ["vector", "column"] ["vector"] (defScope sPiv) := ⟨rfl, rfl, rfl, by decide +kernel, rfl, by decide +kernel, by decide +kernel⟩
def spPiv (K : PySem.W.Frag) : Sp := fun vs H Q _ => ∃ (m : Nat) (v : Vec (m + 1)) (a : Addr), vs = [.ref a] ∧ VecAt H a v ∧ m ≤ 100 ∧ Q (pivV (pivotOf v)) H
theorem ok_piv {f : Addr} {fd : FuncData} (F : Fun K "pivot_of" "pivot_of" sPiv f fd) (mR : mg "range" = none) (mL : mg "len" = none) : FnOk P w K mg base CX0 1 f fd ["vector"] (spPiv K) := by
  refine F.ok scPiv (fun vs H Q E h => ?_) (fun cdv A outer s H vs Q E hr h => ?_)
  · obtain ⟨m, v, a, rfl, _⟩ := h
    rfl
  · obtain ⟨m, v, a, rfl, hA, hm, q⟩ := h
    refine ⟨_, pss_cons (ps_for PassesOwn.never rfl (pi_range2 (by rfl) mR (pa_cons pe_int (pa_cons (pe_callB call_len_seq (by rfl) mL PySem.boot_len (pa_cons (pv 0) pa_nil)) pa_nil))) (pg_name (i := 1) scPiv.nd rfl (.inl rfl))
        (pss_one (ps_if (pt_cmpR op_ne (pe_ix ix_list (pv 0) (pv 1) (fun _ _ => rfl)) pe_int (nomark _)) (pss_one (ps_ret (pv 1))) pss_nil)))
      (pss_cons (ps_if (PW.pt (pw_and (pt_cmpR op_gt (pe_callB call_len_seq (by rfl) mL PySem.boot_len (pa_cons (pv 0) pa_nil)) pe_int (nomark _)) (pw_and1 (pt_cmpR op_ne (pe_ix ix_list (pv 0) pe_int (fun _ _ => rfl)) pe_int (nomark _)))))
        (pss_one (ps_ret pe_int)) pss_nil)
      (pss_one (ps_ret pe_non))), ?_⟩
    refine ⟨.ref a, rfl, a, _, rfl, .inl (SqL.of hA), 1, _, rfl, ⟨by decide, by decide, by rw [il_len]; omega, by rw [il_len]; omega⟩, ?_⟩
    refine for_range (lo := 1) (n := _) (fun i σ H3 => H3 = H ∧ (∃ y, σ = [some (.ref a), y]) ∧ ∀ c : Fin (m + 1), 1 ≤ c.val → c.val < 1 + i → v c = 0) ⟨rfl, ⟨none, rfl⟩, fun c h1 h2 => by omega⟩ ?_ ?_
    · rintro i σ H3 hi ⟨rfl, ⟨y, rfl⟩, hz⟩
      have hi' : 1 + i < m + 1 := by rw [il_len] at hi; omega
      refine ⟨.ref a, rfl, _, rfl, a, il v, 1 + (i : Int), .int (v ⟨1 + i, hi'⟩), rfl, rfl, SqL.of hA, at_of (j := 1 + i) (by omega) (il_get v ⟨1 + i, hi'⟩), rfl, _, rfl, ite2 (fun e => ?_) (fun e => ?_)⟩
      · have hv : v ⟨1 + i, hi'⟩ ≠ 0 := fun z => by
          rw [z] at e
          simp at e
        refine ⟨_, rfl, ?_⟩
        have hp : pivotOf v = some ⟨1 + i, hi'⟩ := by
          refine pivotOf_of hv fun d hd => ?_
          have e1 : (⟨1 + i, hi'⟩ : Fin (m + 1)) = Fin.succ ⟨i, by omega⟩ := Fin.ext (by simp; omega)
          rw [e1, key_succ] at hd
          by_cases hd0 : d = 0
          · subst hd0
            rw [key_zero] at hd
            dsimp only at hd
            omega
          · obtain ⟨k, rfl⟩ : ∃ k : Fin m, d = k.succ := ⟨d.pred hd0, by simp⟩
            rw [key_succ] at hd
            exact hz _ (by simp) (by simp at hd ⊢; omega)
        rw [hp] at q
        have e2 : (1 : Int) + (i : Int) = ((1 + i : Nat) : Int) := by omega
        show Q (.int (1 + (i : Int))) H3
        rw [e2]
        exact q
      · have hv : v ⟨1 + i, hi'⟩ = 0 := Classical.byContradiction fun z => e (by simp [z])
        refine ⟨rfl, ⟨_, rfl⟩, fun c h1 h2 => ?_⟩
        by_cases hc : c.val = 1 + i
        · have : c = ⟨1 + i, hi'⟩ := Fin.ext hc
          rw [this]; exact hv
        · exact hz c h1 (by omega)
    · rintro σ H3 ⟨rfl, ⟨y, rfl⟩, hz⟩
      have hz' : ∀ c : Fin (m + 1), c ≠ 0 → v c = 0 := fun c hc => hz c (by
        have : c.val ≠ 0 := fun z => hc (Fin.ext z)
        omega) (by
        rw [il_len]
        have := c.isLt
        omega)
      refine ⟨.ref a, rfl, a, _, rfl, .inl (SqL.of hA), _, _, rfl, rfl, _, rfl, ?_⟩
      have hl : decide ((0 : Int) < ((il v).length : Nat)) = true := by
        rw [il_len]
        exact decide_eq_true (by omega)
      rw [hl]
      refine iteT ?_
      refine ⟨.ref a, rfl, a, il v, 0, .int (v 0), rfl, rfl, SqL.of hA, at_of (j := 0) rfl (il_get v 0), rfl, _, rfl, ite2 (fun e => ?_) (fun e => ?_)⟩
      · have hv : v 0 ≠ 0 := fun z => by
          rw [z] at e
          simp at e
        have hp : pivotOf v = some 0 := pivotOf_of hv fun d hd => hz' d fun e => by
          rw [e] at hd
          omega
        rw [hp] at q
        exact q
      · have hv : v 0 = 0 := Classical.byContradiction fun z => e (by simp [z])
        have hp : pivotOf v = none := by
          cases e1 : pivotOf v with
          | none => rfl
          | some c =>
            exfalso
            refine (pivotOf_some e1).1 ?_
            by_cases hc : c = 0
            · rw [hc]; exact hv
            · exact hz' c hc
        rw [hp] at q
        exact q
/-! ### cleared -/
theorem same_none {H H' : Hp} {p : Addr} (s : Same H H') (h : H' p = none) : H p = none := by
  cases e : H p with
  | none => rfl
  | some o => rw [s _ _ e] at h; cases h
theorem scClr : FnScope ["vector", "row", "column"] ["vector", "row", "column"] (defScope sClr) := ⟨rfl, rfl, rfl, by decide +kernel, rfl, by decide +kernel, by decide +kernel⟩
def spClr (K : PySem.W.Frag) : Sp := fun vs H Q _ => ∃ (n : Nat) (v row : Vec n) (c : Fin n) (a b : Addr) (bv br : Nat), vs = [.ref a, .ref b, .int ((c.val : Nat) : Int)] ∧ VecAt H a v ∧ VecAt H b row ∧ Wd bv v ∧ Wd br row ∧ bv + br + 1 ≤ 8000 ∧ n ≤ 100 ∧
  ∀ H' p, Same H H' → (p = a ∨ H p = none) → VecAt H' p (cleared v row c) → Q (.ref p) H'
theorem ok_clr {f fP fC : Addr} {fd fdP fdC : FuncData} (F : Fun K "cleared" "cleared" sClr f fd) (kP : PySem.W.keepIn K (.ref fP) = true) (bP : Binds K fdP ["vector"] []) (gP : mg "primitive" = some (.ref fP)) (GP : FnOk P w K mg base CX0 2 fP fdP ["vector"] (spPrim K))
    (kC : PySem.W.keepIn K (.ref fC) = true) (bC : Binds K fdC ["first", "vector", "second", "other"] []) (gC : mg "combined" = some (.ref fC)) (GC : FnOk P w K mg base CX0 1 fC fdC ["first", "vector", "second", "other"] (spComb K)) :
    FnOk P w K mg base CX0 3 f fd ["vector", "row", "column"] (spClr K) := by
  refine F.ok scClr (fun vs H Q E h => ?_) (fun cdv A outer s H vs Q E hr h => ?_)
  · obtain ⟨n, v, row, c, a, b, bv, br, rfl, _⟩ := h
    rfl
  · obtain ⟨n, v, row, c, a, b, bv, br, rfl, hA, hB, hv, hrow, hb, hn, q⟩ := h
    refine ⟨_, pss_cons (ps_if (pt_cmpR op_eq (pe_ix ix_list (pv 0) (pv 2) (fun _ _ => rfl)) pe_int (nomark _)) (pss_one (ps_ret (pv 0))) pss_nil)
      (pss_one (ps_ret (pe_call GP hr (by rfl) gP kP bP .nil pass0 (pa_cons (pe_call GC (hr.mono (by decide)) (by rfl) gC kC bC .nil pass0
        (pa_cons (pe_ix ix_list (pv 1) (pv 2) (fun _ _ => rfl)) (pa_cons (pv 0) (pa_cons (pe_un un_neg (pe_ix ix_list (pv 0) (pv 2) (fun _ _ => rfl))) (pa_cons (pv 1) pa_nil))))) pa_nil)))), ?_⟩
    refine ⟨.ref a, rfl, _, rfl, a, il v, _, .int (v c), rfl, rfl, SqL.of hA, at_of (j := c.val) rfl (il_get v c), rfl, _, rfl, ite2 (fun e => ?_) (fun e => ?_)⟩
    · have hv0 : v c = 0 := by simpa using e
      refine ⟨_, rfl, q H a (Same.refl _) (.inl rfl) ?_⟩
      unfold cleared
      rw [if_pos hv0]
      exact hA
    · have hv0 : ¬ v c = 0 := fun z => e (by simp [z])
      refine ⟨.ref b, rfl, _, rfl, b, il row, _, .int (row c), rfl, rfl, SqL.of hB, at_of (j := c.val) rfl (il_get row c), _, rfl, .ref a, rfl, _, rfl, a, il v, _, .int (v c), rfl, rfl, SqL.of hA, at_of (j := c.val) rfl (il_get v c), _, rfl, _, rfl, ?_⟩
      have hnv : (-(v c)).natAbs < 2 ^ bv := by rw [Int.natAbs_neg]; exact hv c
      refine ⟨n, row c, -(v c), v, row, a, b, rfl, hA, hB, wd_mono (by omega) (hrow c), wd_mono (by omega) hnv, hv.mono (by omega), hrow.mono (by omega), hn, fun H1 p s1 np hp => ?_⟩
      refine ⟨n, _, p, rfl, hp, ?_, hn, fun H2 p2 s2 np2 hp2 => ?_⟩
      · exact (wd_comb (hrow c) hv hnv hrow (e := bv + br) (by omega) (by omega)).mono hb
      · refine q H2 p2 (s1.trans s2) (.inr (same_none s1 np2)) ?_
        unfold cleared
        rw [if_neg hv0]
        exact hp2
end
end FW
set_option maxRecDepth 100000
set_option maxHeartbeats 1000000
/-! A lambda of one parameter, made in a def, called by sorted as its key. -/
namespace FW
open PySem PySem.Spec PyProof.Rows L2 LamX

/-- the lambda's names: its parameter x, captured ones, globals -/
structure Lam1 (sc scope : Scope) (x : Str) : Prop where
  kind : scope.kind = .function
  co : scope.isCoroutine = false
  gen : scope.isGenerator = false
  nc : ∀ y ∈ scope.names, y.2 ≠ .cell
  lc : ∀ y ∈ scope.names, y.2 = .local → y.1 = x
  par : scope.names.lookup x = some .local
  fr : ∀ y ∈ scope.names, y.2 = .free → sc.names.lookup y.1 = some .cell ∨ sc.names.lookup y.1 = some .free
def lam1B (sc scope : Scope) (x : Str) : Bool :=
  decide (scope.kind = .function) && !scope.isCoroutine && !scope.isGenerator && decide (scope.names.lookup x = some .local) &&
    scope.names.all fun y => !decide (y.2 = .cell) && (!decide (y.2 = .local) || decide (y.1 = x)) && (!decide (y.2 = .free) || (decide (sc.names.lookup y.1 = some .cell) || decide (sc.names.lookup y.1 = some .free)))
theorem lam1_by {sc scope : Scope} {x : Str} (h : lam1B sc scope x = true) : Lam1 sc scope x := by
  unfold lam1B at h
  simp only [Bool.and_eq_true, Bool.or_eq_true, Bool.not_eq_true', decide_eq_true_eq, decide_eq_false_iff_not, List.all_eq_true] at h
  obtain ⟨⟨⟨⟨a, b⟩, c⟩, d⟩, e⟩ := h
  exact ⟨a, b, c, fun y hy => (e y hy).1.1, fun y hy z => (e y hy).1.2.resolve_left fun q => q z, d, fun y hy z => (e y hy).2.resolve_left fun q => q z⟩
section
variable {X : Cx} {pins : List (Addr × Obj)} {σ : L2.St} {H : Hp} {s : Shared}
theorem Lam1.cells {scope : Scope} {x : Str} (L : Lam1 X.env.scope scope x) (ok : X.Ok) {y : Str × NameKind} (hy : y ∈ scope.names) (e : y.2 = .free) : ∃ c, X.env.cells.lookup y.1 = some c :=
  (L.fr y hy e).elim (fun k => ok.has _ (.inl k)) fun k => ok.has _ (.inr k)
/-- the lambda's body begins: its parameter holds y, the captured names what the maker's slots hold -/
theorem lam_begin {A : Around} {E : XK} {scope : Scope} {f c' : Addr} {hp : Heap} {tk i : Nat} {x : Str} {y : V} {u : Value} (I : Inv X pins σ H s) (L : Lam1 X.env.scope scope x) (hN : X.N.Nodup) (hi : X.N[i]? = some x)
    (e0 : Env0 X.prog X.w X.K X.mg X.base A X.stack s H) (hd : A.handled = none) (hns : hp.Ns s.heap.objs.size fun z => ([(x, u)] : List (Str × Value)).reverse.lookup z) (kp : ∀ b o, s.heap.get? b = some o → hp.get? b = some o) (rv : RelV y u) :
    Inv (lamCx X A X.stack s H E scope f c') [] (σ.set i (some y)) H { s with heap := hp, toks := tk } := by
  have back : ∀ {z c}, (cloFrom X.env.cells scope.names []).lookup z = some c → X.env.cells.lookup z = some c := fun {z c} e => by
    rcases cloFrom_mem (PySem.mem_of_lookup e) with hm | ⟨h1, h2⟩
    · cases hm
    · obtain ⟨c1, hc⟩ := L.cells I.ok h1 rfl
      have hc' : X.env.cells.lookup z = some c1 := hc
      have e2 : c = c1 := by
        rw [h2, hc']
        rfl
      rw [e2]; exact hc'
  have look : ∀ {z}, scope.names.lookup z = some .free → ∃ c, (cloFrom X.env.cells scope.names []).lookup z = some c := fun {z} hl =>
    mem_lookup (cloFrom_has (cells := X.env.cells) (acc := []) (PySem.mem_of_lookup hl))
  have stays : ∀ {c : Addr} {v : Option Value}, s.heap.IsCell c v → hp.IsCell c v := fun {c v} ⟨o, ho, hdat⟩ => ⟨o, kp _ _ ho, hdat⟩
  have none' : ∀ b : Addr, b ∉ (lamCx X A X.stack s H E scope f c').ex := fun b z => absurd (show b ∈ ([] : List Addr) from z) (by simp)
  have ok : (lamCx X A X.stack s H E scope f c').Ok := by
    refine ⟨e0.mod, L.kind, rfl, rfl, Nat.le_refl _, fun a b c k1 k2 => I.ok.inj a b c (back k1) (back k2), fun a ha => ?_, fun a c z _ => ?_, fun _ => hd, Around.frames_deeper e0.frames, .inr ⟨rfl, rfl⟩, fun b z => absurd z (none' b), e0.bs, e0.bsz, fun b _ _ => none' b,
      fun b z => absurd z (none' b), e0.funs, e0.frf⟩
    · have ha' : scope.names.lookup a = some .cell ∨ scope.names.lookup a = some .free := ha
      rcases ha' with k | k
      · exact absurd rfl (L.nc _ (PySem.mem_of_lookup k))
      · exact look k
    · have z' : false = true := z
      cases z'
  refine ⟨ok, rfl, e0.bare, Un.kept kp, ⟨_, hns, fun j z v k1 k2 k3 => ?_⟩, fun z c e => ?_, e0.hok.fresh (Nat.le_refl _), fun z c e => I.freeC z c (back e), fun q hq => absurd (show q ∈ ([] : List (Addr × Obj)) ++ [] from hq) (by simp), e0.hok.kept kp, (List.length_set).trans I.len⟩
  · by_cases hz : z = x
    · subst hz
      have ej : j = i := nodup_ix hN k1 hi
      subst ej
      have hlt : j < σ.length := by
        rw [I.len]
        exact (List.getElem?_eq_some_iff.mp hi).1
      rw [List.getElem?_set_self hlt] at k2
      cases k2
      exact ⟨u, rv, .inl ⟨L.par, by simp⟩⟩
    · have k3' : Vis scope z := k3
      have hji : i ≠ j := fun e => by
        subst e
        have k1' : X.N[i]? = some z := k1
        rw [hi] at k1'
        exact hz (Option.some.inj k1').symm
      rw [List.getElem?_set_ne hji] at k2
      rcases k3' with k | k | k
      · exact absurd (L.lc _ (PySem.mem_of_lookup k) rfl) hz
      · exact absurd rfl (L.nc _ (PySem.mem_of_lookup k))
      · obtain ⟨m, hn, hl⟩ := I.loc
        have hvis : Vis X.env.scope z := (L.fr _ (PySem.mem_of_lookup k) rfl).elim (fun q => .inr (.inl q)) fun q => .inr (.inr q)
        obtain ⟨w', r, q⟩ := hl j z v k1 k2 hvis
        obtain ⟨c2, h2⟩ := look k
        refine ⟨w', r, .inr ⟨.inr k, c2, h2, ?_⟩⟩
        rcases q with ⟨k', _⟩ | ⟨_, c3, e', z'⟩
        · have k' : X.env.scope.names.lookup z = some .local := k'
          rcases L.fr _ (PySem.mem_of_lookup k) rfl with q2 | q2 <;> rw [show X.env.scope.names.lookup z = _ from q2] at k' <;> cases k'
        · rw [back h2] at e'
          cases e'
          exact stays z'
  · obtain ⟨w', z'⟩ := I.cell z c (back e)
    exact ⟨w', stays z'⟩
theorem no_exc {P : Program} {w : World} {outer : List Env} {e : Value} {s' : Shared} (h : L2.CX P w outer H s E0 e s') : False := by
  obtain ⟨_, _, _, _, _, _, _, _, _, _, _, _, z⟩ := h
  exact z
/-- the lambda called with one argument -/
theorem lam_call {A : Around} {scope : Scope} {f c' : Addr} {k i : Nat} {x : Str} {y : V} {u pm ctv : Value} {params : Arguments} {body : Expr} {tb : TE} {Q : VK} {E' : Value → Shared → Prop} (I : Inv X pins σ H s) (L : Lam1 X.env.scope scope x) (hN : X.N.Nodup) (hi : X.N[i]? = some x)
    (e0 : Env0 X.prog X.w X.K X.mg X.base A X.stack s H) (hf : s.heap.get? f = some (PySem.W.kla_obj "<lambda>" (X.env.qual ++ "<lambda>") params body scope (cloFrom X.env.cells scope.names []) pm c' ctv)) (hc : H c' = some (CodeO c' (X.env.qual ++ "<lambda>")))
    (hbind : ∀ v : Value, bindArgs (PySem.W.kla_fn "<lambda>" (X.env.qual ++ "<lambda>") params body scope (cloFrom X.env.cells scope.names []) pm (.ref c') ctv) ⟨[v], []⟩ = pure [(x, v)]) (hr : Room (k + 1) A)
    (hbody : ∀ (A : Around) (outer : List Env) (s : Shared) (H : Hp), Room k (A.deeper (lamEnv X scope s.heap.objs.size f c')) → PE (lamCx X A outer s H E0 scope f c') body tb) (rv : RelV y u) (ht : tb (σ.set i (some y)) H Q) :
    wpAny (model X.prog X.w) A (call (.ref f) [u] []) (fun w' s' => CE X.stack X.prog X.w H s Q w' s') E' s := by
  obtain ⟨⟨oc, vs, t, hoc, hdc, hvc⟩, _, _⟩ := I.hok c' _ hc
  have rc : codeAny (model X.prog X.w) A (.call (.ref f) ⟨[u], []⟩) (CR (L2.CX X.prog X.w) X.stack X.prog X.w H s Q E0) s := by
    refine PySem.W.kla_callFunE hr.depth hf rfl L.co L.gen rfl ⟨c', oc, vs, t, rfl, hoc, hdc, hvc⟩ ?_
    rw [hbind]
    refine wpAny_pure (wpAny_newFunctionEnv L.nc (fun z hz => ?_) (fun hp hns hsb => ⟨I.nolimit.fresh _ hsb, ?_⟩) L.kind)
    · have : z = (x, u) := by simpa using hz
      rw [this]; exact L.par
    · show codeAny _ _ (.expr body (lamEnv X scope s.heap.objs.size f c')) _ _
      have kp : ∀ b o, s.heap.get? b = some o → hp.get? b = some o := fun b o e => hsb.extBut b o (Nat.ne_of_lt (Heap.lt_size e)) (Heap.get?_push_of_some _ e)
      have J : Inv (lamCx X A X.stack s H E0 scope f c') [] (σ.set i (some y)) H { s with heap := hp, toks := s.toks + ([(x, u)] : List (Str × Value)).length } := lam_begin I L hN hi e0 hr.hd hns kp rv
      refine PySem.W.kla_codeExpr (wpAny_mono ((hbody A X.stack s H (hr.deeper _)).run [] _ _ H Q J ht) (fun v s' hq => ?_) fun e s' hq => hq)
      obtain ⟨w', H', J', rw', q⟩ := hq
      exact ⟨w', H', J'.os, J'.bare, J'.base, J'.hok, rw', q⟩
  refine wpAny_call (codeAny_mono rc fun r s' hq => ?_)
  cases r with
  | error e => exact (no_exc hq).elim
  | ok fl =>
    cases fl with
    | ret w' => exact hq
    | next => exact False.elim hq
    | brk => exact False.elim hq
    | cont => exact False.elim hq
end
end FW
set_option maxRecDepth 100000
set_option maxHeartbeats 2000000
/-! sorted(xs, key=lambda ..): keys that are ints, fewer than 64 items. -/
namespace FW
open PySem PySem.Spec PyProof.Rows L2 LamX
section
variable {X : Cx} {pins : List (Addr × Obj)} {σ : L2.St} {H : Hp} {s : Shared}
/-- an object of ours that is not tracked -/
structure Mine (X : Cx) (pins : List (Addr × Obj)) (H : Hp) (a : Addr) : Prop where
  no : H a = none
  lo : a ≠ X.env.locals
  up : X.s_0.heap.objs.size ≤ a
  ce : ∀ x c, X.env.cells.lookup x = some c → c ≠ a
  pi : ∀ p ∈ X.pn ++ pins, p.1 ≠ a
  fr : a ∉ X.fs
theorem mine_new (I : Inv X pins σ H s) {a : Addr} (h : s.heap.objs.size ≤ a) : Mine X pins H a := by
  refine ⟨I.hok.fresh h, fun e => ?_, Nat.le_trans I.sz h, fun x c e z => ?_, fun p hp z => ?_, I.nofs h⟩
  · have q := I.lt
    rw [← e] at q
    exact Nat.lt_irrefl _ (Nat.lt_of_lt_of_le q h)
  · obtain ⟨v, o, ho, _⟩ := I.cell x c e
    have q := Heap.lt_size ho
    rw [z] at q
    exact Nat.lt_irrefl _ (Nat.lt_of_lt_of_le q h)
  · obtain ⟨e, _⟩ := I.pin p hp
    have q := Heap.lt_size e
    rw [z] at q
    exact Nat.lt_irrefl _ (Nat.lt_of_lt_of_le q h)
theorem Mine.turn {a : Addr} (M : Mine X pins H a) (I : Inv X pins σ H s) {hp : Heap} {t : Nat} (k : ∀ b o, b ≠ a → s.heap.get? b = some o → hp.get? b = some o) : Inv X pins σ H { s with heap := hp, toks := t } :=
  I.turned k M.no M.lo (.inr M.up) M.ce M.pi
/-- an object of ours is tracked from now on -/
theorem Mine.track {a : Addr} {o : HO} (M : Mine X pins H a) (I : Inv X pins σ H s) (ho : ObjOk X.prog X.w (upd H a o) s.heap a o) : Inv X pins σ (upd H a o) s := by
  have ne : ∀ {b u}, H b = some u → b ≠ a := fun e => ne_of_none e M.no
  refine ⟨I.ok, I.os, I.bare, ⟨fun b u q n hb he => I.base.keep b u q n hb he, fun b u q n hb he => I.base.slot b u q n hb he, fun b u q n he => ?_, I.base.there, fun b xs q => ?_, fun b u xs q => ?_, fun b ps q => ?_⟩, I.loc, I.cell, ?_, fun x c e => ?_, fun p hp => ?_, fun b u e => ?_, I.len⟩
  · have : b ≠ a := fun z => by
      have q1 := Heap.lt_size q
      rw [z] at q1
      exact Nat.lt_irrefl _ (Nat.lt_of_lt_of_le q1 M.up)
    rw [upd_ne this]
    exact I.base.free b u q n he
  · have e := I.base.tups b xs q
    rw [upd_ne (ne e)]; exact e
  · have e := I.base.frzs b u xs q
    rw [upd_ne (ne e)]; exact e
  · obtain ⟨m, e⟩ := I.base.tbls b ps q
    exact ⟨m, by rw [upd_ne (ne e)]; exact e⟩
  · rw [upd_ne M.lo.symm]; exact I.free
  · rw [upd_ne (M.ce x c e)]; exact I.freeC x c e
  · obtain ⟨a1, a2, a3⟩ := I.pin p hp
    exact ⟨a1, by rw [upd_ne (M.pi p hp)]; exact a2, a3⟩
  · by_cases hb : b = a
    · subst hb
      rw [upd_same] at e
      cases e
      exact ho
    · rw [upd_ne hb] at e
      exact (I.hok b u e).stay (fun _ _ _ q => q) (fun c q => by rw [upd_ne (ne q)]; exact q) fun c xs q => by rw [upd_ne (ne q)]; exact q
/-- pins for the time of a call -/
theorem Mine.pinned {a : Addr} {o : Obj} (M : Mine X pins H a) (ho : s.heap.get? a = some o) (hd : ∀ v, o.data ≠ .cell v) : s.heap.get? (a, o).1 = some (a, o).2 ∧ H (a, o).1 = none ∧ (a, o).1 ≠ X.env.locals ∧ (a, o).1 ∉ X.fs ∧ ∀ v, (a, o).2.data ≠ .cell v :=
  ⟨ho, M.no, M.lo, M.fr, hd⟩
theorem list_ncell (vs : Array Value) (n : Nat) : ∀ v, (seqObj "list" vs n).data ≠ .cell v := fun v e => by cases e

variable {A : Around} {E : Value → Shared → Prop} {a kS : Addr} {vs : List Value} {kz : List Int} {keys : Array Value} {e e1 : Nat} {P : PySem.Fin → Shared → Prop}
theorem own_tail {st : SortSt} (I : Inv X pins σ H s) (Ma : Mine X pins H a) (Mk : Mine X pins H kS) (nk : s.heap.get? kS = some (seqObj "list" keys e)) (na : s.heap.get? a = some (seqObj "list" #[] e1)) (hka : kS ≠ a) (hk : IntsAre keys.toList kz) (hlen : kz.length = vs.length) (h64 : vs.length < 64)
    (hp : (arrOf st).Perm (keys.zip vs.toArray)) (hs : SortedTo (arrOf st) (arrOf st).size) (hfl : failedOf st = none)
    (h : ∀ s' out c, Inv X pins σ H s' → s'.heap.get? a = some (seqObj "list" out c) → KskOut false kz vs out.toList → P (.done (.ret .none)) s') :
    wpAny (model X.prog X.w) A (ksk_tail a false e1 (.ref kS) st) P E s := by
  have k1 : keys.size = vs.length := by
    have := hk.length
    rw [Array.length_toList] at this
    omega
  have k2 : ((arrOf st).map (·.2)).size = vs.length := by rw [Array.size_map, hp.size_eq, Array.size_zip, k1, List.size_toArray, Nat.min_self]
  have u1 := Heap.SameBut.update s.heap kS (Obj.mapSeq fun _ => (#[] : Array Value))
  have I1 : Inv X pins σ H { s with heap := s.heap.update kS (Obj.mapSeq fun _ => (#[] : Array Value)) } := Mk.turn (t := s.toks) I fun b o hb q => (u1.2 b hb).trans q
  have na1 : (s.heap.update kS (Obj.mapSeq fun _ => (#[] : Array Value))).get? a = some (seqObj "list" #[] e1) := (u1.2 a hka.symm).trans na
  have u2 := Heap.SameBut.update (s.heap.update kS (Obj.mapSeq fun _ => (#[] : Array Value))) a (Obj.mapSeq fun _ => (arrOf st).map (·.2))
  obtain ⟨c2, hc2⟩ : ∃ c, ((s.heap.update kS (Obj.mapSeq fun _ => (#[] : Array Value))).update a (Obj.mapSeq fun _ => (arrOf st).map (·.2))).get? a = some (seqObj "list" ((arrOf st).map (·.2)) c) := ⟨_, get?_update_seq na1 fun _ => (arrOf st).map (·.2)⟩
  have big : (64 : Nat) ≤ sizeLine := by decide
  unfold ksk_tail
  try dsimp only
  refine wpAny_bind (listUpdate_at nk rfl ?_ (by rw [k1]; omega) (Nat.zero_le _))
  refine wpAny_bind (wpAny_letGo (wpAny_bind (seqEpoch_at na1 rfl ?_)))
  refine wpAny_bind (listUpdate_at na1 rfl ?_ (Nat.zero_le _) (by
    simp only [Bool.false_eq_true, if_false]
    rw [k2]
    omega))
  rw [hfl]
  simp only [bne_self_eq_false, Bool.false_eq_true, if_false]
  exact wpAny_pure (h _ _ c2 (Ma.turn (t := s.toks) I1 fun b o hb q => (u2.2 b hb).trans q) hc2 (ksk_out (b := false) hk hp hs))
theorem own_end (I : Inv X pins σ H s) (Ma : Mine X pins H a) (Mk : Mine X pins H kS) (nk : s.heap.get? kS = some (seqObj "list" keys e)) (na : s.heap.get? a = some (seqObj "list" #[] e1)) (hka : kS ≠ a) (hk : IntsAre keys.toList kz) (hlen : kz.length = vs.length) (h64 : vs.length < 64)
    (h : ∀ s' out c, Inv X pins σ H s' → s'.heap.get? a = some (seqObj "list" out c) → KskOut false kz vs out.toList → P (.done (.ret .none)) s') :
    wpAny (model X.prog X.w) A (ksk_end a false vs.toArray e1 (.ref kS) keys) P E s := by
  have k1 : keys.size = vs.length := by
    have := hk.length
    rw [Array.length_toList] at this
    omega
  have k2 : (keys.zip vs.toArray).size = vs.length := by rw [Array.size_zip, k1, List.size_toArray, Nat.min_self]
  unfold ksk_end
  try dsimp only
  simp only [Bool.false_eq_true, if_false]
  by_cases h2 : vs.toArray.size < 2
  · rw [if_pos h2, if_pos h2]
    refine wpAny_bind (wpAny_pure ?_)
    rw [StateT.run_pure]
    refine wpAny_bind (wpAny_pure ?_)
    try dsimp only
    refine own_tail (st := SortSt.mk' general' (keys.zip vs.toArray) #[] 7 none) I Ma Mk nk na hka hk hlen h64 (Array.Perm.refl _) (fun i j hij hj => ?_) rfl h
    have hj2 : j < (keys.zip vs.toArray).size := hj
    rw [List.size_toArray] at h2
    have : i = j := by omega
    subst this
    exact Int.le_refl _
  · rw [if_neg h2, if_neg h2]
    rw [List.size_toArray] at h2
    rw [ksk_kind hk (by rw [k1]; omega)]
    refine wpAny_bind (wpAny_pure (wpAny_bind (wpAny_mono (wpS_sortRuns (a₀ := keys.zip vs.toArray) (st := SortSt.mk' oneType' (keys.zip vs.toArray) #[] 7 none)
      (Q := fun _ st' => (arrOf st').Perm (keys.zip vs.toArray) ∧ failedOf st' = none ∧ SortedTo (arrOf st') (keys.zip vs.toArray).size)
      (ksk_intKeys hk) ⟨Array.Perm.refl _, rfl, rfl, rfl⟩ (by rw [k2]; omega) (by rw [k2]; exact h64) fun st' a1 a2 a3 => ⟨a1, a2, a3⟩) ?_ fun _ _ q => q)))
    rintro ⟨⟨⟩, st'⟩ s' ⟨rfl, hp, hf, hs⟩
    try dsimp only
    exact own_tail I Ma Mk nk na hka hk hlen h64 hp (by rw [hp.size_eq]; exact hs) hf h
theorem own_rest {f : Value} (I : Inv X pins σ H s) (Ma : Mine X pins H a) (Mk : Mine X pins H kS) (nk : s.heap.get? kS = some (seqObj "list" #[] 0)) (na : s.heap.get? a = some (seqObj "list" #[] e1)) (hka : kS ≠ a) (hlen : kz.length = vs.length) (h64 : vs.length < 64)
    (G : Shared → Prop) (hG : ∀ s' b, G s' → (b = a ∨ b = kS) → ∀ hp t, (∀ c o, c ≠ b → s'.heap.get? c = some o → hp.get? c = some o) → G { s' with heap := hp, toks := t }) (g0 : G s)
    (turn : ∀ (i : Nat) (v : Value) (k : Int) (s' : Shared) (kA : Array Value) (ep : Nat), vs[i]? = some v → kz[i]? = some k → Inv X pins σ H s' → G s' → s'.heap.get? kS = some (seqObj "list" kA ep) → s'.heap.get? a = some (seqObj "list" #[] e1) →
      wpAny (model X.prog X.w) A (call f [v]) (fun r s'' => (∃ t, r = .int k t) ∧ Inv X pins σ H s'' ∧ G s'' ∧ s''.heap.get? kS = some (seqObj "list" kA ep) ∧ s''.heap.get? a = some (seqObj "list" #[] e1)) (fun _ _ => False) s')
    (h : ∀ s' out c, Inv X pins σ H s' → s'.heap.get? a = some (seqObj "list" out c) → KskOut false kz vs out.toList → P (.done (.ret .none)) s') :
    wpAny (model X.prog X.w) A (ksk_rest a f false vs.toArray e1 (.ref kS)) P E s := by
  have big : (64 : Nat) ≤ sizeLine := by decide
  unfold ksk_rest
  refine wpAny_bind (wpAny_rule ?_)
  first
    | rw [List.forIn_toArray]
    | (rw [← Array.forIn_toList]; simp only [List.toList_toArray])
    | rw [← Array.forIn_toList]
  refine wpAny_bind (ksk_fold (fun i s' => ∃ kA ep, Inv X pins σ H s' ∧ G s' ∧ s'.heap.get? kS = some (seqObj "list" kA ep) ∧ s'.heap.get? a = some (seqObj "list" #[] e1) ∧ IntsAre kA.toList (kz.take i)) vs 0 s
    ⟨#[], 0, I, g0, nk, na, by simpa using IntsAre.nil⟩ ?step ?done)
  case step =>
    rintro j x s' hx ⟨kA, ep, I', g', nk', na', hk⟩
    simp only [Nat.zero_add] at hk ⊢
    have hj : j < vs.length := (List.getElem?_eq_some_iff.mp hx).1
    obtain ⟨k, hkj⟩ : ∃ k, kz[j]? = some k := ⟨_, List.getElem?_eq_getElem (by omega)⟩
    have hz : kA.size ≤ vs.length := by
      have := hk.length
      rw [Array.length_toList, List.length_take] at this
      omega
    refine wpAny_bind (wpAny_attempt (wpAny_mono (turn j x k s' kA ep hx hkj I' g' nk' na') (fun v s'' q => ?_) fun _ _ q => q.elim))
    obtain ⟨⟨t2, rfl⟩, I2, g2, nk2, na2⟩ := q
    try dsimp only
    have u1 := Heap.SameBut.update s''.heap kS (Obj.mapSeq (·.push (.int k t2)))
    obtain ⟨c2, hc2⟩ : ∃ c, (s''.heap.update kS (Obj.mapSeq (·.push (.int k t2)))).get? kS = some (seqObj "list" (kA.push (.int k t2)) c) := ⟨_, get?_update_seq nk2 (·.push (.int k t2))⟩
    refine wpAny_bind (listUpdate_at nk2 rfl ?_ (by omega) (by rw [Array.size_push]; omega))
    refine wpAny_pure ⟨rfl, kA.push (.int k t2), c2, Mk.turn (t := s''.toks) I2 fun b o hb q => (u1.2 b hb).trans q, hG s'' kS g2 (.inr rfl) _ s''.toks fun b o hb q => (u1.2 b hb).trans q, hc2, (u1.2 a hka.symm).trans na2, ?_⟩
    have w1 : kz.take (j + 1) = kz.take j ++ [k] := by rw [List.take_add_one, hkj]; rfl
    have w2 : (kA.push (Value.int k t2)).toList = kA.toList ++ [Value.int k t2] := by simp
    rw [w1, w2]
    exact ksk_snoc hk
  case done =>
    rintro s' ⟨kA, ep, I', g', nk', na', hk⟩
    have w3 : kz.take (0 + vs.length) = kz := List.take_of_length_le (by omega)
    rw [w3] at hk
    try dsimp only
    refine wpAny_bind (listItems_at nk' rfl ?_)
    exact own_end I' Ma Mk nk' na' hka hk hlen h64 h
theorem own_sort {f : Value} {n : Nat} (I : Inv X pins σ H s) (Ma : Mine X pins H a) (ho : s.heap.get? a = some (seqObj "list" vs.toArray n)) (hlen : kz.length = vs.length) (h64 : vs.length < 64)
    (G : Shared → Prop) (hG : ∀ s' b, G s' → (b = a ∨ s.heap.objs.size ≤ b) → ∀ hp t, (∀ c o, c ≠ b → s'.heap.get? c = some o → hp.get? c = some o) → G { s' with heap := hp, toks := t }) (g0 : G s)
    (turn : ∀ (kS : Addr) (e1 : Nat), Mine X pins H kS → ∀ (i : Nat) (v : Value) (k : Int) (s' : Shared) (kA : Array Value) (ep : Nat), vs[i]? = some v → kz[i]? = some k → Inv X pins σ H s' → G s' → s'.heap.get? kS = some (seqObj "list" kA ep) → s'.heap.get? a = some (seqObj "list" #[] e1) →
      wpAny (model X.prog X.w) A (call f [v]) (fun r s'' => (∃ t, r = .int k t) ∧ Inv X pins σ H s'' ∧ G s'' ∧ s''.heap.get? kS = some (seqObj "list" kA ep) ∧ s''.heap.get? a = some (seqObj "list" #[] e1)) (fun _ _ => False) s')
    (h : ∀ s' out c, Inv X pins σ H s' → s'.heap.get? a = some (seqObj "list" out c) → KskOut false kz vs out.toList → P (.done (.ret .none)) s') :
    wpAny (model X.prog X.w) A (ksk_tree a f false) P E s := by
  have big : (64 : Nat) ≤ sizeLine := by decide
  have ha : a < s.heap.objs.size := Heap.lt_size ho
  have u1 := Heap.SameBut.update s.heap a (Obj.mapSeq fun _ => (#[] : Array Value))
  obtain ⟨e1, ho1⟩ : ∃ c, (s.heap.update a (Obj.mapSeq fun _ => (#[] : Array Value))).get? a = some (seqObj "list" #[] c) := ⟨_, get?_update_seq ho fun _ => #[]⟩
  have hsz : ((s.heap.update a (Obj.mapSeq fun _ => (#[] : Array Value))).push (seqObj "tuple" vs.toArray 0)).objs.size = s.heap.objs.size + 1 := by rw [size_push', Heap.size_update]
  have I1 : Inv X pins σ H { s with heap := s.heap.update a (Obj.mapSeq fun _ => (#[] : Array Value)), toks := s.toks } := Ma.turn (t := s.toks) I fun b o hb q => (u1.2 b hb).trans q
  have g1 : G { s with heap := s.heap.update a (Obj.mapSeq fun _ => (#[] : Array Value)), toks := s.toks } := hG s a g0 (.inl rfl) _ s.toks fun b o hb q => (u1.2 b hb).trans q
  have kp : ∀ b o, (s.heap.update a (Obj.mapSeq fun _ => (#[] : Array Value))).get? b = some o → (((s.heap.update a (Obj.mapSeq fun _ => (#[] : Array Value))).push (seqObj "tuple" vs.toArray 0)).push (seqObj "list" #[] 0)).get? b = some o := fun b o q => Heap.get?_push_of_some _ (Heap.get?_push_of_some _ q)
  unfold ksk_tree
  refine wpAny_bind (listItems_at ho rfl ?_)
  refine wpAny_bind (listUpdate_at ho rfl ?_ (by rw [List.size_toArray]; exact Nat.le_of_lt (Nat.lt_of_lt_of_le h64 big)) (Nat.zero_le _))
  refine wpAny_bind (seqEpoch_at ho1 rfl ?_)
  refine wpAny_bind (wpAny_newTuple ?_ (Nat.le_of_lt (Nat.lt_of_lt_of_le h64 big)))
  refine wpAny_bind (wpAny_newList ?_ (Nat.zero_le _))
  refine wpAny_holding ?_
  have hk' : s.heap.objs.size ≤ ((s.heap.update a (Obj.mapSeq fun _ => (#[] : Array Value))).push (seqObj "tuple" vs.toArray 0)).objs.size := by rw [hsz]; omega
  have Mk := mine_new I hk'
  refine own_rest (s := { s with heap := ((s.heap.update a (Obj.mapSeq fun _ => (#[] : Array Value))).push (seqObj "tuple" vs.toArray 0)).push (seqObj "list" #[] 0) }) (kS := ((s.heap.update a (Obj.mapSeq fun _ => (#[] : Array Value))).push (seqObj "tuple" vs.toArray 0)).objs.size)
    (I1.kept (t' := s.toks) kp) Ma Mk (Heap.get?_push_size _ rfl) (kp _ _ ho1) (by rw [hsz]; exact Nat.ne_of_gt (Nat.lt_succ_of_lt ha)) hlen h64 G (fun s' b g hb => hG s' b g (hb.elim .inl fun z => .inr (by rw [z]; exact hk'))) ?_ (turn _ e1 Mk) h
  exact hG _ (s.heap.objs.size) g1 (.inr (Nat.le_refl _)) _ s.toks fun b o _ q => kp b o q
end
end FW
set_option maxRecDepth 100000
set_option maxHeartbeats 2000000
namespace FW
open PySem PySem.Spec PyProof.Rows L2 LamX
theorem ExtN.seq {K : PySem.W.Frag} {H H' : Hp} {a : Addr} {xs : List V} (e : ExtN H H') (h : SqL K H a xs) : SqL K H' a xs := by
  rcases h with (h | ⟨o, h⟩) | h
  · exact .inl (.inl (e _ _ h (fun ps z => by cases z)))
  · exact .inl (.inr ⟨o, e _ _ h (fun ps z => by cases z)⟩)
  · exact .inr h
/-- sorted(e, key=lambda x: ..), the items objects, the keys ints -/
def tSortL (K : PySem.W.Frag) (T : List (Addr × Str)) (te tb : TE) (i : Nat) : TE := fun σ H Q => te σ H fun v H1 => Tabs T H1 ∧ ∃ (l : Addr) (xs : List V) (key : V → Int), v = .ref l ∧ SqL K H1 l xs ∧ xs.length < 64 ∧ (∀ x ∈ xs, ∃ t, x = V.ref t) ∧
  ∀ H2, ExtN H1 H2 → Tabs T H2 → (∀ x ∈ xs, tb (σ.set i (some x)) H2 fun y H3 => y = .int (key x) ∧ H3 = H2) ∧ ∀ (ys : List V) (p : Addr), ys.Perm xs → ys.Pairwise (fun x y => key x ≤ key y) → H2 p = none → Q (.ref p) (upd H2 p (.lst ys))
section
variable {X : Cx} {pins : List (Addr × Obj)} {σ : L2.St} {H : Hp} {s : Shared}
theorem key_zip {its : List Value} {key : V → Int} : ((its.map backV).map key).zip its = its.map fun u => (key (backV u), u) := by
  induction its with
  | nil => rfl
  | cons u its ih =>
    simp only [List.map_cons, List.zip_cons_cons]
    rw [ih]
theorem pe_sortedLam {T : List (Addr × Str)} {c P : Addr} {te tb : TE} {i k : Nat} {x : Str} {p lpos kpos pos : Pos} {e : Expr} {params : Arguments} {body : Expr} {scope : Scope} (hg : Gl X "sorted") (hm : X.mg "sorted" = none) (he : PE X e te) (TB : TabB X.base X.mg c P) (hcode : X.env.code = .ref c)
    (hmT : (P, X.env.qual ++ "<lambda>") ∈ T) (hu : ∀ q ∈ T, q.1 = P → q.2 = X.env.qual ++ "<lambda>") (hr : Room (k + 4) X.A) (L : Lam1 X.env.scope scope x) (hN : X.N.Nodup) (hi : X.N[i]? = some x) (hdef : defaultsOf params X.env = ([], []))
    (hbind : ∀ (q : Str) (cl : List (Str × Addr)) (pm cv ctv v : Value), bindArgs (PySem.W.kla_fn "<lambda>" q params body scope cl pm cv ctv) ⟨[v], []⟩ = pure [(x, v)])
    (hbody : ∀ (A : Around) (outer : List Env) (s : Shared) (H : Hp) (f c' : Addr), Room k (A.deeper (lamEnv X scope s.heap.objs.size f c')) → PE (lamCx X A outer s H E0 scope f c') body tb)
    (hs : starEach [e] X.env = (false, eval e X.env) :: starEach [] X.env := by rfl) :
    PE X (.Call (.Name "sorted" p) [e] [⟨some "key", .Lambda params body scope lpos, kpos⟩] pos) (tSortL X.K T te tb i) := by
  refine ⟨fun pins s σ H Q I h => ?_⟩
  have big : (64 : Nat) ≤ sizeLine := by decide
  have hv : bootBuiltins (Str.ofString "sorted") = some (.builtin "sorted") := by decide +kernel
  refine wpAny_Call_Name_kw (ld_blt I hg hm hv ?_ (by decide) (by decide))
  refine PyProof.Rows.callWith_kw (thn ((pa_cons he pa_nil hs).run pos pins s σ H (fun vs H1 => match vs with
    | [v] => Tabs T H1 ∧ ∃ (l : Addr) (xs : List V) (key : V → Int), v = .ref l ∧ SqL X.K H1 l xs ∧ xs.length < 64 ∧ (∀ x ∈ xs, ∃ t, x = V.ref t) ∧
      ∀ H2, ExtN H1 H2 → Tabs T H2 → (∀ x ∈ xs, tb (σ.set i (some x)) H2 fun y H3 => y = .int (key x) ∧ H3 = H2) ∧ ∀ (ys : List V) (p : Addr), ys.Perm xs → ys.Pairwise (fun x y => key x ≤ key y) → H2 p = none → Q (.ref p) (upd H2 p (.lst ys))
    | _ => False) I h) fun us s1 ⟨vs, H1, I1, r1, q1⟩ => ?_) (by rw [hs]; rfl) (by rw [hs]; rfl) (by rfl) (by rfl)
  match vs, r1, q1 with
  | [v], r1, ⟨hT, l, xs, key, ev, hS, h64, href, q⟩ =>
  subst ev
  obtain rfl := Vals.ref1 r1
  show wpAny _ _ (evalAll [do let v ← eval (.Lambda params body scope lpos) X.env; standAt pos; pure v]) _ _ s1
  refine wpAny_evalAll_cons (wpAny_bind (lam_make2 I1 TB hcode hmT hu hT hdef (fun y hy z => L.cells I1.ok hy z) fun f c' pm ctv H2 s2 I2 eN T2 hf hfn hfr hco => wpAny_bind (wpAny_standAt (wpAny_pure (wpAny_evalAll_nil ?_)))))
  obtain ⟨qb, qe⟩ := q H2 eN T2
  obtain ⟨its, rv, hl, hz⟩ := I2.list (ExtN.seq eN hS)
  obtain ⟨ex, eref⟩ := refs_back rv href
  have hlen : its.length = xs.length := rv.length.symm
  have hlen64 : its.length < 64 := by omega
  show wpAny (model X.prog X.w) X.A (call (.builtin "sorted") [.ref l] [(Str.ofString "key", .ref f)]) _ _ s2
  refine call_function_entry_kw kind_sorted plain_sorted entry_sorted (ksk_s1 _ _) ?_
  unfold Builtin.«sorted»
  refine wpAny_bind (m := checkCount "sorted" 1 1 _) (wpAny_pure ?_)
  refine wpAny_bind (collect_list hl.isList ?_ (Nat.le_of_lt (Nat.lt_of_lt_of_le hlen64 big)))
  refine wpAny_bind (wpAny_newList ?_ (Nat.le_of_lt (Nat.lt_of_lt_of_le hlen64 big)))
  have hsz : ((s2.heap.push (seqObj "list" #[] 0)).update s2.heap.objs.size (Obj.mapSeq (· ++ its.toArray))).objs.size = s2.heap.objs.size + 1 := by
    rw [Heap.size_update, size_push']
  have hoL : (((s2.heap.push (seqObj "list" #[] 0)).update s2.heap.objs.size (Obj.mapSeq (· ++ its.toArray))).push (seqObj "list" its.toArray 0)).get? (s2.heap.objs.size + 1) = some (seqObj "list" its.toArray 0) := by
    rw [← hsz]
    exact Heap.get?_push_size _ rfl
  have keep : ∀ b o, s2.heap.get? b = some o → (((s2.heap.push (seqObj "list" #[] 0)).update s2.heap.objs.size (Obj.mapSeq (· ++ its.toArray))).push (seqObj "list" its.toArray 0)).get? b = some o := fun b o z => by
    refine Heap.get?_push_of_some _ ?_
    rw [Heap.get?_update_ne _ _ _ _ (Nat.ne_of_lt (Heap.lt_size z))]
    exact Heap.get?_push_of_some _ z
  show wpAny _ _ _ _ _ { s2 with heap := ((s2.heap.push (seqObj "list" #[] 0)).update s2.heap.objs.size (Obj.mapSeq (· ++ its.toArray))).push (seqObj "list" its.toArray 0) }
  rw [hsz]
  refine wpAny_bind (wpAny_holding (wpAny_call_entry_kw slot_list_sort ⟨_, hoL, rfl⟩ entry_list_sort ?body (ksk_l1 _ _)))
  case body =>
    show wpAny (model X.prog X.w) X.A.in1.in1 (Builtin.«list.sort» ⟨[.ref (s2.heap.objs.size + 1)], [(Str.ofString "key", .ref f)]⟩) _ _ _
    rw [ksk_t1]
    have Ma := mine_new I2 (Nat.le_succ s2.heap.objs.size)
    have flt : f < s2.heap.objs.size := Heap.lt_size hf
    have fst : f ∉ X.fs := fun z => by
      rcases I2.ok.stk with e | ⟨e, _⟩
      · exact hfr (by rw [e]; exact z)
      · refine hfr ?_
        rw [e]
        unfold frs
        unfold Cx.fs frs at z
        rw [List.filterMap_cons]
        split
        · exact z
        · exact List.mem_cons_of_mem _ z
    refine own_sort (X := X) (pins := pins) (σ := σ) (H := H2) (kz := xs.map key) (s := { s2 with heap := ((s2.heap.push (seqObj "list" #[] 0)).update s2.heap.objs.size (Obj.mapSeq (· ++ its.toArray))).push (seqObj "list" its.toArray 0) })
      (I2.kept (t' := s2.toks) keep) Ma hoL (by rw [List.length_map, hlen]) hlen64 (fun s' => s'.heap.get? f = some (PySem.W.kla_obj "<lambda>" (X.env.qual ++ "<lambda>") params body scope (cloFrom X.env.cells scope.names []) pm c' ctv))
      (fun s' b g hb hp t hk => hk f _ (fun z => ?_) g) (keep _ _ hf) ?turn ?done
    · rcases hb with e | e
      · rw [← z] at e
        rw [e] at flt
        exact Nat.lt_irrefl _ (Nat.lt_of_lt_of_le flt (Nat.le_succ _))
      · rw [← z] at e
        refine Nat.lt_irrefl _ (Nat.lt_of_lt_of_le flt (Nat.le_trans ?_ e))
        show s2.heap.objs.size ≤ (((s2.heap.push (seqObj "list" #[] 0)).update s2.heap.objs.size (Obj.mapSeq (· ++ its.toArray))).push (seqObj "list" its.toArray 0)).objs.size
        rw [size_push', hsz]
        exact Nat.le_trans (Nat.le_succ _) (Nat.le_succ _)
    case turn =>
      intro kS e1 Mk j v kk s' kA ep hv hk I' g' nk na
      have I'' : Inv X (pins ++ [(kS, seqObj "list" kA ep), (s2.heap.objs.size + 1, seqObj "list" #[] e1), (f, PySem.W.kla_obj "<lambda>" (X.env.qual ++ "<lambda>") params body scope (cloFrom X.env.cells scope.names []) pm c' ctv)]) σ H2 s' := by
        refine I'.pins_of fun q hq => ?_
        rcases List.mem_append.mp hq with hq | hq
        · exact I'.pin q (List.mem_append_right _ hq)
        · rcases List.mem_cons.mp hq with rfl | hq
          · exact Mk.pinned nk (list_ncell _ _)
          · rcases List.mem_cons.mp hq with rfl | hq
            · exact Ma.pinned na (list_ncell _ _)
            · obtain rfl := List.mem_singleton.mp hq
              refine ⟨g', hfn, fun z => ?_, fst, fun v z => by cases z⟩
              obtain ⟨m, ⟨o, es, eq, ho, hd, _⟩, _⟩ := I'.loc
              have z' : f = X.env.locals := z
              rw [← z', g'] at ho
              cases ho
              cases hd
      obtain ⟨y, hy, rfl⟩ : ∃ y, xs[j]? = some y ∧ key y = kk := by
        rw [List.getElem?_map] at hk
        cases e : xs[j]? with
        | none => rw [e] at hk; cases hk
        | some y => rw [e] at hk; exact ⟨y, rfl, Option.some.inj hk⟩
      obtain ⟨u, hu', ru⟩ := Vals.get rv hy
      rw [hv] at hu'
      cases hu'
      have rr : Room (k + 1) X.A.in1.in1 := (hr.mono (j := k + 3) (by omega)).in1.in1
      refine wpAny_mono (lam_call (E' := fun _ _ => False) (Q := fun y' H3 => y' = .int (key y) ∧ H3 = H2) I'' L hN hi I''.env0.in1.in1 g' hco (fun v => hbind _ _ _ _ _ v) rr (fun A outer s H hr' => hbody A outer s H f c' hr') ru (qb y (List.mem_of_getElem? hy))) ?_ fun _ _ z => z
      intro w' s'' hq
      obtain ⟨v', H3, os, bare, un, hok, rw', rfl, rfl⟩ := hq
      have J := I''.call' os un hok bare (fun b z => absurd z (by simp))
      refine ⟨rw', J.pins_of fun q hq => J.pin q (List.mem_append_right _ (List.mem_append_left _ hq)), ?_, ?_, ?_⟩
      · exact (J.pin (f, _) (by simp)).1
      · exact (J.pin (kS, _) (by simp)).1
      · exact (J.pin (s2.heap.objs.size + 1, _) (by simp)).1
    case done =>
      intro s' out cc I' ho ko
      obtain ⟨ps, pp, po, psd⟩ := ko
      rw [ex, key_zip] at pp
      have hk : ∀ z ∈ ps, z.1 = key (backV z.2) ∧ z.2 ∈ its := fun z hz => by
        obtain ⟨u, hu, rfl⟩ := List.mem_map.mp (pp.mem_iff.mp hz)
        exact ⟨rfl, hu⟩
      have hperm : (out.toList.map backV).Perm xs := by
        rw [po, ex]
        have := (pp.map Prod.snd).map backV
        rw [List.map_map (f := fun u => (key (backV u), u))] at this
        simpa [Function.comp_def] using this
      have hrefs : ∀ u ∈ out.toList, ∃ t, u = Value.ref t := fun u hu => by
        rw [po] at hu
        obtain ⟨z, hz, rfl⟩ := List.mem_map.mp hu
        exact eref _ (hk z hz).2
      refine ⟨_, rfl, ?_⟩
      refine wpAny_pure ⟨_, rfl, .ref (s2.heap.objs.size + 1), upd H2 (s2.heap.objs.size + 1) (.lst (out.toList.map backV)), Ma.track I' ?_, rfl, qe _ _ hperm ?_ Ma.no⟩
      · refine ⟨?_, out.toList, cc, vals_back hrefs, by rw [Array.toArray_toList]; exact ho⟩
        rw [hperm.length_eq]
        exact Nat.le_of_lt (Nat.lt_of_lt_of_le h64 big)
      · rw [po, List.map_map, List.pairwise_map]
        refine psd.imp_of_mem fun {a b} ha hb z => ?_
        have z' : a.1 ≤ b.1 := by simpa using z
        rw [(hk a ha).1, (hk b hb).1] at z'
        exact z'
end
end FW
set_option maxRecDepth 100000
set_option maxHeartbeats 2000000
/-! list(reversed(xs)); any of ints; sorted of lists of ints. -/
namespace FW
open PySem PySem.Spec PyProof.Rows L2 Fm
section
variable {prog : Program} {w : World} {A : Around} {E : Value → Shared → Prop} {s : Shared} {R : Result → Shared → Prop}
theorem ext_rev {S it l : Addr} {items : Array Value} {res : Value} {c₀ : Nat} (hh : A.in1.handled = none) (hit : s.heap.IsRevIter it l ((items.size : Int) - 1)) (hl : s.heap.IsList l items) (hne : l ≠ it) (hSi : S ≠ it) (hSl : S ≠ l) (hS : s.heap.get? S = some { cls := .type "list", data := .seq #[] c₀ }) (hn : items.size ≤ sizeLine)
    (hR : ∀ s' acc' c', (∀ b o, b ≠ it → b ≠ S → s.heap.get? b = some o → s'.heap.get? b = some o) → s' = { s with heap := s'.heap, toks := s'.toks } → s'.heap.get? S = some { cls := .type "list", dict := none, data := .seq acc' c', slots := #[] } → ItemsOf (fun i v => items[items.size - 1 - i]? = some v) acc' items.size → R (.ok (.ret res)) s') :
    wpAny (model prog w) A.in1 (Builtin.List.listExtendWith (.ref S) (.ref it) res)
      (fun fin s' => match fin with | .done f => R (.ok f) s' | .again c' => c'.quiet = true ∧ codeAny (model prog w) A c' R s') (fun e s' => R (.error e) s') s := by
  have W := (Walks.listRev (prog := prog) (w := w) (A := A.in1) hh it l hne items).toS
  have hSf : S ∉ [it, l] := by
    simp only [List.mem_cons, List.not_mem_nil, or_false, not_or]
    exact ⟨hSi, hSl⟩
  have hT : s.TypeIs (.ref it) "list_reverseiterator" := hit.typeIs
  have h1 : Builtin.List.listSameRef (.ref S) (.ref it) = false := by simp [Builtin.List.listSameRef, hSi]
  unfold Builtin.List.listExtendWith
  refine wpAny_bind (wpAny_typeOf hT ?_)
  rw [if_neg (by rw [h1]; decide)]
  refine wpAny_bind (wpAny_pyIter_revIter hit (wpAny_bind (wpAny_holding ?_)))
  unfold Builtin.List.listLengthHint
  refine wpAny_bind (wpAny_specialOf hT RT.nolen_lri ?_)
  show wpAny _ A.in1 (specialOf (Value.ref it) (Str.ofString "__length_hint__") >>= _) _ _ _
  refine wpAny_bind (wpAny_specialOf hT RT.hint_lri ?_)
  generalize hid : ("list_reverseiterator.__length_hint__" : String) = nm
  wp_delta
  rw [show splitId nm = some ("list_reverseiterator", "__length_hint__") from by subst hid; decide +kernel]
  subst hid
  refine wpAny_bind (wpAny_isInstance (b := true) hT (by rw [isSubtype_type]; kernel_rfl) (wpAny_pure ?_))
  rw [if_neg (by decide)]
  have e0 : ((items.size : Nat) : Int) - 1 - ((0 : Nat) : Int) = (items.size : Int) - 1 := by omega
  refine wpAny_pure ⟨plainId_quiet F.plain_extend_loop _, codeAny_extend_loopS W hn _ hSf _ items.size 0 _ _ _ rfl (Nat.zero_le _) ⟨Nat.zero_le _, by rw [e0]; exact hit, hl⟩ hS (ItemsOf.nil _) fun s' acc' c' hm hS' hacc => ?_⟩
  refine hR s' acc' c' (fun b o hb hbS e => hm.heap b o (fun hmem => ?_) e) (Moved.eq_with hm) hS' hacc
  rcases List.mem_cons.mp hmem with e' | hmem
  · exact hbS e'
  · exact hb (List.mem_singleton.mp hmem)
theorem call_list_rev {it l : Addr} {items : Array Value} {Q : Value → Shared → Prop} (hh : A.handled = none) (hit : s.heap.IsRevIter it l ((items.size : Int) - 1)) (hl : s.heap.IsList l items) (hne : l ≠ it) (hn : items.size ≤ sizeLine)
    (hQ : ∀ (h' : Heap) (tk : Nat) (acc : Array Value) (c : Nat), (∀ b o, b ≠ it → s.heap.get? b = some o → h'.get? b = some o) → h'.get? s.heap.objs.size = some { cls := .type "list", dict := none, data := .seq acc c, slots := #[] } →
      ItemsOf (fun i v => items[items.size - 1 - i]? = some v) acc items.size → Q (.ref s.heap.objs.size) { s with heap := h', toks := tk }) :
    wpAny (model prog w) A (call (.type "list") [.ref it]) Q E s := by
  refine callType_codes (Q₁ := fun obj s₁ => obj = .ref s.heap.objs.size ∧ s₁ = { s with heap := s.heap.push { cls := .type "list", data := .seq #[] } }) F.called_list (F.typeCall_list_1 _) F.entry_list_init (code_list_new _ ⟨rfl, rfl⟩) fun obj s₁ h₁ => ?_
  obtain ⟨rfl, rfl⟩ := h₁
  obtain ⟨oi, hoi, _⟩ := id hit
  obtain ⟨ol, hol, _⟩ := id hl
  have hSi : s.heap.objs.size ≠ it := Nat.ne_of_gt (Heap.lt_size hoi)
  have hSl : s.heap.objs.size ≠ l := Nat.ne_of_gt (Heap.lt_size hol)
  have hS : (s.heap.push { cls := .type "list", data := .seq #[] }).get? s.heap.objs.size = some { cls := .type "list", data := .seq #[] } := Heap.get?_push_size _ rfl
  refine ⟨⟨_, hS, rfl⟩, F.args_list_init_2 _ _, ?_⟩
  show wpAny _ A.in1.in1 (do let old ← Builtin.List.listItems (.ref s.heap.objs.size); Builtin.List.listUpdate (.ref s.heap.objs.size) (fun _ => #[]); letGo old.toList.reverse; Builtin.List.listExtendWith (.ref s.heap.objs.size) (.ref it) .none) _ _ _
  refine wpAny_bind (listItems_at hS rfl ?_)
  refine wpAny_bind (listUpdate_at hS rfl ?_ (Nat.zero_le _) (Nat.zero_le _))
  refine wpAny_bind (wpAny_letGo ?_)
  have hS2 := Heap.get?_update_self (Obj.mapSeq (fun _ => (#[] : Array Value))) hS rfl
  have oth : ∀ b o, s.heap.get? b = some o → ((s.heap.push { cls := .type "list", data := .seq #[] }).update s.heap.objs.size (Obj.mapSeq (fun _ => (#[] : Array Value)))).get? b = some o := fun b o e => by
    rw [Heap.get?_update_ne _ _ _ _ (Nat.ne_of_lt (Heap.lt_size e))]
    exact Heap.get?_push_of_some _ e
  refine ext_rev (A := A.in1) (s := { s with heap := (s.heap.push { cls := .type "list", data := .seq #[] }).update s.heap.objs.size (Obj.mapSeq (fun _ => (#[] : Array Value))) }) hh (hit.at fun o e => oth _ _ e) (hl.at fun o e => oth _ _ e) hne hSi hSl hS2 hn fun s' acc' c' hk he hS' hacc => ?_
  refine ⟨rfl, ?_⟩
  rw [he]
  exact hQ s'.heap s'.toks acc' c' (fun b o hb e => hk b o hb (Nat.ne_of_lt (Heap.lt_size e)) (oth b o e)) hS' hacc
end
section
variable {X : Cx}
/-- list(reversed(x)), x a list: a new list -/
def tLstRev (K : PySem.W.Frag) (te : TE) : TE := fun σ H Q => te σ H fun v H1 => ∃ (a : Addr) (xs : List V), v = .ref a ∧ SqL K H1 a xs ∧ ∀ q, H1 q = none → Q (.ref q) (upd H1 q (.lst xs.reverse))
theorem pe_lstRev {e : Expr} {te : TE} {p p2 pos pos2 : Pos} (hc : X.calm = true) (hg : Gl X "list") (hm : X.mg "list" = none) (hg2 : Gl X "reversed") (hm2 : X.mg "reversed" = none) (he : PE X e te)
    (hs : starEach [e] X.env = (false, eval e X.env) :: starEach [] X.env := by rfl)
    (hs2 : starEach [.Call (.Name "reversed" p2) [e] [] pos2] X.env = (false, eval (.Call (.Name "reversed" p2) [e] [] pos2) X.env) :: starEach [] X.env := by rfl) :
    PE X (.Call (.Name "list" p) [.Call (.Name "reversed" p2) [e] [] pos2] [] pos) (tLstRev X.K te) := by
  refine ⟨fun pins s σ H Q I h => ?_⟩
  have hv : bootBuiltins (Str.ofString "list") = some (.type "list") := by decide +kernel
  refine Call_ (ld_blt I hg hm hv (PyProof.Rows.callWith_type1 (args_cons (Call_ (ld_blt I hg2 hm2 PyProof.Rows.boot_reversed (PyProof.Rows.callWith_type1 (args_cons (thn (he.run pins s σ H _ I h) fun u s1 ⟨v, H1, I1, r1, q1⟩ => args_nil ?_) hs) hs rfl))) hs2) hs2 rfl))
  obtain ⟨a, xs, ev, hq, q⟩ := q1
  subst ev
  obtain rfl : u = Value.ref a := r1
  obtain ⟨its, rv, p', hz⟩ := I1.list hq
  refine call_reversed_list p'.isList (args_nil ?_)
  have I2 : Inv X pins σ H1 { s1 with heap := s1.heap.push (revObj a ((its.toArray.size : Int) - 1)) } := I1.kept (t' := s1.toks) fun b o e => Heap.get?_push_of_some _ e
  obtain ⟨f0, f1, f2, f3, f4, f5⟩ := I1.fpOk (H' := H1) (b := s1.heap.objs.size) (Nat.le_refl _) (I1.hok.fresh (Nat.le_refl _))
  have hl := p'.isList
  obtain ⟨ol, hol, _⟩ := id hl
  have hne : a ≠ s1.heap.objs.size := Nat.ne_of_lt (Heap.lt_size hol)
  have hn : its.toArray.size ≤ sizeLine := by rw [List.size_toArray, ← rv.length]; exact hz
  refine call_list_rev (s := { s1 with heap := s1.heap.push (revObj a ((its.toArray.size : Int) - 1)) }) (I1.ok.hd hc) ⟨_, Heap.get?_push_size _ rfl, rfl, rfl⟩ (hl.push _) hne hn fun h' tk acc c hk hL hi => ?_
  have I3 : Inv X pins σ H1 { s1 with heap := h', toks := tk } := I2.turned (t' := tk) (fun b o hb e => hk b o hb e) f0 f1 f3 f4 f5
  have hsz : (s1.heap.push (revObj a ((its.toArray.size : Int) - 1))).objs.size = s1.heap.objs.size + 1 := Heap.size_push _ _
  have up : s1.heap.objs.size ≤ (s1.heap.push (revObj a ((its.toArray.size : Int) - 1))).objs.size := by rw [hsz]; exact Nat.le_succ _
  have nD : H1 (s1.heap.push (revObj a ((its.toArray.size : Int) - 1))).objs.size = none := I1.hok.fresh up
  refine ⟨.ref _, upd H1 (s1.heap.push (revObj a ((its.toArray.size : Int) - 1))).objs.size (.lst xs.reverse), ?_, rfl, q _ nD⟩
  have keepAll : ∀ b o, b ≠ s1.heap.objs.size → s1.heap.get? b = some o → h'.get? b = some o := fun b o hb e => hk b o hb (Heap.get?_push_of_some _ e)
  have J : Inv X pins σ (upd H1 (s1.heap.push (revObj a ((its.toArray.size : Int) - 1))).objs.size (.lst xs.reverse)) { s1 with heap := h', toks := tk } :=
    I1.laid (t' := tk) (fun b o e => keepAll b o (Nat.ne_of_lt (Heap.lt_size e)) e) up ⟨by rw [List.length_reverse]; exact hz, acc.toList, c, RT.vals_rev rv hi, by rw [Array.toArray_toList]; exact hL⟩
  exact J
/-! ### any of ints -/
theorem truth_ints {prog : Program} {w : World} {A : Around} {ns : List Int} {its : List Value} (e : IntsAre its ns) : TruthOf prog w A (fun i v => its.toArray[i]? = some v) (fun i => ns.getD i 0 != 0) := fun i v s Q E hv hq => by
  have hv' : its[i]? = some v := by simpa using hv
  have hi : i < ns.length := by
    have h1 := (List.getElem?_eq_some_iff.mp hv').1
    rw [e.length] at h1
    exact h1
  obtain ⟨t, ht⟩ := e.get i ns[i] (List.getElem?_eq_getElem hi)
  rw [ht] at hv'
  cases hv'
  have hg : ns.getD i 0 = ns[i] := by rw [List.getD_eq_getElem?_getD, List.getElem?_eq_getElem hi]; rfl
  have hq' : Q (ns.getD i 0 != 0) s := hq
  rw [hg] at hq'
  exact PyProof.Rows.truthy_int hq'
theorem any_ints : ∀ ns : List Int, (List.range ns.length).any (fun i => ns.getD i 0 != 0) = ns.any (· != 0)
  | [] => rfl
  | b :: bs => by
    rw [List.length_cons, List.range_succ_eq_map, List.any_cons, List.any_map, List.any_cons, ← any_ints bs]
    rfl
def rAnyI (K : PySem.W.Frag) : List V → Hp → VK → Prop := fun vs H Q => ∃ (a : Addr) (ns : List Int), vs = [V.ref a] ∧ SqL K H a (ns.map V.int) ∧ Q (.bl (ns.any (· != 0))) H
theorem cr_anyI (hc : X.calm = true) : CallR X (.builtin "any") (rAnyI X.K) := by
  intro pins s σ H vs us Q I r h
  obtain ⟨a, ns, rfl, hs, q⟩ := h
  obtain ⟨its, rv, hl, _⟩ := I.list hs
  rw [Vals.ref1 r]
  have hb := rv.ints
  refine call_any_walk (iter_any hl.isList fun s₂ e2 st hne => ?_)
  subst e2
  refine ⟨_, _, _, _, _, _, _, rfl, Walks.list (A := X.A.in1) (I.ok.hd hc) _ a hne its.toArray, st, truth_ints hb, fun h' tk hk => ?_⟩
  refine ⟨.bl _, H, I.kept fun b o eo => hk b o (fun hmem => ?_) (Heap.get?_push_of_some _ eo), ?_, q⟩
  · rcases List.mem_cons.mp hmem with e1 | hmem
    · rw [e1] at eo
      exact Nat.lt_irrefl _ (Heap.lt_size eo)
    · cases hmem
  · have e3 : its.toArray.size = ns.length := by rw [List.size_toArray, hb.length]
    rw [e3, any_ints]
    rfl
end
end FW
set_option maxRecDepth 100000
set_option maxHeartbeats 2000000
namespace FW
open PySem PySem.Spec PyProof.Rows L2 Fm
variable {n : Nat}
/-- vectors at the addresses ps -/
def VecsAt (H : Hp) (ps : List Addr) (vs : List (Vec n)) : Prop := ps.length = vs.length ∧ ∀ (i : Nat) (p : Addr) (v : Vec n), ps[i]? = some p → vs[i]? = some v → VecAt H p v
/-- a list of vectors -/
def LAt (H : Hp) (l : Addr) (vs : List (Vec n)) : Prop := ∃ ps : List Addr, H l = some (.lst (ps.map V.ref)) ∧ VecsAt H ps vs
theorem VecsAt.at {H : Hp} {ps : List Addr} {vs : List (Vec n)} (h : VecsAt H ps vs) {i : Nat} {v : Vec n} (e : vs[i]? = some v) : ∃ p, ps[i]? = some p ∧ VecAt H p v := by
  have hi := (List.getElem?_eq_some_iff.mp e).1
  have hp : i < ps.length := by rw [h.1]; exact hi
  exact ⟨ps[i], List.getElem?_eq_getElem hp, h.2 i _ v (List.getElem?_eq_getElem hp) e⟩
theorem VecsAt.of {H : Hp} {ps : List Addr} {vs : List (Vec n)} (h : VecsAt H ps vs) {i : Nat} {p : Addr} (e : ps[i]? = some p) : ∃ v, vs[i]? = some v ∧ VecAt H p v := by
  have hi := (List.getElem?_eq_some_iff.mp e).1
  have hv : i < vs.length := by rw [← h.1]; exact hi
  exact ⟨vs[i], List.getElem?_eq_getElem hv, h.2 i p _ e (List.getElem?_eq_getElem hv)⟩
theorem VecsAt.mono {H H' : Hp} {ps : List Addr} {vs : List (Vec n)} (h : VecsAt H ps vs) (k : ∀ p ∈ ps, ∀ v : Vec n, VecAt H p v → VecAt H' p v) : VecsAt H' ps vs :=
  ⟨h.1, fun i p v e1 e2 => k p (List.mem_of_getElem? e1) v (h.2 i p v e1 e2)⟩
theorem VecsAt.same {H H' : Hp} {ps : List Addr} {vs : List (Vec n)} (h : VecsAt H ps vs) (s : Same H H') : VecsAt H' ps vs := h.mono fun _ _ _ q => q.same s
theorem LAt.same {H H' : Hp} {l : Addr} {vs : List (Vec n)} (h : LAt H l vs) (s : Same H H') : LAt H' l vs := let ⟨ps, a, b⟩ := h; ⟨ps, s _ _ a, b.same s⟩
theorem VecsAt.nil {H : Hp} : VecsAt H [] ([] : List (Vec n)) := ⟨rfl, fun i p v e => by simp at e⟩
theorem VecsAt.append {H : Hp} {ps qs : List Addr} {us vs : List (Vec n)} (a : VecsAt H ps us) (b : VecsAt H qs vs) : VecsAt H (ps ++ qs) (us ++ vs) := by
  refine ⟨by rw [List.length_append, List.length_append, a.1, b.1], fun i p v e1 e2 => ?_⟩
  by_cases hi : i < ps.length
  · rw [List.getElem?_append_left hi] at e1
    rw [List.getElem?_append_left (by rw [← a.1]; exact hi)] at e2
    exact a.2 i p v e1 e2
  · rw [List.getElem?_append_right (by omega)] at e1
    rw [List.getElem?_append_right (by rw [← a.1]; omega), ← a.1] at e2
    exact b.2 _ p v e1 e2
theorem VecsAt.one {H : Hp} {p : Addr} {v : Vec n} (h : VecAt H p v) : VecsAt H [p] [v] := ⟨rfl, fun i q u e1 e2 => by
  cases i with
  | zero =>
    simp at e1 e2
    subst e1 e2
    exact h
  | succ i => simp at e1⟩
theorem VecsAt.take {H : Hp} {ps : List Addr} {vs : List (Vec n)} (h : VecsAt H ps vs) (k : Nat) : VecsAt H (ps.take k) (vs.take k) := by
  refine ⟨by rw [List.length_take, List.length_take, h.1], fun i p v e1 e2 => ?_⟩
  rw [List.getElem?_take] at e1 e2
  by_cases hi : i < k
  · rw [if_pos hi] at e1 e2; exact h.2 i p v e1 e2
  · rw [if_neg hi] at e1; cases e1
theorem VecsAt.drop {H : Hp} {ps : List Addr} {vs : List (Vec n)} (h : VecsAt H ps vs) (k : Nat) : VecsAt H (ps.drop k) (vs.drop k) := by
  refine ⟨by rw [List.length_drop, List.length_drop, h.1], fun i p v e1 e2 => ?_⟩
  rw [List.getElem?_drop] at e1 e2
  exact h.2 _ p v e1 e2
theorem VecsAt.tail {H : Hp} {p : Addr} {v : Vec n} {ps : List Addr} {vs : List (Vec n)} (h : VecsAt H (p :: ps) (v :: vs)) : VecAt H p v ∧ VecsAt H ps vs :=
  ⟨h.2 0 p v rfl rfl, Nat.succ.inj h.1, fun i q u e1 e2 => h.2 (i + 1) q u e1 e2⟩
/-- a made list of vectors -/
theorem vecs_of {H : Hp} {ys : List V} {vs : List (Vec n)} (hl : ys.length = vs.length) (hr : ∀ (i : Nat) (y : V), ys[i]? = some y → ∃ (p : Addr) (v : Vec n), y = V.ref p ∧ vs[i]? = some v ∧ VecAt H p v) : ∃ ps : List Addr, ys = ps.map V.ref ∧ VecsAt H ps vs := by
  have back : ∀ y ∈ ys, ∃ p, y = V.ref p := fun y hy => by
    obtain ⟨i, hi⟩ := List.getElem?_of_mem hy
    obtain ⟨p, v, e, _⟩ := hr i y hi
    exact ⟨p, e⟩
  have e : ys = (ys.map fun y => match y with | .ref p => p | _ => 0).map V.ref := by
    rw [List.map_map]
    conv => lhs; rw [← List.map_id ys]
    refine List.map_congr_left fun y hy => ?_
    obtain ⟨p, rfl⟩ := back y hy
    rfl
  refine ⟨_, e, by rw [List.length_map]; exact hl, fun i p v e1 e2 => ?_⟩
  rw [List.getElem?_map] at e1
  cases q : ys[i]? with
  | none => rw [q] at e1; cases e1
  | some y =>
    obtain ⟨p', v', rfl, e3, e4⟩ := hr i y q
    rw [q] at e1
    have : p' = p := Option.some.inj e1
    rw [← this]
    rw [e2] at e3
    cases e3
    exact e4
theorem refs_at {ps : List Addr} {i : Nat} {x : V} (h : (ps.map V.ref)[i]? = some x) : ∃ p, ps[i]? = some p ∧ x = .ref p := by
  rw [List.getElem?_map] at h
  cases e : ps[i]? with
  | none => rw [e] at h; cases h
  | some p => rw [e] at h; exact ⟨p, rfl, (Option.some.inj h).symm⟩

/-! ### as data -/
def vecD (v : Vec n) : PyData := .list ((List.ofFn v).map .int)
theorem dpInts {K : PySem.W.Frag} {H : Hp} : ∀ ns : List Int, DpAll K H (ns.map V.int) (ns.map .int)
  | [] => .nil
  | n :: ns => .cons (.int n) (dpInts ns)
theorem VecAt.dp {K : PySem.W.Frag} {H : Hp} {a : Addr} {v : Vec n} (h : VecAt H a v) : Dp K H (.ref a) (vecD v) := .lst (SqL.of h) (dpInts _)
theorem VecsAt.dp {K : PySem.W.Frag} {H : Hp} : ∀ {ps : List Addr} {vs : List (Vec n)}, VecsAt H ps vs → DpAll K H (ps.map V.ref) (vs.map vecD)
  | [], [], _ => .nil
  | [], _ :: _, h => by have := h.1; simp at this
  | _ :: _, [], h => by have := h.1; simp at this
  | p :: ps, v :: vs, h => .cons h.tail.1.dp h.tail.2.dp
theorem LAt.dp {K : PySem.W.Frag} {H : Hp} {l : Addr} {vs : List (Vec n)} (h : LAt H l vs) : Dp K H (.ref l) (.list (vs.map vecD)) := let ⟨ps, a, b⟩ := h; .lst (SqL.of a) b.dp
theorem ints_lay : ∀ ns : List Int, PyData.canLayAll0 (ns.map .int) = true
  | [] => by simp [PyData.canLayAll0]
  | n :: ns => by simp [PyData.canLayAll0, PyData.canLay0, ints_lay ns]
theorem ints_depth : ∀ ns : List Int, PyData.depthAll (ns.map .int) = 0
  | [] => by simp [PyData.depthAll]
  | n :: ns => by simp [PyData.depthAll, PyData.depth, ints_depth ns]
theorem vecD_lay (v : Vec n) : (vecD v).canLay0 = true := by simp only [vecD, PyData.canLay0]; exact ints_lay _
theorem vecD_depth (v : Vec n) : (vecD v).depth = 1 := by simp only [vecD, PyData.depth, ints_depth]
theorem vecDs_lay : ∀ vs : List (Vec n), PyData.canLayAll0 (vs.map vecD) = true
  | [] => by simp [PyData.canLayAll0]
  | v :: vs => by simp [PyData.canLayAll0, vecD_lay v, vecDs_lay vs]
theorem vecDs_depth : ∀ vs : List (Vec n), PyData.depthAll (vs.map vecD) ≤ 1
  | [] => by simp [PyData.depthAll]
  | v :: vs => by
    have h1 := vecDs_depth vs
    have h2 := vecD_depth v
    simp only [List.map_cons, PyData.depthAll]
    omega
theorem shaped_of {d : PyData} (h1 : d.canLay0 = true) (h2 : d.depth ≤ 64) : SeqAt.shaped d = true := by
  show (d.canLay0 && decide (d.depth ≤ 64)) = true
  rw [h1, decide_eq_true h2]
  rfl
theorem vecD_shaped (v : Vec n) : SeqAt.shaped (vecD v) = true := shaped_of (vecD_lay v) (by rw [vecD_depth]; omega)
theorem vecDs_shaped (vs : List (Vec n)) : SeqAt.shaped (.list (vs.map vecD)) = true := shaped_of (by simp only [PyData.canLay0]; exact vecDs_lay vs) (by
  have := vecDs_depth vs
  simp only [PyData.depth]
  omega)
theorem pairD_shaped (us vs : List (Vec n)) : SeqAt.shaped (.tuple [.list (us.map vecD), .list (vs.map vecD)]) = true := shaped_of (by simp [PyData.canLay0, PyData.canLayAll0, vecDs_lay]) (by
  have := vecDs_depth us
  have := vecDs_depth vs
  simp only [PyData.depth, PyData.depthAll]
  omega)
theorem ints_eqv : ∀ l m : List Int, PyData.eqvAll (l.map .int) (m.map .int) = decide (l = m)
  | [], [] => by simp [PyData.eqvAll]
  | [], _ :: _ => by simp [PyData.eqvAll]
  | _ :: _, [] => by simp [PyData.eqvAll]
  | a :: l, b :: m => by
    simp only [List.map_cons, PyData.eqvAll, PyData.eqv, ints_eqv l m]
    by_cases h1 : a = b
    · by_cases h2 : l = m
      · simp [h1, h2]
      · simp [h1, h2]
    · simp [h1]
theorem vecD_eqv (u v : Vec n) : PyData.eqv (vecD u) (vecD v) = decide (u = v) := by
  simp only [vecD, PyData.eqv, ints_eqv]
  by_cases h : u = v
  · simp [h]
  · have : List.ofFn u ≠ List.ofFn v := fun e => h (ofFn_inj e)
    simp [h, this]

/-! ### sorted -/
theorem lexLe_le : ∀ l m : List Int, decide (l ≤ m) = lexLe l m
  | [], m => by simp [lexLe]
  | a :: l, [] => by simp [lexLe]
  | a :: l, b :: m => by
    have ih := lexLe_le l m
    rw [lexLe, ← ih]
    rw [Bool.eq_iff_iff]
    simp only [Bool.or_eq_true, Bool.and_eq_true, decide_eq_true_eq]
    exact List.cons_le_cons_iff
section
variable {X : Cx}
def rSortedVs : List V → Hp → VK → Prop := fun xs H Q => ∃ (n : Nat) (l : Addr) (vs : List (Vec n)), xs = [.ref l] ∧ LAt H l vs ∧ ∀ (D : Addr) (qs : List Addr), H D = none → VecsAt H qs (sortRays vs) → Q (.ref D) (upd H D (.lst (qs.map V.ref)))
theorem cr_sortedVs (hu : X.A.units + 64 < cLine) : CallR X (.builtin "sorted") rSortedVs := by
  intro pins s σ H xs us Q I r h
  obtain ⟨n, l, vs, rfl, ⟨ps, hl, hv⟩, q⟩ := h
  obtain rfl := Vals.ref1 r
  obtain ⟨its, rv, p', hz⟩ := I.list (SqL.of hl)
  obtain ⟨ex, er⟩ := refs_back rv (fun x hx => by
    obtain ⟨p, _, rfl⟩ := List.mem_map.mp hx
    exact ⟨p, rfl⟩)
  have hlen : its.length = vs.length := by rw [← rv.length, List.length_map]; exact hv.1
  have each : ∀ {its : List Value} {ps : List Addr} {vs : List (Vec n)}, Vals (ps.map V.ref) its → VecsAt H ps vs → PySem.W.EachIs (fun u v => ∃ t, u = Value.ref t ∧ VecAt H t v) its vs := by
    intro its ps
    induction ps generalizing its with
    | nil =>
      intro vs r h
      cases r
      cases vs with
      | nil => exact PySem.W.EachIs.nil
      | cons v vs => have := h.1; simp at this
    | cons p ps ih =>
      intro vs r h
      cases vs with
      | nil => have := h.1; simp at this
      | cons v vs =>
        cases r with
        | cons r1 r2 =>
          cases r1
          exact PySem.W.EachIs.cons ⟨p, rfl, h.tail.1⟩ (ih r2 h.tail.2)
  have e1 := each rv hv
  have h1 : PySem.W.EachIs (fun u v => ∃ as, Reads s.heap u (vecD v) as) its vs := e1.mono fun u v ⟨t, eu, hv'⟩ => by
    exact Dp.reads I _ (.ref t) u hv'.dp eu
  have h2 : PySem.W.AllAlike (vs.map vecD) := by
    refine PySem.W.AllAlike.of fun a b => ?_
    have al : ∀ l m : List Int, PySem.W.alikeAll (l.map .int) (m.map .int) = true := by
      intro l
      induction l with
      | nil => intro m; simp [PySem.W.alikeAll]
      | cons x l ih =>
        intro m
        cases m with
        | nil => simp [PySem.W.alikeAll]
        | cons y m => simp [PySem.W.alikeAll, PySem.W.alike, ih]
    simp only [vecD, PySem.W.alike]
    exact al _ _
  have h3 : PySem.W.Sortable (vs.map vecD) := .inr fun d hd => by
    obtain ⟨v, _, rfl⟩ := List.mem_map.mp hd
    exact ⟨(fun z => nomatch z), (fun xs z => nomatch z)⟩
  refine PySem.W.sorted_data (enc := vecD) p'.isList e1 h1 h2 h3 (by rw [← hlen, ← rv.length]; exact hz) (fun b _ => by rw [vecD_depth]; omega) fun out ho eo => ?_
  · have esort : vs.mergeSort (PySem.W.dataLe false vecD) = sortRays vs := by
      unfold sortRays
      refine PySem.W.sort_congr fun a _ b _ => ?_
      have := congrFun (congrFun (PySem.W.dataLe_rows (fun v : Vec n => List.ofFn v)) a) b
      rw [show (PySem.W.dataLe false vecD a b) = decide (List.ofFn a ≤ List.ofFn b) from this]
      exact lexLe_le _ _
    rw [esort] at eo
    obtain ⟨ep, he'⟩ := PyProof.Rows.sortedAll_at s.heap its (List.toArray out)
    have conv : ∀ {out : List Value} {vs : List (Vec n)}, PySem.W.EachIs (fun u v => ∃ t, u = Value.ref t ∧ VecAt H t v) out vs → ∃ qs : List Addr, Vals (qs.map V.ref) out ∧ VecsAt H qs vs := by
      intro out
      induction out with
      | nil =>
        intro vs e
        cases vs with
        | nil => exact ⟨[], .nil, .nil⟩
        | cons v vs => have := e.length; simp at this
      | cons u out ih =>
        intro vs e
        cases vs with
        | nil => have := e.length; simp at this
        | cons v vs =>
          cases e with
          | cons h1 h2 =>
            obtain ⟨t, rfl, hv'⟩ := h1
            obtain ⟨qs, k1, k2⟩ := ih h2
            exact ⟨t :: qs, .cons rfl k1, VecsAt.append (VecsAt.one hv') k2⟩
    obtain ⟨qs, k1, k2⟩ := conv eo
    have nD := I.hok.fresh (Nat.le_succ s.heap.objs.size)
    refine ⟨.ref _, upd H (s.heap.objs.size + 1) (.lst (qs.map V.ref)), I.laid (t' := s.toks) (fun _ _ => PyProof.Rows.sortedAll_old) (Nat.le_succ _) ⟨?_, out, ep, k1, he'⟩, rfl, q _ _ nD k2⟩
    rw [k1.length, ho, ← hlen, ← rv.length]
    exact hz
end
end FW
set_option maxRecDepth 100000
set_option maxHeartbeats 2000000
set_option exponentiation.threshold 100000
namespace FW
open PySem PySem.Spec PyProof.Rows L2 Fm LamX
variable {n : Nat}
theorem prim_le (v : Vec n) (i : Fin n) : (prim v i).natAbs ≤ (v i).natAbs := by
  have h := prim_eq v i
  have hp := primG_pos v
  rw [h, Int.natAbs_mul]
  exact Nat.le_mul_of_pos_left _ (by omega)
theorem Wd.prim {v : Vec n} {b : Nat} (h : Wd b v) : Wd b (prim v) := fun i => Nat.lt_of_le_of_lt (prim_le v i) (h i)
theorem Wd.neg {v : Vec n} {b : Nat} (h : Wd b v) : Wd b (neg v) := fun i => by
  show (-(v i)).natAbs < 2 ^ b
  rw [Int.natAbs_neg]; exact h i
theorem Wd.upright {v : Vec n} {b : Nat} {c : Fin n} (h : Wd b v) : Wd b (upright v c) := by
  rcases upright_cases v c with e | e
  · rw [e]; exact h
  · rw [e]; exact h.neg
theorem Wd.cleared {v row : Vec n} {c : Fin n} {a b : Nat} (hv : Wd a v) (hr : Wd b row) : Wd (a + b + 1) (cleared v row c) := by
  unfold Fm.cleared
  split
  · exact hv.mono (by omega)
  · exact (wd_comb (hr c) hv (by rw [Int.natAbs_neg]; exact hv c) hr (e := a + b) (by omega) (by omega)).prim
theorem fold_snoc {α β : Type} (f : β → α → β) (b : β) {l : List α} {i : Nat} {x : α} (h : l[i]? = some x) : (l.take (i + 1)).foldl f b = f ((l.take i).foldl f b) x := by
  rw [List.take_add_one, h, Option.toList_some, List.foldl_append]
  rfl
theorem fold_bits {F : List (Vec n)} {b : Nat} (hF : ∀ f ∈ F, Wd b f) {v : Vec n} (hv : Wd b v) : ∀ i, i ≤ F.length → Wd (b + i * (b + 1)) ((F.take i).foldl clearBy v)
  | 0, _ => by
    rw [List.take_zero]
    exact hv.mono (by omega)
  | i + 1, hi => by
    have ih := fold_bits hF hv i (by omega)
    have hx : F[i]? = some F[i] := List.getElem?_eq_getElem (by omega)
    rw [fold_snoc _ _ hx]
    have e : b + (i + 1) * (b + 1) = b + i * (b + 1) + b + 1 := by rw [Nat.add_mul]; omega
    rw [e]
    unfold clearBy
    split
    · exact ih.cleared (hF _ (List.getElem_mem _))
    · exact ih.mono (by omega)
theorem vec_ne_list {m : Nat} {H : Hp} {p l : Addr} {v : Vec (m + 1)} {ps : List Addr} (h : VecAt H p v) (hl : H l = some (.lst (ps.map V.ref))) : p ≠ l := by
  refine ne_of h hl fun e => ?_
  have e2 : il v = ps.map V.ref := by
    injection e
  have h0 := il_get v 0
  rw [e2] at h0
  obtain ⟨q, _, e3⟩ := refs_at h0
  cases e3
theorem VecAt.ext {H H' : Hp} {p : Addr} {v : Vec n} (h : VecAt H p v) (e : ExtN H H') : VecAt H' p v := e _ _ h (fun ps z => by cases z)
theorem VecsAt.ext {H H' : Hp} {ps : List Addr} {vs : List (Vec n)} (h : VecsAt H ps vs) (e : ExtN H H') : VecsAt H' ps vs := h.mono fun _ _ _ q => q.ext e
theorem LAt.ext {H H' : Hp} {l : Addr} {vs : List (Vec n)} (h : LAt H l vs) (e : ExtN H H') : LAt H' l vs := let ⟨ps, a, b⟩ := h; ⟨ps, e _ _ a (fun ps z => by cases z), b.ext e⟩

section
variable {P : Program} {w : World} {K : PySem.W.Frag} {mg : Str → Option Value} {base : Heap}
/-! ### reduced -/
theorem scRed : FnScope ["vector", "rows", "rest", "row"] ["vector", "rows"] (defScope sRed) := ⟨rfl, rfl, rfl, by decide +kernel, rfl, by decide +kernel, by decide +kernel⟩
def spRed (K : PySem.W.Frag) : Sp := fun vs H Q _ => ∃ (m : Nat) (v : Vec (m + 1)) (F : List (Vec (m + 1))) (a l : Addr), vs = [.ref a, .ref l] ∧ VecAt H a v ∧ LAt H l F ∧ Wd 720 v ∧ (∀ f ∈ F, Wd 720 f ∧ ∃ c, pivotOf f = some c) ∧ F.length ≤ 8 ∧ m ≤ 20 ∧
  ∀ H' p, Same H H' → VecAt H' p (reduced v F) → Q (.ref p) H'
theorem ok_red {f fP fC fV : Addr} {fd fdP fdC fdV : FuncData} (F : Fun K "reduced" "reduced" sRed f fd) (kP : PySem.W.keepIn K (.ref fP) = true) (bP : Binds K fdP ["vector"] []) (gP : mg "primitive" = some (.ref fP)) (GP : FnOk P w K mg base CX0 2 fP fdP ["vector"] (spPrim K))
    (kC : PySem.W.keepIn K (.ref fC) = true) (bC : Binds K fdC ["vector", "row", "column"] []) (gC : mg "cleared" = some (.ref fC)) (GC : FnOk P w K mg base CX0 3 fC fdC ["vector", "row", "column"] (spClr K))
    (kV : PySem.W.keepIn K (.ref fV) = true) (bV : Binds K fdV ["vector"] []) (gV : mg "pivot_of" = some (.ref fV)) (GV : FnOk P w K mg base CX0 1 fV fdV ["vector"] (spPiv K)) : FnOk P w K mg base CX0 4 f fd ["vector", "rows"] (spRed K) := by
  refine F.ok scRed (fun vs H Q E h => ?_) (fun cdv A outer s H vs Q E hr h => ?_)
  · obtain ⟨m, v, F, a, l, rfl, _⟩ := h
    rfl
  · obtain ⟨m, v, F, a, l, rfl, hA, hL, hv, hF, hFl, hm, q⟩ := h
    refine ⟨_, pss_cons (ps_set (i := 2) scRed.nd rfl (.inl rfl) (pe_call GP (hr.mono (by decide)) (by rfl) gP kP bP .nil pass0 (pa_cons (pv 0) pa_nil)))
      (pss_cons (ps_for PassesOwn.never rfl (pi_list (pv 1)) (pg_name (i := 3) scRed.nd rfl (.inl rfl))
        (pss_one (ps_set (i := 2) scRed.nd rfl (.inl rfl) (pe_call GC hr (by rfl) gC kC bC .nil pass0 (pa_cons (pv 2) (pa_cons (pv 3) (pa_cons (pe_call GV (hr.mono (by decide)) (by rfl) gV kV bV .nil pass0 (pa_cons (pv 3) pa_nil)) pa_nil)))))))
      (pss_one (ps_ret (pv 2)))), ?_⟩
    refine ⟨.ref a, rfl, m + 1, v, a, rfl, hA, hv.mono (by omega), by omega, fun H1 p s1 np hp => ?_⟩
    obtain ⟨ps, hl, hps⟩ := hL
    refine ⟨.ref l, rfl, l, rfl, ⟨_, SqL.of (s1 _ _ hl)⟩, for_list (K := K) (a := l) (xs := ps.map V.ref) (fun i σ H3 => ∃ (r : Addr) (y : Option V), σ = [some (.ref a), some (.ref l), some (.ref r), y] ∧ Same H H3 ∧ VecAt H3 r ((F.take i).foldl clearBy (prim v)))
      ⟨p, none, rfl, s1, by rw [List.take_zero]; exact hp⟩ (fun i σ H3 _ ⟨_, _, _, s3, _⟩ => SqL.of (s3 _ _ hl)) ?_ ?_⟩
    · rintro i x σ H3 hi ⟨r, y, rfl, s3, hr3⟩
      obtain ⟨fp, hfp, rfl⟩ := refs_at hi
      obtain ⟨fv, hfv, hfa⟩ := hps.of hfp
      obtain ⟨hw, c, hc⟩ := hF fv (List.mem_of_getElem? hfv)
      have hil : i < F.length := (List.getElem?_eq_some_iff.mp hfv).1
      have hb := fold_bits (fun f hf => (hF f hf).1) (v := prim v) hv.prim i (by omega)
      refine ⟨_, rfl, _, rfl, _, rfl, m, fv, fp, rfl, hfa.same s3, by omega, ?_⟩
      rw [hc]
      refine ⟨m + 1, _, fv, c, r, fp, 720 + i * 721, 720, rfl, hr3, hfa.same s3, hb, hw, by omega, by omega, fun H4 p4 s4 _ hp4 => ?_⟩
      refine ⟨p4, _, rfl, s3.trans s4, ?_⟩
      rw [fold_snoc _ _ hfv, clearBy_piv hc]
      exact hp4
    · rintro σ H3 ⟨r, y, rfl, s3, hr3⟩
      refine ⟨_, rfl, q H3 r s3 ?_⟩
      rw [List.take_of_length_le (by rw [List.length_map, hps.1]; exact Nat.le_refl _)] at hr3
      exact hr3
end
end FW
set_option maxRecDepth 100000
set_option maxHeartbeats 4000000
set_option exponentiation.threshold 100000
namespace FW
open PySem PySem.Spec PyProof.Rows L2 Fm LamX
variable {n : Nat}
/-- the vector at an address -/
noncomputable def vecOf (n : Nat) (H : Hp) (p : Addr) : Vec n := @dite _ (∃ v : Vec n, VecAt H p v) (Classical.propDecidable _) (fun h => Classical.choose h) fun _ => zero
theorem vecOf_eq {H : Hp} {p : Addr} {v : Vec n} (h : VecAt H p v) : vecOf n H p = v := by
  have hx : ∃ v : Vec n, VecAt H p v := ⟨v, h⟩
  unfold vecOf
  rw [dif_pos hx]
  have e := Classical.choose_spec hx
  have e2 : VecAt H p v := h
  unfold VecAt at e e2
  rw [e] at e2
  have e3 := Option.some.inj e2
  injection e3 with e4
  exact il_inj e4
theorem VecsAt.eq {H : Hp} {ps : List Addr} {vs : List (Vec n)} (h : VecsAt H ps vs) : vs = ps.map (vecOf n H) := by
  refine List.ext_getElem? fun i => ?_
  rw [List.getElem?_map]
  cases e : ps[i]? with
  | none =>
    have := List.getElem?_eq_none_iff.mp e
    rw [List.getElem?_eq_none (by rw [← h.1]; exact this)]
    rfl
  | some p =>
    obtain ⟨v, e1, e2⟩ := h.of e
    rw [e1, Option.map_some, vecOf_eq e2]
/-- sorted by distinct keys: the one list -/
theorem keyed_unique {us fs : List (Vec n)} (hp : us.Perm fs) (hs : us.Pairwise (fun a b => keyOf a ≤ keyOf b)) (hd : (fs.map keyOf).Nodup) : us = fs.mergeSort (fun a b => decide (keyOf a ≤ keyOf b)) := by
  have pm := List.mergeSort_perm fs (fun a b => decide (keyOf a ≤ keyOf b))
  have ss := List.pairwise_mergeSort (le := fun a b : Vec n => decide (keyOf a ≤ keyOf b)) (fun a b c h k => by
    simp only [decide_eq_true_eq] at *; omega) (fun a b => by
    simp only [Bool.or_eq_true, decide_eq_true_eq]; omega) fs
  have strict : ∀ {l : List (Vec n)}, l.Perm fs → l.Pairwise (fun a b => keyOf a ≤ keyOf b) → l.Pairwise (fun a b => keyOf a < keyOf b) := fun {l} p s => by
    have nd : (l.map keyOf).Nodup := (p.map keyOf).nodup_iff.mpr hd
    rw [List.nodup_iff_pairwise_ne, List.pairwise_map] at nd
    exact (List.Pairwise.and s nd).imp fun q => by omega
  refine sorted_ext (lt := fun a b : Vec n => keyOf a < keyOf b) (fun _ => Nat.lt_irrefl _) (fun _ _ h => by omega) (strict hp hs) (strict pm (ss.imp fun h => by simpa using h)) fun x => ?_
  rw [hp.mem_iff, pm.mem_iff]
theorem clearBy_nil_found {F : List (Vec n)} {row : Vec n} {c : Fin n} (h : pivotOf (F.foldl clearBy row) = some c) : echStep F row = F.map (fun k => cleared k (upright (prim (F.foldl clearBy row)) c) c) ++ [upright (prim (F.foldl clearBy row)) c] := by
  unfold echStep; rw [h]
theorem echStep_none {F : List (Vec n)} {row : Vec n} (h : pivotOf (F.foldl clearBy row) = none) : echStep F row = F := by
  unfold echStep; rw [h]
/-- what the walk of echelon leans on -/
structure EchOk {m : Nat} (rows : List (Vec (m + 1))) : Prop where
  len : rows.length ≤ 8
  wd : ∀ r ∈ rows, Wd 720 r
  st : ∀ k, k ≤ rows.length → ((rows.take k).foldl echStep []).length ≤ 8 ∧ ∀ f ∈ (rows.take k).foldl echStep [], Wd 720 f ∧ ∃ c, pivotOf f = some c
  nd : ((rows.foldl echStep []).map keyOf).Nodup
def qLam : Str := ("echelon" : Str) ++ (".<locals>." : Str) ++ ("<lambda>" : Str)
def spEch (K : PySem.W.Frag) (T : List (Addr × Str)) : Sp := fun vs H Q _ => ∃ (m : Nat) (rows : List (Vec (m + 1))) (l : Addr), vs = [.ref l] ∧ LAt H l rows ∧ Tabs T H ∧ m ≤ 20 ∧ EchOk rows ∧ ∀ H' p, ExtN H H' → Tabs T H' → LAt H' p (echelon rows) → Q (.ref p) H'
section
variable {P : Program} {w : World} {K : PySem.W.Frag} {mg : Str → Option Value} {base : Heap}
theorem key_mod {m : Nat} {f : Vec (m + 1)} {c : Fin (m + 1)} (h : pivotOf f = some c) : (((c.val : Nat) : Int) - 1) % ((m + 1 : Nat) : Int) = ((keyOf f : Nat) : Int) := by
  unfold keyOf
  rw [h]
  show _ = ((key c : Nat) : Int)
  by_cases hc : c = 0
  · subst hc
    rw [key_zero]
    have : (((0 : Fin (m + 1)).val : Nat) : Int) - 1 = (m : Int) + ((m + 1 : Nat) : Int) * (-1) := by
      simp only [Fin.val_zero]; omega
    rw [this, Int.add_mul_emod_self_left]
    exact Int.emod_eq_of_lt (by omega) (by omega)
  · obtain ⟨k, rfl⟩ : ∃ k : Fin m, c = k.succ := ⟨c.pred hc, by simp⟩
    rw [key_succ]
    have := k.isLt
    have e : (((k.succ).val : Nat) : Int) - 1 = (k.val : Int) := by simp only [Fin.val_succ]; omega
    rw [e]
    exact Int.emod_eq_of_lt (by omega) (by omega)
theorem joinN {G : Prop} {NX : L2.St → Hp → Prop} {R : Hp → Addr → Prop} {σf : Addr → L2.St} (main : (∀ H6 p6, R H6 p6 → NX (σf p6) H6) → G) (tail : ∀ H6 p6, R H6 p6 → NX (σf p6) H6) : G := main tail
theorem fn_ofc {k : Nat} {f : Addr} {name qual : Str} {params : Arguments} {body : List Stmt} {scope : Scope} {dV kV doc pm cdv ct oc : Value} {an od : Option Addr} {osl : Array (Option Value)} {N ps : List Str} {sp : Sp}
    (lk : K.lookup f = some ⟨oc, od, .func (PySem.W.fnOf name qual params body scope dV kV doc pm an cdv ct), osl⟩) (hcd : PySem.W.codeIn K cdv qual = true) (S : FnScope N ps scope) (len : ∀ vs H Q E, sp vs H Q E → vs.length = ps.length)
    (hbody : ∀ (A : Around) (outer : List Env) (s : Shared) (H : Hp) (vs : List V) (Q : VK) (E : XK), Room k (A.deeper (envOfC qual scope s.heap.objs.size f cdv)) → sp vs H Q E →
      ∃ t, PSs (cxOf CX0 P w K mg base N qual scope f cdv A outer s H E).nox body t ∧ t { nx := fun _ H' => Q .non H', rt := Q } (start N vs) H) :
    FnOk P w K mg base CX0 (k + 1) f (PySem.W.fnOf name qual params body scope dV kV doc pm an cdv ct) ps sp :=
  fn_of lk hcd S len fun A outer s H vs Q E hr hsp => let ⟨t, h, q⟩ := hbody A outer s H vs Q E hr hsp; ⟨t, h.nox, q⟩
abbrev nEch : List Str := ["rows", "found", "row", "rest", "known", "column", "item", "size"]
theorem scEch : FnScope nEch ["rows"] (defScope sEch) := ⟨rfl, rfl, rfl, by decide +kernel, rfl, by decide +kernel, by decide +kernel⟩
theorem same_app {H H' : Hp} {l : Addr} {o : HO} (s : Same H H') (h : H l = none) : Same H (upd H' l o) := fun b x e => by
  rw [upd_ne (ne_of_none e h)]
  exact s _ _ e
theorem ok_ech {f fP fC fV c Pt : Addr} {fdP fdC fdV : FuncData} {oc kV0 doc pm ct : Value} {od an : Option Addr} {osl : Array (Option Value)} (lk : K.lookup f = some ⟨oc, od, .func (PySem.W.fnOf "echelon" "echelon" (defArgs sEch) (defBody sEch) (defScope sEch) .none kV0 doc pm an (.ref c) ct), osl⟩) (hcd : PySem.W.codeIn K (.ref c) "echelon" = true)
    (TB : TabB base mg c Pt) (T : List (Addr × Str)) (hT : T = [(Pt, qLam)]) (mS : mg "sorted" = none) (mLi : mg "list" = none) (mLe : mg "len" = none)
    (kP : PySem.W.keepIn K (.ref fP) = true) (bP : Binds K fdP ["vector"] []) (gP : mg "primitive" = some (.ref fP)) (GP : FnOk P w K mg base CX0 2 fP fdP ["vector"] (spPrim K))
    (kC : PySem.W.keepIn K (.ref fC) = true) (bC : Binds K fdC ["vector", "row", "column"] []) (gC : mg "cleared" = some (.ref fC)) (GC : FnOk P w K mg base CX0 3 fC fdC ["vector", "row", "column"] (spClr K))
    (kV : PySem.W.keepIn K (.ref fV) = true) (bV : Binds K fdV ["vector"] []) (gV : mg "pivot_of" = some (.ref fV)) (GV : FnOk P w K mg base CX0 1 fV fdV ["vector"] (spPiv K)) :
    FnOk P w K mg base CX0 9 f (PySem.W.fnOf "echelon" "echelon" (defArgs sEch) (defBody sEch) (defScope sEch) .none kV0 doc pm an (.ref c) ct) ["rows"] (spEch K T) := by
  refine fn_ofc (N := nEch) lk hcd scEch (fun vs H Q E h => ?_) (fun A outer s H vs Q E hr h => ?_)
  · obtain ⟨m, rows, l, rfl, _⟩ := h
    rfl
  · obtain ⟨m, rows, l, rfl, hL, hTab, hm, hE, q⟩ := h
    have hr3 : Room 3 (A.deeper (envOfC "echelon" (defScope sEch) s.heap.objs.size f (.ref c))) := hr.mono (by decide)
    have hr2 : Room 2 (A.deeper (envOfC "echelon" (defScope sEch) s.heap.objs.size f (.ref c))) := hr.mono (by decide)
    have hr1 : Room 1 (A.deeper (envOfC "echelon" (defScope sEch) s.heap.objs.size f (.ref c))) := hr.mono (by decide)
    refine ⟨_, pss_cons (ps_set (i := 1) scEch.nd rfl (.inl rfl) (pe_lst pa_nil))
      (pss_cons (ps_for PassesOwn.never rfl (pi_list (pv 0)) (pg_name (i := 2) scEch.nd rfl (.inl rfl))
        (pss_cons (ps_set (i := 3) scEch.nd rfl (.inr rfl) (pe_callTy call_list_of (by rfl) mLi (by decide +kernel) (pa_cons (pv 2) pa_nil)))
        (pss_cons (ps_for PassesOwn.never rfl (pi_list (pv 1)) (pg_name (i := 4) scEch.nd rfl (.inl rfl))
          (pss_one (ps_set (i := 3) scEch.nd rfl (.inr rfl) (pe_call GC hr3 (by rfl) gC kC bC .nil pass0 (pa_cons (pv 3) (pa_cons (pv 4) (pa_cons (pe_call GV hr1 (by rfl) gV kV bV .nil pass0 (pa_cons (pv 4) pa_nil)) pa_nil)))))))
        (pss_cons (ps_set (i := 5) scEch.nd rfl (.inr rfl) (pe_call GV hr1 (by rfl) gV kV bV .nil pass0 (pa_cons (pv 3) pa_nil)))
        (pss_one (ps_if (pt_cmpR op_notN (pv 5) pe_non (nomark _))
          (pss_cons (ps_set (i := 3) scEch.nd rfl (.inr rfl) (pe_call GP hr2 (by rfl) gP kP bP .nil pass0 (pa_cons (pv 3) pa_nil)))
          (pss_cons (ps_if (pt_cmpR op_lt (pe_ix ix_list (pv 3) (pv 5) (fun _ _ => rfl)) pe_int (nomark _))
            (pss_one (ps_set (i := 3) scEch.nd rfl (.inr rfl) (pe_lc (own := [("item", 6)]) (g := gName 6) (tt := tYes) rfl scEch.nd (pi_list (pv 3)) (blkOk_by (N := nEch) (sc := defScope sEch) (by decide +kernel))
              (fun _ _ _ _ _ => pg_name (i := 6) scEch.nd rfl (Or.inl rfl)) (fun _ _ _ _ _ => pts_nil) (fun _ _ _ _ _ => pe_un un_neg (pv 6))))) pss_nil)
          (pss_cons (ps_setLc (i := 1) (own := [("known", 4)]) (g := gName 4) (tt := tYes) rfl scEch.nd rfl rfl (sw_true rfl rfl rfl (by decide +kernel)) (pi_list (pv 1)) (blkOk_by (N := nEch) (sc := defScope sEch) (by decide +kernel))
              (fun _ _ _ _ _ => pg_name (i := 4) scEch.nd rfl (Or.inl rfl)) (fun _ _ _ _ _ => pts_nil) (fun _ _ _ _ _ => pe_call GC hr3 (by rfl) gC kC bC .nil pass0 (pa_cons (pv 4) (pa_cons (pv 3) (pa_cons (pv 5) pa_nil)))))
          (pss_one (ps_expr (pe_bm PySem.F.plainAttrs_list PySem.F.slot_list_append PySem.F.type_list_append mt_append (pv 1) (pa_cons (pv 3) pa_nil)))))))
          pss_nil))))))
      (pss_cons (ps_set (i := 7) scEch.nd rfl (.inr rfl) (pe_ifExp (pt_truth (pv 1) (by intro _; rfl)) (pe_callB call_len_seq (by rfl) mLe PySem.boot_len (pa_cons (pe_ix ix_list (pv 1) pe_int (fun _ _ => rfl)) pa_nil)) pe_int))
      (pss_one (ps_ret (pe_sortedLam (T := T) (c := c) (P := Pt) (i := 4) (k := 4) (x := "known") (by rfl) mS (pv 1) TB rfl (by rw [hT]; exact List.mem_singleton.mpr rfl) (fun p hp e => by
          rw [hT] at hp
          obtain rfl := List.mem_singleton.mp hp
          rfl) hr (lam1_by (sc := defScope sEch) (by decide +kernel)) scEch.nd rfl rfl (fun _ _ _ _ _ _ => rfl)
        (fun A outer s H f c' hrb => pe_op op_mod (pe_op op_sub (pe_call GV (hrb.mono (by decide)) (by rfl) gV kV bV .nil pass0 (pa_cons (pv 4) pa_nil)) pe_int) (pv 7))))))), ?_⟩
    obtain ⟨ps, hl, hps⟩ := hL
    refine ⟨Nat.zero_le _, fun fl nfl => ?_⟩
    refine ⟨.ref l, rfl, l, rfl, ⟨_, SqL.of (same_upd nfl _ _ hl)⟩, for_list (K := K) (a := l) (xs := ps.map V.ref) (fun i σ H3 => ∃ (r1 r2 r3 r4 r5 r6 : Option V) (fl : Addr), σ = [some (.ref l), some (.ref fl), r1, r2, r3, r4, r5, r6] ∧ H fl = none ∧ Same H H3 ∧ LAt H3 fl ((rows.take i).foldl echStep []))
      ⟨none, none, none, none, none, none, fl, rfl, nfl, same_upd nfl, [], upd_same, VecsAt.nil⟩ (fun i σ H3 _ ⟨_, _, _, _, _, _, _, _, _, s3, _⟩ => SqL.of (s3 _ _ hl)) ?_ ?_⟩
    · rintro i x σ H3 hi ⟨r1, r2, r3, r4, r5, r6, fl, rfl, nf, s3, hF⟩
      obtain ⟨xa, hxa, rfl⟩ := refs_at hi
      obtain ⟨row, hrow, hra⟩ := hps.of hxa
      have hil : i < rows.length := (List.getElem?_eq_some_iff.mp hrow).1
      obtain ⟨hFl, hFw⟩ := hE.st i (by omega)
      have hw := hE.wd row (List.mem_of_getElem? hrow)
      obtain ⟨fps, hfl, hfps⟩ := hF
      have hnext := fold_snoc echStep [] hrow
      generalize hFe : (rows.take i).foldl echStep [] = F at *
      refine ⟨.ref xa, rfl, xa, _, rfl, .inl (SqL.of (hra.same s3)), fun q0 nq0 => ?_⟩
      have s4 : Same H3 (upd H3 q0 (.lst (il row))) := same_upd nq0
      refine ⟨.ref fl, rfl, fl, rfl, ⟨_, SqL.of (s4 _ _ hfl)⟩, for_list (K := K) (a := fl) (xs := fps.map V.ref) (fun j σ H4 => ∃ (y : Option V) (r : Addr), σ = [some (.ref l), some (.ref fl), some (.ref xa), some (.ref r), y, r4, r5, r6] ∧ Same H3 H4 ∧ VecAt H4 r ((F.take j).foldl clearBy row))
        ⟨_, q0, rfl, s4, by rw [List.take_zero]; exact upd_same⟩ (fun j σ H4 _ ⟨_, _, _, s5, _⟩ => SqL.of (s5 _ _ hfl)) ?_ ?_⟩
      · rintro j x σ H4 hj ⟨y, r, rfl, s5, hr⟩
        obtain ⟨fp, hfp, rfl⟩ := refs_at hj
        obtain ⟨fv, hfv, hfa⟩ := hfps.of hfp
        obtain ⟨hfw, c, hc⟩ := hFw fv (List.mem_of_getElem? hfv)
        have hjl : j < F.length := (List.getElem?_eq_some_iff.mp hfv).1
        have hb := fold_bits (fun f hf => (hFw f hf).1) hw j (by omega)
        refine ⟨.ref r, rfl, .ref fp, rfl, .ref fp, rfl, m, fv, fp, rfl, hfa.same s5, by omega, ?_⟩
        rw [hc]
        refine ⟨m + 1, _, fv, c, r, fp, 720 + j * 721, 720, rfl, hr, hfa.same s5, hb, hfw, by omega, by omega, fun H5 p5 s6 _ hp5 => ?_⟩
        refine ⟨_, p5, rfl, s5.trans s6, ?_⟩
        rw [fold_snoc _ _ hfv, clearBy_piv hc]
        exact hp5
      · rintro σ H4 ⟨y, r, rfl, s5, hr⟩
        rw [List.take_of_length_le (by rw [List.length_map, hfps.1]; exact Nat.le_refl _)] at hr
        have hb : Wd 6488 (F.foldl clearBy row) := by
          have := fold_bits (fun f hf => (hFw f hf).1) hw F.length (Nat.le_refl _)
          rw [List.take_length] at this
          exact this.mono (by omega)
        refine ⟨.ref r, rfl, m, _, r, rfl, hr, by omega, ?_⟩
        cases hpv : pivotOf (F.foldl clearBy row) with
        | none =>
          rw [echStep_none hpv] at hnext
          refine ⟨.non, rfl, rfl, _, rfl, ite2 (fun e => ?_) (fun e => ?_)⟩
          · simp at e
          · refine ⟨_, _, _, _, _, _, fl, rfl, nf, s3.trans s5, fps, s5 _ _ hfl, ?_⟩
            rw [hnext]
            exact hfps.same s5
        | some c =>
          rw [clearBy_nil_found hpv] at hnext
          refine ⟨.int (c.val : Nat), rfl, rfl, _, rfl, ite2 (fun e => ?_) (fun e => (e (by simp)).elim)⟩
          refine ⟨.ref r, rfl, m + 1, _, r, rfl, hr, hb.mono (by omega), by omega, fun H5 p5 s6 np5 hp5 => ?_⟩
          generalize F.foldl clearBy row = v at *
          have hur : Wd 6488 (upright (prim v) c) := hb.prim.upright
          obtain ⟨u, hu⟩ : ∃ u, u = upright (prim v) c := ⟨_, rfl⟩
          rw [← hu] at hnext hur
          apply joinN (R := fun H6 p6 => Same H5 H6 ∧ VecAt H6 p6 u) (σf := fun p6 => [some (.ref l), some (.ref fl), some (.ref xa), some (.ref p6), y, some (.int (c.val : Nat)), r5, r6])
          case main =>
            intro tail
            refine ⟨.ref p5, rfl, _, rfl, p5, il (prim v), _, .int (prim v c), rfl, rfl, SqL.of hp5, at_of (j := c.val) rfl (il_get (prim v) c), _, _, rfl, rfl, _, rfl, ite2 (fun e => ?_) (fun e => ?_)⟩
            · have hneg : prim v c < 0 := of_decide_eq_true e
              refine ⟨.ref p5, rfl, p5, rfl, ⟨_, SqL.of hp5⟩, fun D nD => ?_⟩
              refine lc_mk (walk_list (xs := il (prim v))) (fun i y _ => ∃ h : i < m + 1, y = .int (neg (prim v) ⟨i, h⟩)) (fun i y H H' _ r => r) (fun H' s' => SqL.of (s' _ _ hp5)) nD (by rw [il_len]; exact Nat.le_trans (show m + 1 ≤ 21 by omega) (by decide)) ?_ (mono_name 6) ?_
              · rintro i x H1 H' Nx hi s1 _ ⟨rfl, hx⟩ cont
                obtain ⟨hi', rfl⟩ := il_at hx
                exact ⟨rfl, _, rfl, _, rfl, cont _ _ (Same.refl _) ⟨hi', rfl⟩⟩
              · intro H6 ys s7 hD hl hr
                refine tail H6 D ⟨s7, ?_⟩
                rw [hu]
                unfold upright
                rw [if_pos hneg]
                show H6 D = some (.lst (il (neg (prim v))))
                rw [hD, il_of (v := neg (prim v)) (hl.trans (il_len _)) hr]
            · have hneg : ¬ prim v c < 0 := fun z => e (decide_eq_true z)
              refine tail H5 p5 ⟨Same.refl _, ?_⟩
              rw [hu]
              unfold upright
              rw [if_neg hneg]
              exact hp5
          case tail =>
            rintro H6 p6 ⟨s7, hp6⟩
            have sA : Same H3 H6 := (s5.trans s6).trans s7
            refine ⟨.ref fl, rfl, fl, rfl, ⟨_, SqL.of (sA _ _ hfl)⟩, fun D nD => ?_⟩
            refine lc_mk (walk_list (xs := fps.map V.ref)) (fun i y H => ∃ p f, y = V.ref p ∧ F[i]? = some f ∧ p ≠ D ∧ VecAt H p (cleared f u c)) (fun i y H H' k ⟨p, f, e1, e2, e3, e4⟩ => ⟨p, f, e1, e2, e3, k _ _ e4 e3⟩) (fun H' s' => SqL.of (s' _ _ (sA _ _ hfl))) nD (by rw [List.length_map, hfps.1]; exact Nat.le_trans hFl (by decide)) ?_ (mono_name 4) ?_
            · rintro i x H1 H' Nx hi s1 ⟨o, hDo⟩ ⟨rfl, hx⟩ cont
              obtain ⟨fp, hfp, rfl⟩ := refs_at hx
              obtain ⟨f, hf, hfa⟩ := hfps.of hfp
              have hfw := (hFw f (List.mem_of_getElem? hf)).1
              refine ⟨rfl, _, rfl, _, rfl, _, rfl, m + 1, f, u, c, fp, p6, 720, 6488, rfl, (hfa.same sA).same s1, hp6.same s1, hfw, hur, by omega, by omega, fun H2 p2 s2 np2 hp2 => cont _ _ s2 ⟨p2, f, rfl, hf, ?_, hp2⟩⟩
              rcases np2 with rfl | np2
              · exact ne_of_none (hfa.same sA) nD
              · exact (ne_of_none hDo np2).symm
            · intro H7 ys s8 hD hlen hr
              obtain ⟨qs, rfl, hqs⟩ := vecs_of (H := H7) (vs := F.map fun k => cleared k u c) (ys := ys) (by rw [hlen, List.length_map, List.length_map, hfps.1]) (fun i y e => by
                obtain ⟨p, f, rfl, e2, _, e4⟩ := hr i y e
                exact ⟨p, _, rfl, by rw [List.getElem?_map, e2]; rfl, e4⟩)
              have hlq : (qs.map V.ref).length < sizeLine := Nat.lt_of_le_of_lt (show _ ≤ 8 by rw [List.length_map, hqs.1, List.length_map]; exact hFl) (by decide)
              refine ⟨.ref D, rfl, .inl ⟨rfl, _, SqL.of hD⟩, .ref p6, rfl, D, _, .ref p6, rfl, rfl, hD, hlq, ?_⟩
              have nHD : H D = none := same_none ((s3.trans sA)) nD
              refine ⟨_, _, _, _, _, _, D, rfl, nHD, fun b o e => ?_, qs ++ [p6], ?_, ?_⟩
              · rw [upd_ne (ne_of_none e nHD)]
                exact s8 _ _ (sA _ _ (s3 _ _ e))
              · rw [upd_same, List.map_append]
                rfl
              · rw [hnext]
                refine (hqs.append (VecsAt.one (hp6.same s8))).mono fun p _ w hw => ?_
                have : p ≠ D := vec_ne_list hw hD
                show upd H7 D _ p = _
                rw [upd_ne this]
                exact hw
    · rintro σ H3 ⟨r1, r2, r3, r4, r5, r6, fl, rfl, nf, s3, hF⟩
      rw [List.take_of_length_le (by rw [List.length_map, hps.1]; exact Nat.le_refl _)] at hF
      obtain ⟨fps, hfl, hfps⟩ := hF
      obtain ⟨hFl, hFw⟩ := hE.st rows.length (Nat.le_refl _)
      rw [List.take_length] at hFl hFw
      have hnd := hE.nd
      have hech : echelon rows = (rows.foldl echStep []).mergeSort (fun a b => decide (keyOf a ≤ keyOf b)) := rfl
      generalize hFe : rows.foldl echStep [] = F at *
      have fin : ∀ sz : Int, (F ≠ [] → sz = ((m + 1 : Nat) : Int)) → tRet (tSortL K T (tVar 1) (tOp (rI (fun x j => 0 < j) fun i j => V.int (i % j)) (tOp (rI0 fun i j => V.int (i - j)) (tCall (spPiv K) [] E0 (tCons (tVar 4) tNil)) (tC (V.int 1))) (tVar 7)) 4) { nx := fun x H' => Q V.non H', rt := Q } [some (.ref l), some (.ref fl), r1, r2, r3, r4, r5, some (.int sz)] H3 := fun sz hsz => by
        refine ⟨.ref fl, rfl, hTab.ext s3, fl, fps.map V.ref, fun x => match x with
          | .ref p => ((keyOf (vecOf (m + 1) H3 p) : Nat) : Int)
          | _ => 0, rfl, SqL.of hfl, Nat.lt_of_le_of_lt (show _ ≤ 8 by rw [List.length_map, hfps.1]; exact hFl) (by decide), fun x hx => ?_, fun H2 eN T2 => ⟨fun x hx => ?_, fun ys p hperm hpw np => ?_⟩⟩
        · obtain ⟨t, _, rfl⟩ := List.mem_map.mp hx
          exact ⟨t, rfl⟩
        · obtain ⟨t, ht, rfl⟩ := List.mem_map.mp hx
          obtain ⟨i, hi⟩ := List.getElem?_of_mem ht
          obtain ⟨f, hf, hfa⟩ := hfps.of hi
          obtain ⟨_, c, hc⟩ := hFw f (List.mem_of_getElem? hf)
          have hs := hsz (fun z => by rw [z] at hf; simp at hf)
          refine ⟨_, rfl, m, f, t, rfl, hfa.ext eN, by omega, ?_⟩
          rw [hc]
          refine ⟨_, _, rfl, rfl, _, rfl, _, _, rfl, rfl, by omega, ?_, rfl⟩
          show V.int ((((c.val : Nat) : Int) - 1) % sz) = V.int ((keyOf (vecOf (m + 1) H3 t) : Nat) : Int)
          rw [vecOf_eq hfa, hs, key_mod hc]
        · obtain ⟨us, rfl, hus⟩ : ∃ us : List Addr, ys = us.map V.ref ∧ us.Perm fps := by
            refine ⟨ys.map fun x => match x with | .ref p => p | _ => 0, ?_, ?_⟩
            · rw [List.map_map]
              conv => lhs; rw [← List.map_id ys]
              refine List.map_congr_left fun x hx => ?_
              obtain ⟨t, _, rfl⟩ := List.mem_map.mp (hperm.mem_iff.mp hx)
              rfl
            · have := hperm.map fun x => match x with | V.ref p => p | _ => 0
              rw [List.map_map (l := fps)] at this
              have e : fps.map ((fun x => match x with | V.ref p => p | _ => 0) ∘ V.ref) = fps := by
                conv => rhs; rw [← List.map_id fps]
                rfl
              rwa [e] at this
          have hv2 : ∀ t ∈ fps, ∃ f : Vec (m + 1), VecAt H3 t f := fun t ht => by
            obtain ⟨i, hi⟩ := List.getElem?_of_mem ht
            obtain ⟨f, _, hfa⟩ := hfps.of hi
            exact ⟨f, hfa⟩
          refine q _ _ ?_ ?_ ⟨us, upd_same, ?_⟩
          · exact (ExtN.of s3).trans (eN.trans (ExtN.of (same_upd np)))
          · exact T2.ext (same_upd np)
          · rw [hech]
            have e : (us.map (vecOf (m + 1) H3)) = F.mergeSort (fun a b => decide (keyOf a ≤ keyOf b)) := by
              refine keyed_unique ?_ ?_ hnd
              · rw [hfps.eq]
                exact hus.map _
              · rw [List.pairwise_map] at hpw ⊢
                exact hpw.imp fun {a b} h => by
                  have h : ((keyOf (vecOf (m + 1) H3 a) : Nat) : Int) ≤ ((keyOf (vecOf (m + 1) H3 b) : Nat) : Int) := h
                  omega
            rw [← e]
            refine ⟨by rw [List.length_map], fun i t v e1 e2 => ?_⟩
            rw [List.getElem?_map, e1] at e2
            have e3 : vecOf (m + 1) H3 t = v := Option.some.inj e2
            obtain ⟨f, hfa⟩ := hv2 t (hus.mem_iff.mp (List.mem_of_getElem? e1))
            rw [vecOf_eq hfa] at e3
            subst e3
            exact (hfa.ext eN).same (same_upd np)
      refine ⟨.ref fl, rfl, _, .inl ⟨_, SqL.of hfl, rfl⟩, ite2 (fun e => ?_) (fun e => ?_)⟩
      · have hne : fps ≠ [] := fun z => by rw [z] at e; simp at e
        obtain ⟨fp, fr, rfl⟩ := List.exists_cons_of_ne_nil hne
        obtain ⟨f, hf, hfa⟩ := hfps.of (i := 0) rfl
        refine ⟨.ref fl, rfl, fl, _, 0, .ref fp, rfl, rfl, SqL.of hfl, at_of (j := 0) rfl rfl, fp, _, rfl, .inl (SqL.of hfa), ?_⟩
        rw [il_len]
        exact fin _ fun _ => rfl
      · have hne : fps = [] := Classical.byContradiction fun z => e (by cases fps with
          | nil => exact absurd rfl z
          | cons a b => rfl)
        subst hne
        have : F = [] := by
          cases F with
          | nil => rfl
          | cons a b => have := hfps.1; simp at this
        exact fin _ fun z => absurd this z
end
end FW
set_option maxRecDepth 100000
set_option maxHeartbeats 4000000
set_option exponentiation.threshold 100000
/-! The builder: what stands in the heap; its making; are_neighbours. -/
namespace FW
open PySem PySem.Spec PyProof.Rows L2 Fm LamX
variable {n : Nat}
/-! ### lists of objects -/
def ItemsAt {α : Type} (R : Hp → Addr → α → Prop) (H : Hp) (ts : List Addr) (xs : List α) : Prop := ts.length = xs.length ∧ ∀ (i : Nat) (t : Addr) (x : α), ts[i]? = some t → xs[i]? = some x → R H t x
section
variable {α : Type} {R : Hp → Addr → α → Prop} {H H' : Hp} {ts us : List Addr} {xs ys : List α}
theorem ItemsAt.of (h : ItemsAt R H ts xs) {i : Nat} {t : Addr} (e : ts[i]? = some t) : ∃ x, xs[i]? = some x ∧ R H t x := by
  have hi := (List.getElem?_eq_some_iff.mp e).1
  have hv : i < xs.length := by rw [← h.1]; exact hi
  exact ⟨xs[i], List.getElem?_eq_getElem hv, h.2 i t _ e (List.getElem?_eq_getElem hv)⟩
theorem ItemsAt.mono (h : ItemsAt R H ts xs) (k : ∀ t ∈ ts, ∀ x, R H t x → R H' t x) : ItemsAt R H' ts xs := ⟨h.1, fun i t x e1 e2 => k t (List.mem_of_getElem? e1) x (h.2 i t x e1 e2)⟩
theorem ItemsAt.nil : ItemsAt R H [] ([] : List α) := ⟨rfl, fun i t x e => by simp at e⟩
theorem ItemsAt.append (a : ItemsAt R H ts xs) (b : ItemsAt R H us ys) : ItemsAt R H (ts ++ us) (xs ++ ys) := by
  refine ⟨by rw [List.length_append, List.length_append, a.1, b.1], fun i t x e1 e2 => ?_⟩
  by_cases hi : i < ts.length
  · rw [List.getElem?_append_left hi] at e1
    rw [List.getElem?_append_left (by rw [← a.1]; exact hi)] at e2
    exact a.2 i t x e1 e2
  · rw [List.getElem?_append_right (by omega)] at e1
    rw [List.getElem?_append_right (by rw [← a.1]; omega), ← a.1] at e2
    exact b.2 _ t x e1 e2
theorem ItemsAt.one {t : Addr} {x : α} (h : R H t x) : ItemsAt R H [t] [x] := ⟨rfl, fun i u y e1 e2 => by
  cases i with
  | zero =>
    simp at e1 e2
    subst e1 e2
    exact h
  | succ i => simp at e1⟩
theorem items_of {zs : List V} {xs : List α} (hl : zs.length = xs.length) (hr : ∀ (i : Nat) (y : V), zs[i]? = some y → ∃ (t : Addr) (x : α), y = V.ref t ∧ xs[i]? = some x ∧ R H t x) : ∃ ts : List Addr, zs = ts.map V.ref ∧ ItemsAt R H ts xs := by
  have back : ∀ y ∈ zs, ∃ p, y = V.ref p := fun y hy => by
    obtain ⟨i, hi⟩ := List.getElem?_of_mem hy
    obtain ⟨p, v, e, _⟩ := hr i y hi
    exact ⟨p, e⟩
  have e : zs = (zs.map fun y => match y with | .ref p => p | _ => 0).map V.ref := by
    rw [List.map_map]
    conv => lhs; rw [← List.map_id zs]
    refine List.map_congr_left fun y hy => ?_
    obtain ⟨p, rfl⟩ := back y hy
    rfl
  refine ⟨_, e, by rw [List.length_map]; exact hl, fun i p v e1 e2 => ?_⟩
  rw [List.getElem?_map] at e1
  cases q : zs[i]? with
  | none => rw [q] at e1; cases e1
  | some y =>
    obtain ⟨p', v', rfl, e3, e4⟩ := hr i y q
    rw [q] at e1
    have : p' = p := Option.some.inj e1
    rw [← this]
    rw [e2] at e3
    cases e3
    exact e4
end
/-! ### rays -/
def RayAt (H : Hp) (t : Addr) (r : Vec n × Nat) : Prop := ∃ a, H t = some (.tup [.ref a, .int (r.2 : Int)]) ∧ VecAt H a r.1
theorem RayAt.same {H H' : Hp} {t : Addr} {r : Vec n × Nat} (h : RayAt H t r) (s : Same H H') : RayAt H' t r := let ⟨a, e, v⟩ := h; ⟨a, s _ _ e, v.same s⟩
/-- what is neither a tuple nor a list of ints goes -/
theorem RayAt.keep {H H' : Hp} {t D : Addr} {o : HO} {r : Vec n × Nat} (h : RayAt H t r) (hD : H D = some o) (h1 : ∀ xs, o ≠ .tup xs) (h2 : ∀ v : Vec n, o ≠ .lst (il v)) (k : Kp D H H') : RayAt H' t r := by
  obtain ⟨a, e, v⟩ := h
  exact ⟨a, k _ _ e (ne_of e hD fun z => h1 _ z.symm), k _ _ v (ne_of v hD fun z => h2 _ z.symm)⟩
theorem il_refs {m : Nat} {v : Vec (m + 1)} {ps : List Addr} (e : ps.map V.ref = il v) : False := by
  have h0 := il_get v 0
  rw [← e] at h0
  obtain ⟨q, _, e3⟩ := refs_at h0
  cases e3
theorem lst_no {m : Nat} {ps : List Addr} (v : Vec (m + 1)) : HO.lst (ps.map V.ref) ≠ .lst (il v) := fun z => by
  injection z with z
  exact il_refs z
theorem lst_tup {ys xs : List V} : HO.lst ys ≠ .tup xs := fun z => by cases z
/-! ### the builder -/
theorem f1 : ¬ (("lines" : Str) = "rays") := by decide +kernel
theorem f2 : ¬ (("lines" : Str) = "count") := by decide +kernel
theorem f3 : ¬ (("rays" : Str) = "count") := by decide +kernel
theorem f1' : ¬ (("rays" : Str) = "lines") := fun z => f1 z.symm
def bf (l r : Addr) (c : Int) : List (Str × V) := [("lines", V.ref l), ("rays", V.ref r), ("count", V.int c)]
theorem bf_make (l r : Addr) (c : Int) : putF "count" (V.int c) (putF "rays" (V.ref r) (putF "lines" (V.ref l) [])) = bf l r c := by
  simp [putF, f1, f2, f3, bf]
theorem look_cons {k g : Str} {v : V} {r : List (Str × V)} : List.lookup k ((g, v) :: r) = if k = g then some v else List.lookup k r := by
  rw [List.lookup_cons]
  by_cases h : k = g
  · subst h; simp
  · rw [if_neg h]
    have : (k == g) = false := by simpa using h
    rw [this]
theorem bf_lines (l r : Addr) (c : Int) : (bf l r c).lookup ("lines" : Str) = some (.ref l) := by
  unfold bf; rw [look_cons, if_pos rfl]
theorem bf_rays (l r : Addr) (c : Int) : (bf l r c).lookup ("rays" : Str) = some (.ref r) := by
  unfold bf; rw [look_cons, if_neg f1', look_cons, if_pos rfl]
theorem bf_count (l r : Addr) (c : Int) : (bf l r c).lookup ("count" : Str) = some (.int c) := by
  unfold bf; rw [look_cons, if_neg (fun z => f2 z.symm), look_cons, if_neg (fun z => f3 z.symm), look_cons, if_pos rfl]
theorem bf_no (l r : Addr) (c : Int) {m : Str} (h1 : ¬ m = "lines") (h2 : ¬ m = "rays") (h3 : ¬ m = "count") : (bf l r c).lookup m = none := by
  unfold bf; rw [look_cons, if_neg h1, look_cons, if_neg h2, look_cons, if_neg h3]
  rfl
theorem bf_putL (l r l' : Addr) (c : Int) : putF "lines" (V.ref l') (bf l r c) = bf l' r c := by simp [putF, bf]
theorem bf_putR (l r r' : Addr) (c : Int) : putF "rays" (V.ref r') (bf l r c) = bf l r' c := by simp [putF, f1, bf]
theorem bf_putC (l r : Addr) (c c' : Int) : putF "count" (V.int c') (bf l r c) = bf l r c' := by simp [putF, f2, f3, bf]
/-- a builder stands at p -/
structure BldAt (C : Addr) (H : Hp) (p : Addr) (b : Bld n) (dx l r : Addr) (ls ts : List Addr) : Prop where
  ob : H p = some (.ins C dx (bf l r (b.count : Int)))
  ln : H l = some (.lst (ls.map V.ref))
  lv : VecsAt H ls b.lines
  rl : H r = some (.lst (ts.map V.ref))
  rv : ItemsAt RayAt H ts b.rays
def Bld' (C : Addr) (H : Hp) (p : Addr) (b : Bld n) : Prop := ∃ dx l r ls ts, BldAt C H p b dx l r ls ts
theorem ItemsAt.same {H H' : Hp} {ts : List Addr} {rs : List (Vec n × Nat)} (h : ItemsAt RayAt H ts rs) (s : Same H H') : ItemsAt RayAt H' ts rs := h.mono fun _ _ _ q => q.same s
theorem VecAt.keep {H H' : Hp} {t D : Addr} {o : HO} {v : Vec n} (h : VecAt H t v) (hD : H D = some o) (h2 : ∀ v : Vec n, o ≠ .lst (il v)) (k : Kp D H H') : VecAt H' t v := k _ _ h (ne_of h hD fun z => h2 _ z.symm)
theorem ins_no {C dx : Addr} {fs : List (Str × V)} (v : Vec n) : HO.ins C dx fs ≠ .lst (il v) := fun z => by cases z
theorem ins_tup {C dx : Addr} {fs : List (Str × V)} {xs : List V} : HO.ins C dx fs ≠ .tup xs := fun z => by cases z
theorem BldAt.same {C : Addr} {H H' : Hp} {p : Addr} {b : Bld n} {dx l r : Addr} {ls ts : List Addr} (h : BldAt C H p b dx l r ls ts) (s : Same H H') : BldAt C H' p b dx l r ls ts :=
  ⟨s _ _ h.ob, s _ _ h.ln, h.lv.same s, s _ _ h.rl, h.rv.same s⟩
theorem Bld'.same {C : Addr} {H H' : Hp} {p : Addr} {b : Bld n} (h : Bld' C H p b) (s : Same H H') : Bld' C H' p b := let ⟨dx, l, r, ls, ts, q⟩ := h; ⟨dx, l, r, ls, ts, q.same s⟩
/-- what the walk asks of the class -/
structure TxtB (K : PySem.W.Frag) (C : Addr) : Prop where
  cl : Cls K C
  nL : NoAttr K C "lines"
  nR : NoAttr K C "rays"
  nC : NoAttr K C "count"
theorem and_nn (a b : Nat) : Builtin.bitAnd (a : Int) (b : Int) = ((a &&& b : Nat) : Int) := by
  have := PyProof.Rows.bitAnd_pp (x := (a : Int)) (y := (b : Int)) (by omega) (by omega)
  simpa using this
theorem or_nn (a b : Nat) : Builtin.bitOr (a : Int) (b : Int) = ((a ||| b : Nat) : Int) := by
  have := Bits.bitOr_pp (x := (a : Int)) (y := (b : Int)) (by omega) (by omega)
  simpa using this
section
variable {P : Program} {w : World} {K : PySem.W.Frag} {mg : Str → Option Value} {base : Heap}
/-! ### are_neighbours -/
abbrev nNb : List Str := ["self", "one", "other", "shared", "ray", "mask"]
theorem scNb : FnScope nNb ["self", "one", "other", "shared"] (defScope sNb) := ⟨rfl, rfl, rfl, by decide +kernel, rfl, by decide +kernel, by decide +kernel⟩
def spNb (C : Addr) : Sp := fun vs H Q _ => ∃ (n : Nat) (b : Bld n) (p x y : Addr) (u v : Vec n) (s : Nat), vs = [.ref p, .ref x, .ref y, .int (s : Int)] ∧ Bld' C H p b ∧ VecAt H x u ∧ VecAt H y v ∧ Q (.bl (nbB b.rays u v s)) H
theorem ok_nb {f C : Addr} {fd : FuncData} (F : Fun K "are_neighbours" "Builder.are_neighbours" sNb f fd) (T : TxtB K C) : FnOk P w K mg base CX0 1 f fd ["self", "one", "other", "shared"] (spNb C) := by
  refine F.ok scNb (fun vs H Q E h => ?_) (fun cdv A outer s H vs Q E hr h => ?_)
  · obtain ⟨n, b, p, x, y, u, v, s, rfl, _⟩ := h
    rfl
  · obtain ⟨n, b, p, x, y, u, v, s, rfl, ⟨dx, l, r, ls, ts, B⟩, hx, hy, q⟩ := h
    refine ⟨_, pss_cons (ps_for PassesOwn.never rfl (pi_list (pe_fld (pv 0) rfl)) (pg_tup rfl (pgs_cons (pg_name (i := 4) scNb.nd rfl (.inl rfl)) (pgs_cons (pg_name (i := 5) scNb.nd rfl (.inl rfl)) pgs_nil)))
        (pss_one (ps_if (PW.pt (pw_and (pt_cmpR op_eq (pe_op op_and (pv 5) (pv 3)) (pv 3) (nomark _)) (pw_and (pt_cmpR (op_neD hr.units) (pv 4) (pv 1) (nomark _)) (pw_and1 (pt_cmpR (op_neD hr.units) (pv 4) (pv 2) (nomark _))))))
          (pss_one (ps_ret pe_bl)) pss_nil)))
      (pss_one (ps_ret pe_bl)), ?_⟩
    refine ⟨.ref p, rfl, p, C, dx, _, _, rfl, B.ob, T.cl, T.nR, bf_rays _ _ _, r, rfl, ⟨_, SqL.of B.rl⟩, for_list (K := K) (a := r) (xs := ts.map V.ref) (fun i σ H3 => H3 = H ∧ (∃ y1 y2, σ = [some (.ref p), some (.ref x), some (.ref y), some (.int (s : Int)), y1, y2]) ∧ ∀ j r, j < i → b.rays[j]? = some r → (!((r.2 &&& s == s) && (decide (r.1 ≠ u) && decide (r.1 ≠ v)))) = true)
      ⟨rfl, ⟨_, _, rfl⟩, fun j r h => by omega⟩ (fun i σ H3 _ ⟨e, _⟩ => by rw [e]; exact SqL.of B.rl) ?_ ?_⟩
    · rintro i z σ H3 hi ⟨rfl, ⟨y1, y2, rfl⟩, hpre⟩
      obtain ⟨t, ht, rfl⟩ := refs_at hi
      obtain ⟨ry, hry, a, et, va⟩ := B.rv.of ht
      refine ⟨t, _, rfl, SqT.of et, rfl, _, _, rfl, _, _, rfl, rfl, ?_⟩
      have nxt : (!((ry.2 &&& s == s) && (decide (ry.1 ≠ u) && decide (ry.1 ≠ v)))) = true → ∀ j r, j < i + 1 → b.rays[j]? = some r → (!((r.2 &&& s == s) && (decide (r.1 ≠ u) && decide (r.1 ≠ v)))) = true := fun hb j r hj e => by
        by_cases hji : j < i
        · exact hpre j r hji e
        · have : j = i := by omega
          subst this
          rw [hry] at e
          cases e
          exact hb
      refine ⟨_, rfl, _, rfl, _, _, rfl, rfl, _, rfl, rfl, _, rfl, ite2 (fun e1 => ?_) (fun e1 => ?_)⟩
      · replace e1 : decide (V.int (Builtin.bitAnd (ry.2 : Int) (s : Int)) = V.int (s : Int)) = true := e1
        rw [and_nn] at e1
        have g1 : (ry.2 &&& s == s) = true := by
          have := of_decide_eq_true e1
          injection this with z
          rw [beq_iff_eq]
          exact Int.ofNat.inj z
        refine ⟨_, rfl, _, rfl, vecD ry.1, vecD u, va.dp, hx.dp, vecD_shaped _, vecD_shaped _, _, rfl, ite2 (fun e2 => ?_) (fun e2 => ?_)⟩
        · rw [vecD_eqv] at e2
          have g2 : ry.1 ≠ u := by simpa using e2
          refine ⟨_, rfl, _, rfl, vecD ry.1, vecD v, va.dp, hy.dp, vecD_shaped _, vecD_shaped _, _, rfl, ite2 (fun e3 => ?_) (fun e3 => ?_)⟩
          · rw [vecD_eqv] at e3
            have g3 : ry.1 ≠ v := by simpa using e3
            have : nbB b.rays u v s = false := by
              unfold nbB
              rw [List.all_eq_false]
              exact ⟨ry, List.mem_of_getElem? hry, by simp [g1, g2, g3]⟩
            rw [this] at q
            exact q
          · rw [vecD_eqv] at e3
            have g3 : ry.1 = v := by simpa using e3
            exact ⟨rfl, ⟨_, _, rfl⟩, nxt (by simp [g3])⟩
        · rw [vecD_eqv] at e2
          have g2 : ry.1 = u := by simpa using e2
          exact ite2 (fun z => by cases z) fun _ => ⟨rfl, ⟨_, _, rfl⟩, nxt (by simp [g2])⟩
      · replace e1 : ¬ decide (V.int (Builtin.bitAnd (ry.2 : Int) (s : Int)) = V.int (s : Int)) = true := e1
        rw [and_nn] at e1
        have g1 : (ry.2 &&& s == s) = false := by
          cases hh : (ry.2 &&& s == s) with
          | false => rfl
          | true =>
            rw [beq_iff_eq] at hh
            exact absurd (decide_eq_true (by rw [hh])) e1
        exact ite2 (fun z => by cases z) fun _ => ⟨rfl, ⟨_, _, rfl⟩, nxt (by simp [g1])⟩
    · rintro σ H3 ⟨rfl, ⟨y1, y2, rfl⟩, hpre⟩
      show Q (.bl true) H3
      have : nbB b.rays u v s = true := by
        unfold nbB
        rw [List.all_eq_true]
        intro r hr'
        obtain ⟨j, hj⟩ := List.getElem?_of_mem hr'
        exact hpre j r (by rw [List.length_map, B.rv.1]; exact (List.getElem?_eq_some_iff.mp hj).1) hj
      rw [this] at q
      exact q
/-! ### __init__ -/
abbrev nIni : List Str := ["self", "size", "k", "i"]
theorem scIni : FnScope nIni ["self", "size"] (defScope sInit) := ⟨rfl, rfl, rfl, by decide +kernel, rfl, by decide +kernel, by decide +kernel⟩
def spIni (C : Addr) : Sp := fun vs H Q _ => ∃ (n : Nat) (p dx : Addr), vs = [.ref p, .int (n : Int)] ∧ H p = some (.ins C dx []) ∧ n ≤ 100 ∧ ∀ H', Kp p H H' → Bld' C H' p (bld0 n) → Q .non H'
theorem ok_ini {f C : Addr} {fd : FuncData} (F : Fun K "__init__" "Builder.__init__" sInit f fd) (T : TxtB K C) (mR : mg "range" = none) : FnOk P w K mg base CX0 1 f fd ["self", "size"] (spIni C) := by
  refine F.ok scIni (fun vs H Q E h => ?_) (fun cdv A outer s H vs Q E hr h => ?_)
  · obtain ⟨n, p, dx, rfl, _⟩ := h
    rfl
  · obtain ⟨n, p, dx, rfl, hp, hn, q⟩ := h
    refine ⟨_, pss_cons (ps_fld (pv 0) (pe_lc (own := [("k", 2)]) (g := gName 2) (tt := tYes) rfl scIni.nd (pi_range1 (by rfl) mR (pa_cons (pv 1) pa_nil)) (blkOk_by (N := nIni) (sc := defScope sInit) (by decide +kernel))
        (fun _ _ _ _ _ => pg_name (i := 2) scIni.nd rfl (Or.inr rfl)) (fun _ _ _ _ _ => pts_nil)
        (fun _ _ _ _ _ => pe_lc (own := [("i", 3)]) (g := gName 3) (tt := tYes) rfl scIni.nd (pi_range1 (by rfl) mR (pa_cons (pv 1) pa_nil)) (blkOk_by (N := nIni) (sc := ⟨.function, [(".0", .local), ("k", .cell), ("range", .globalImplicit), ("size", .cell)], false, false, []⟩) (by decide +kernel))
          (fun _ _ _ _ _ => pg_name (i := 3) scIni.nd rfl (Or.inl rfl)) (fun _ _ _ _ _ => pts_nil)
          (fun _ _ _ _ _ => pe_ifExp (pt_cmpR op_eq (pv 3) (pv 2) (nomark _)) pe_int pe_int))) rfl)
      (pss_cons (ps_fld (pv 0) (pe_lst pa_nil) rfl)
      (pss_one (ps_fld (pv 0) pe_int rfl))), ?_⟩
    have big : n ≤ sizeLine := Nat.le_trans hn (by decide)
    refine ⟨_, rfl, (n : Int), rfl, by omega, by omega, fun D nD => ?_⟩
    rw [Int.toNat_natCast]
    refine lc_mk (walk_range (lo := 0) (n := n)) (fun i y H => ∃ p, ∃ h : i < n, y = V.ref p ∧ p ≠ D ∧ VecAt H p (unit (⟨i, h⟩ : Fin n))) (fun i y H H' k ⟨p, h, e1, e2, e3⟩ => ⟨p, h, e1, e2, k _ _ e3 e2⟩) (fun _ _ => trivial) nD big ?_ (mono_name 2) ?_
    · rintro i x H1 H' Nx hi s1 ⟨o, hDo⟩ ⟨rfl, rfl⟩ cont
      refine ⟨rfl, _, rfl, (n : Int), rfl, by omega, by omega, fun D2 nD2 => ?_⟩
      rw [Int.toNat_natCast]
      refine lc_mk (walk_range (lo := 0) (n := n)) (fun j y _ => ∃ h : j < n, y = V.int (unit (⟨i, hi⟩ : Fin n) ⟨j, h⟩)) (fun i y H H' _ r => r) (fun _ _ => trivial) nD2 big ?_ (mono_name 3) ?_
      · rintro j x H3 H4 Nx2 hj s3 _ ⟨rfl, rfl⟩ cont2
        refine ⟨rfl, _, rfl, _, rfl, rfl, _, rfl, ite2 (fun e => ?_) (fun e => ?_)⟩
        · refine cont2 _ _ (Same.refl _) ⟨hj, ?_⟩
          have : j = i := by
            have := of_decide_eq_true e
            injection this with z
            omega
          subst this
          show V.int 1 = V.int (unit (⟨j, hi⟩ : Fin n) ⟨j, hj⟩)
          unfold Fm.unit
          rw [if_pos rfl]
        · refine cont2 _ _ (Same.refl _) ⟨hj, ?_⟩
          have : j ≠ i := fun z => e (decide_eq_true (by rw [z]))
          show V.int 0 = V.int (unit (⟨i, hi⟩ : Fin n) ⟨j, hj⟩)
          unfold Fm.unit
          rw [if_neg (fun z => this (by injection z))]
      · intro H5 ys s5 hD5 hl hr
        refine cont _ _ s5 ⟨D2, hi, rfl, (ne_of_none hDo nD2).symm, ?_⟩
        show H5 D2 = some (.lst (il _))
        rw [hD5, il_of (v := unit (⟨i, hi⟩ : Fin n)) hl hr]
    · intro H1 ys s1 hD hl hr
      obtain ⟨ls, rfl, hls⟩ := vecs_of (H := H1) (vs := (List.finRange n).map Fm.unit) (ys := ys) (by rw [hl]; simp) (fun i y e => by
        obtain ⟨p, h, rfl, _, e4⟩ := hr i y e
        exact ⟨p, _, rfl, by simp [h], e4⟩)
      refine ⟨_, rfl, p, C, dx, [], rfl, s1 _ _ hp, T.cl, T.nL, by decide, ?_⟩
      refine ⟨Nat.zero_le _, fun r nr => ?_⟩
      have hp1 : H1 p = some (.ins C dx []) := s1 _ _ hp
      have npD : p ≠ D := ne_of_none hp nD
      have npr : p ≠ r := ne_of_none upd_same nr
      have nr1 : H1 r = none := by
        rw [upd_ne npr.symm] at nr
        exact nr
      refine ⟨_, rfl, p, C, dx, _, rfl, (upd_ne npr).trans upd_same, T.cl, T.nR, by simp [putF], ?_⟩
      refine ⟨_, rfl, p, C, dx, _, rfl, upd_same, T.cl, T.nC, by simp [putF, f1], ?_⟩
      refine q _ (fun b o e hb => ?_) ⟨dx, D, r, ls, [], ?_⟩
      · rw [upd_ne hb, upd_ne hb, upd_ne (ne_of_none e (same_none s1 nr1)), upd_ne hb]
        exact s1 _ _ e
      · refine ⟨?_, ?_, ?_, ?_, ItemsAt.nil⟩
        · rw [upd_same]
          exact congrArg (fun q => some (HO.ins C dx q)) (bf_make _ _ _)
        · rw [upd_ne npD.symm, upd_ne npD.symm, upd_ne (ne_of_none hD nr1), upd_ne npD.symm]
          exact hD
        · refine hls.mono fun t ht v hv => ?_
          show upd _ _ _ t = _
          have ntp : t ≠ p := ne_of hv hp1 fun z => by cases z
          rw [upd_ne ntp, upd_ne ntp, upd_ne (ne_of_none hv nr1), upd_ne ntp]
          exact hv
        · rw [upd_ne npr.symm, upd_ne npr.symm, upd_same]
          rfl
end
end FW
set_option maxRecDepth 100000
set_option maxHeartbeats 4000000
set_option exponentiation.threshold 100000
/-! joined, turn_line. -/
namespace FW
open PySem PySem.Spec PyProof.Rows L2 Fm LamX
variable {n : Nat}
theorem sumF_abs : ∀ (n : Nat) (f : Fin n → Int) (M : Nat), (∀ i, (f i).natAbs ≤ M) → (sumF n f).natAbs ≤ n * M
  | 0, f, M, h => by simp [sumF]
  | n + 1, f, M, h => by
    have ih := sumF_abs n (fun i => f i.succ) M fun i => h _
    have h0 := h 0
    simp only [sumF]
    have := Int.natAbs_add_le (f 0) (sumF n fun i => f i.succ)
    rw [Nat.succ_mul]
    omega
theorem wd_dot {u v : Vec n} {a b : Nat} (hu : Wd a u) (hv : Wd b v) (hn : n ≤ 16) : (dot u v).natAbs < 2 ^ (a + b + 5) := by
  have h := sumF_abs n (fun i => u i * v i) (2 ^ (a + b)) fun i => Nat.le_of_lt (wd_mul (hu i) (hv i))
  have e : dot u v = sumF n (fun i => u i * v i) := rfl
  rw [e]
  refine Nat.lt_of_le_of_lt h ?_
  rw [Nat.pow_add (m := a + b)]
  have hp : 0 < 2 ^ (a + b) := Nat.two_pow_pos _
  calc n * 2 ^ (a + b) ≤ 16 * 2 ^ (a + b) := Nat.mul_le_mul_right _ hn
    _ < 2 ^ (a + b) * 2 ^ 5 := by rw [Nat.mul_comm]; exact Nat.mul_lt_mul_of_pos_left (by decide) hp
theorem pre_len {α β : Type} (f : α → List β) {l : List α} {i : Nat} {x : α} (h : l[i]? = some x) : ((l.take i).flatMap f).length + (f x).length ≤ (l.flatMap f).length := by
  obtain ⟨hi, rfl⟩ := List.getElem?_eq_some_iff.mp h
  have e : l = l.take i ++ l[i] :: l.drop (i + 1) := by
    rw [← List.drop_eq_getElem_cons hi, List.take_append_drop]
  have e2 : (l.flatMap f) = (l.take i).flatMap f ++ (f l[i] ++ (l.drop (i + 1)).flatMap f) := by
    conv => lhs; rw [e]
    rw [List.flatMap_append, List.flatMap_cons]
  rw [e2, List.length_append, List.length_append]
  omega
theorem take_snoc {α : Type} {l : List α} {i : Nat} {x : α} (h : l[i]? = some x) : l.take (i + 1) = l.take i ++ [x] := by
  rw [List.take_add_one, h, Option.toList_some]
/-! ### joined -/
def TripAt (a : Vec n) (H : Hp) (t : Addr) (r : Vec n × Nat) : Prop := ∃ x, H t = some (.tup [.ref x, .int (r.2 : Int), .int (dot a r.1)]) ∧ VecAt H x r.1
theorem TripAt.same {a : Vec n} {H H' : Hp} {t : Addr} {r : Vec n × Nat} (h : TripAt a H t r) (s : Same H H') : TripAt a H' t r := let ⟨x, e, v⟩ := h; ⟨x, s _ _ e, v.same s⟩
theorem TripAt.keep {a : Vec n} {H H' : Hp} {t D : Addr} {o : HO} {r : Vec n × Nat} (h : TripAt a H t r) (hD : H D = some o) (h1 : ∀ xs, o ≠ .tup xs) (h2 : ∀ v : Vec n, o ≠ .lst (il v)) (k : Kp D H H') : TripAt a H' t r := by
  obtain ⟨x, e, v⟩ := h
  exact ⟨x, k _ _ e (ne_of e hD fun z => h1 _ z.symm), k _ _ v (ne_of v hD fun z => h2 _ z.symm)⟩
def mkF (a : Vec n) (bit : Nat) (rays : List (Vec n × Nat)) (p : Vec n × Nat) (ns : List (Vec n × Nat)) : List (Vec n × Nat) := (ns.filter fun q => nbB rays p.1 q.1 (p.2 &&& q.2)).map fun q => (prim (mid a p.1 q.1), (p.2 &&& q.2) ||| bit)
theorem freshB_mk (a : Vec n) (bit : Nat) (rays : List (Vec n × Nat)) : freshB a bit rays = (possB a rays).flatMap fun p => mkF a bit rays p (negsB a rays) := rfl
theorem mkF_len (a : Vec n) (bit : Nat) (rays : List (Vec n × Nat)) (p : Vec n × Nat) (ns : List (Vec n × Nat)) (j : Nat) : (mkF a bit rays p (ns.take j)).length ≤ (mkF a bit rays p ns).length := by
  unfold mkF
  exact (((List.take_sublist j ns).filter _).map _).length_le
theorem mkF_yes {a : Vec n} {bit : Nat} {rays : List (Vec n × Nat)} {p q : Vec n × Nat} (h : nbB rays p.1 q.1 (p.2 &&& q.2) = true) (ns : List (Vec n × Nat)) : mkF a bit rays p (ns ++ [q]) = mkF a bit rays p ns ++ [(prim (mid a p.1 q.1), (p.2 &&& q.2) ||| bit)] := by
  unfold mkF
  rw [List.filter_append, List.map_append]
  simp [h]
theorem mkF_no {a : Vec n} {bit : Nat} {rays : List (Vec n × Nat)} {p q : Vec n × Nat} (h : nbB rays p.1 q.1 (p.2 &&& q.2) = false) (ns : List (Vec n × Nat)) : mkF a bit rays p (ns ++ [q]) = mkF a bit rays p ns := by
  unfold mkF
  rw [List.filter_append, List.map_append]
  simp [h]
section
variable {P : Program} {w : World} {K : PySem.W.Frag} {mg : Str → Option Value} {base : Heap}
theorem op_andN {X : Cx} : OpR X (binaryOp .BitAnd) (fun x y H Q => ∃ i j : Nat, x = .int (i : Int) ∧ y = .int (j : Int) ∧ Q (.int ((i &&& j : Nat) : Int)) H) := by
  intro pins s σ H x y v u Q I rx ry h
  obtain ⟨i, j, rfl, rfl, q⟩ := h
  rw [← and_nn] at q
  exact op_and pins s σ H _ _ v u Q I rx ry ⟨_, _, rfl, rfl, q⟩
theorem op_orN {X : Cx} : OpR X (binaryOp .BitOr) (fun x y H Q => ∃ i j : Nat, x = .int (i : Int) ∧ y = .int (j : Int) ∧ Q (.int ((i ||| j : Nat) : Int)) H) := by
  intro pins s σ H x y v u Q I rx ry h
  obtain ⟨i, j, rfl, rfl, q⟩ := h
  rw [← or_nn] at q
  exact op_or pins s σ H _ _ v u Q I rx ry ⟨_, _, rfl, rfl, q⟩
theorem op_shlP {X : Cx} : OpR X (binaryOp .LShift) (fun x y H Q => ∃ k : Nat, x = .int 1 ∧ y = .int (k : Int) ∧ k ≤ 134217727 ∧ Q (.int ((2 ^ k : Nat) : Int)) H) := by
  intro pins s σ H x y v u Q I rx ry h
  obtain ⟨k, rfl, rfl, hk, q⟩ := h
  rw [Int.natCast_pow] at q
  exact op_oneShl pins s σ H _ _ v u Q I rx ry ⟨k, rfl, rfl, hk, q⟩
abbrev nJn : List Str := ["self", "positive", "negative", "bit", "fresh", "one", "mask", "value", "other", "opposite", "below", "shared", "ray"]
theorem scJn : FnScope nJn ["self", "positive", "negative", "bit"] (defScope sJoin) := ⟨rfl, rfl, rfl, by decide +kernel, rfl, by decide +kernel, by decide +kernel⟩
def spJn (C : Addr) : Sp := fun vs H Q _ => ∃ (m : Nat) (a : Vec (m + 1)) (b : Bld (m + 1)) (p lp ln : Addr) (ps ns : List Addr) (bit : Nat), vs = [.ref p, .ref lp, .ref ln, .int (bit : Int)] ∧ Bld' C H p b ∧ m ≤ 15 ∧ Wd 200 a ∧ (∀ r ∈ b.rays, Wd 720 r.1) ∧ H lp = some (.lst (ps.map V.ref)) ∧ ItemsAt (TripAt a) H ps (possB a b.rays) ∧ H ln = some (.lst (ns.map V.ref)) ∧ ItemsAt (TripAt a) H ns (negsB a b.rays) ∧ (freshB a bit b.rays).length < sizeLine ∧
  ∀ H' D ts, Same H H' → H D = none → H' D = some (.lst (ts.map V.ref)) → ItemsAt RayAt H' ts (freshB a bit b.rays) → Q (.ref D) H'
structure DefAt (P : Program) (w : World) (K : PySem.W.Frag) (mg : Str → Option Value) (base : Heap) (k : Nat) (x : Str) (ps : List Str) (sp : Sp) (f : Addr) (fd : FuncData) : Prop where
  kp : PySem.W.keepIn K (.ref f) = true
  bd : Binds K fd ps []
  gl : mg x = some (.ref f)
  ok : FnOk P w K mg base CX0 k f fd ps sp
theorem pe_def {X : Cx} {k : Nat} {x : Str} {ps : List Str} {sp : Sp} {f : Addr} {fd : FuncData} {e : Expr} {es : List Expr} {t : TA} {p pos : Pos} (D : DefAt X.prog X.w X.K X.mg X.base k x ps sp f fd) {j : Nat} (hr : Room j X.A) (hk : k ≤ j) (hg : Gl X x) (ha : PA X (e :: es) t)
    (hdb : (x == ("__debug__" : Str)) = false := by decide) (he : starEach (e :: es) X.env = (false, eval e X.env) :: starEach es X.env := by rfl) (hpl : (backTo pos (starEach es X.env)).any (·.1) = false := by rfl) :
    PE X (.Call (.Name x p) (e :: es) [] pos) (tCall sp [] E0 t) := pe_call D.ok (hr.mono hk) hg D.gl D.kp D.bd .nil pass0 ha (hdb := hdb) (he := he) (hpl := hpl)
/-- a method at hand -/
structure MetAt (P : Program) (w : World) (K : PySem.W.Frag) (mg : Str → Option Value) (base : Heap) (k : Nat) (C : Addr) (m : Str) (ps : List Str) (sp : Sp) (f : Addr) (fd : FuncData) : Prop where
  me : Meth K C m f
  bd : Binds K fd ps []
  ok : FnOk P w K mg base CX0 k f fd ps sp
theorem ok_jn {f C fN fP fC : Addr} {fd fdN fdP fdC : FuncData} (F : Fun K "joined" "Builder.joined" sJoin f fd) (T : TxtB K C) (MN : MetAt P w K mg base 1 C "are_neighbours" ["self", "one", "other", "shared"] (spNb C) fN fdN)
    (DP : DefAt P w K mg base 2 "primitive" ["vector"] (spPrim K) fP fdP) (DC : DefAt P w K mg base 1 "combined" ["first", "vector", "second", "other"] (spComb K) fC fdC) : FnOk P w K mg base CX0 3 f fd ["self", "positive", "negative", "bit"] (spJn C) := by
  refine F.ok scJn (fun vs H Q E h => ?_) (fun cdv A outer s H vs Q E hr h => ?_)
  · obtain ⟨m, a, b, p, lp, ln, ps, ns, bit, rfl, _⟩ := h
    rfl
  · obtain ⟨m, a, b, p, lp, ln, ps, ns, bit, rfl, ⟨dx, l, r, ls, ts, B⟩, hm, ha, hbw, hlp, hps, hln, hns, hlen, q⟩ := h
    refine ⟨_, pss_cons (ps_set (i := 4) scJn.nd rfl (.inl rfl) (pe_lst pa_nil))
      (pss_cons (ps_for PassesOwn.never rfl (pi_list (pv 1)) (pg_tup rfl (pgs_cons (pg_name (i := 5) scJn.nd rfl (.inl rfl)) (pgs_cons (pg_name (i := 6) scJn.nd rfl (.inl rfl)) (pgs_cons (pg_name (i := 7) scJn.nd rfl (.inl rfl)) pgs_nil))))
        (pss_one (ps_for PassesOwn.never rfl (pi_list (pv 2)) (pg_tup rfl (pgs_cons (pg_name (i := 8) scJn.nd rfl (.inl rfl)) (pgs_cons (pg_name (i := 9) scJn.nd rfl (.inl rfl)) (pgs_cons (pg_name (i := 10) scJn.nd rfl (.inl rfl)) pgs_nil))))
          (pss_cons (ps_set (i := 11) scJn.nd rfl (.inl rfl) (pe_op op_andN (pv 6) (pv 9)))
          (pss_one (ps_if (pt_truth (pe_meth (pv 0) T.cl MN.me MN.ok (hr.mono (by decide)) MN.bd .nil pass0 (pa_cons (pv 5) (pa_cons (pv 8) (pa_cons (pv 11) pa_nil)))) (by intro _; rfl))
            (pss_cons (ps_set (i := 12) scJn.nd rfl (.inl rfl) (pe_def DP hr (by decide) (by rfl) (pa_cons (pe_def DC hr (by decide) (by rfl) (pa_cons (pv 7) (pa_cons (pv 8) (pa_cons (pe_un un_neg (pv 10)) (pa_cons (pv 5) pa_nil))))) pa_nil)))
            (pss_one (ps_expr (pe_bm PySem.F.plainAttrs_list PySem.F.slot_list_append PySem.F.type_list_append mt_append (pv 4) (pa_cons (pe_tup (pa_cons (pv 12) (pa_cons (pe_op op_orN (pv 11) (pv 3)) pa_nil))) pa_nil))))) pss_nil))))))
      (pss_one (ps_ret (pv 4)))), ?_⟩
    refine ⟨Nat.zero_le _, fun D nD => ?_⟩
    have sD : Same H (upd H D (.lst [])) := same_upd nD
    rw [freshB_mk] at hlen
    refine ⟨.ref lp, rfl, lp, rfl, ⟨_, SqL.of (sD _ _ hlp)⟩, for_list (K := K) (a := lp) (xs := ps.map V.ref) (fun i σ H3 => ∃ (y5 y6 y7 y8 y9 y10 y11 y12 : Option V) (us : List Addr), σ = [some (.ref p), some (.ref lp), some (.ref ln), some (.int (bit : Int)), some (.ref D), y5, y6, y7, y8, y9, y10, y11, y12] ∧ Same H H3 ∧ H3 D = some (.lst (us.map V.ref)) ∧
        ItemsAt RayAt H3 us (((possB a b.rays).take i).flatMap fun p => mkF a bit b.rays p (negsB a b.rays)))
      ⟨none, none, none, none, none, none, none, none, [], rfl, sD, upd_same, ItemsAt.nil⟩ (fun i σ H3 _ ⟨_, _, _, _, _, _, _, _, _, _, s3, _⟩ => SqL.of (s3 _ _ hlp)) ?_ ?_⟩
    · rintro i x σ H3 hi ⟨y5, y6, y7, y8, y9, y10, y11, y12, us, rfl, s3, hD, hus⟩
      obtain ⟨t1, ht1, rfl⟩ := refs_at hi
      obtain ⟨r1, hr1, x1, et1, va1⟩ := hps.of ht1
      have hpl := pre_len (fun p => mkF a bit b.rays p (negsB a b.rays)) hr1
      have w1 : Wd 720 r1.1 := hbw _ (List.mem_filter.mp (List.mem_of_getElem? hr1)).1
      have d1 : (dot a r1.1).natAbs < 2 ^ 925 := wd_dot ha w1 (by omega)
      rw [take_snoc hr1, List.flatMap_append, List.flatMap_singleton]
      generalize hPre : ((possB a b.rays).take i).flatMap (fun p => mkF a bit b.rays p (negsB a b.rays)) = pre at *
      refine ⟨t1, _, rfl, SqT.of (s3 _ _ et1), rfl, _, _, rfl, _, _, rfl, _, _, rfl, rfl, ?_⟩
      refine ⟨.ref ln, rfl, ln, rfl, ⟨_, SqL.of (s3 _ _ hln)⟩, for_list (K := K) (a := ln) (xs := ns.map V.ref) (fun j σ H4 => ∃ (y8 y9 y10 y11 y12 : Option V) (us : List Addr), σ = [some (.ref p), some (.ref lp), some (.ref ln), some (.int (bit : Int)), some (.ref D), some (.ref x1), some (.int (r1.2 : Int)), some (.int (dot a r1.1)), y8, y9, y10, y11, y12] ∧ Same H H4 ∧ H4 D = some (.lst (us.map V.ref)) ∧
          ItemsAt RayAt H4 us (pre ++ mkF a bit b.rays r1 ((negsB a b.rays).take j)))
        ⟨y8, y9, y10, y11, y12, us, rfl, s3, hD, by rw [List.take_zero]; show ItemsAt RayAt H3 us (pre ++ []); rw [List.append_nil]; exact hus⟩ (fun j σ H4 _ ⟨_, _, _, _, _, _, _, s4, _⟩ => SqL.of (s4 _ _ hln)) ?_ ?_⟩
      · rintro j x σ H4 hj ⟨y8, y9, y10, y11, y12, us, rfl, s4, hD4, hus4⟩
        obtain ⟨t2, ht2, rfl⟩ := refs_at hj
        obtain ⟨r2, hr2, x2, et2, va2⟩ := hns.of ht2
        have w2 : Wd 720 r2.1 := hbw _ (List.mem_filter.mp (List.mem_of_getElem? hr2)).1
        have d2 : (dot a r2.1).natAbs < 2 ^ 925 := wd_dot ha w2 (by omega)
        have d2' : (-(dot a r2.1)).natAbs < 2 ^ 925 := by rw [Int.natAbs_neg]; exact d2
        rw [take_snoc hr2]
        refine ⟨t2, _, rfl, SqT.of (s4 _ _ et2), rfl, _, _, rfl, _, _, rfl, _, _, rfl, rfl, ?_⟩
        refine ⟨_, rfl, _, rfl, _, _, rfl, rfl, ?_⟩
        have B4 : BldAt C H4 p b dx l r ls ts := B.same s4
        refine ⟨_, rfl, p, dx, _, rfl, B4.ob, bf_no _ _ _ (by decide +kernel) (by decide +kernel) (by decide +kernel), _, rfl, _, rfl, _, rfl, m + 1, b, p, x1, x2, r1.1, r2.1, r1.2 &&& r2.2, rfl, ⟨dx, l, r, ls, ts, B4⟩, va1.same s4, va2.same s4, _, rfl, ite2 (fun e => ?_) (fun e => ?_)⟩
        · have hlt : us.length < sizeLine := by
            rw [hus4.1, List.length_append]
            have := mkF_len a bit b.rays r1 (negsB a b.rays) j
            omega
          refine ⟨_, rfl, _, rfl, _, rfl, _, rfl, _, rfl, m + 1, dot a r1.1, -(dot a r2.1), r2.1, r1.1, x2, x1, rfl, va2.same s4, va1.same s4, wd_mono (by omega) d1, wd_mono (by omega) d2', w2.mono (by omega), w1.mono (by omega), by omega, fun H5 p5 s5 np5 hp5 => ?_⟩
          refine ⟨m + 1, _, p5, rfl, hp5, (wd_comb d1 w2 d2' w1 (e := 1645) (by omega) (by omega)).mono (by omega), by omega, fun H6 p6 s6 np6 hp6 => ?_⟩
          have sA : Same H4 H6 := s5.trans s6
          refine ⟨.ref D, rfl, .inl ⟨rfl, _, SqL.of (sA _ _ hD4)⟩, .ref p6, rfl, _, rfl, _, rfl, _, _, rfl, rfl, (show 2 ≤ sizeLine by decide), fun t nt => ?_⟩
          have nDt : D ≠ t := ne_of_none (sA _ _ hD4) nt
          have sB : Same H6 (upd H6 t (.tup [.ref p6, .int (((r1.2 &&& r2.2) ||| bit : Nat) : Int)])) := same_upd nt
          refine ⟨D, us.map V.ref, .ref t, rfl, rfl, sB _ _ (sA _ _ hD4), by rw [List.length_map]; exact hlt, ?_⟩
          refine ⟨_, _, _, _, _, us ++ [t], rfl, fun b o e => ?_, ?_, ?_⟩
          · rw [upd_ne (ne_of_none e nD)]
            exact sB _ _ (sA _ _ (s4 _ _ e))
          · rw [upd_same, List.map_append]
            rfl
          · rw [mkF_yes e, ← List.append_assoc]
            refine ((hus4.same (sA.trans sB)).append (ItemsAt.one ?_)).mono fun t' _ r' hr' => hr'.keep (sB _ _ (sA _ _ hD4)) (fun _ => lst_tup) lst_no Kp.upd
            refine ⟨p6, ?_, hp6.same sB⟩
            rw [upd_same]
        · have e' : nbB b.rays r1.1 r2.1 (r1.2 &&& r2.2) = false := by simpa using e
          refine ⟨_, _, _, _, _, us, rfl, s4, hD4, ?_⟩
          rw [mkF_no e']
          exact hus4
      · rintro σ H4 ⟨y8, y9, y10, y11, y12, us, rfl, s4, hD4, hus4⟩
        rw [List.take_of_length_le (by rw [List.length_map, hns.1]; exact Nat.le_refl _)] at hus4
        exact ⟨_, _, _, _, _, _, _, _, us, rfl, s4, hD4, hus4⟩
    · rintro σ H3 ⟨y5, y6, y7, y8, y9, y10, y11, y12, us, rfl, s3, hD, hus⟩
      rw [List.take_of_length_le (by rw [List.length_map, hps.1]; exact Nat.le_refl _)] at hus
      exact ⟨_, rfl, q H3 D us s3 nD hD hus⟩
end
end FW
set_option maxRecDepth 100000
set_option maxHeartbeats 4000000
set_option exponentiation.threshold 100000
/-! turn_line. -/
namespace FW
open PySem PySem.Spec PyProof.Rows L2 Fm LamX
variable {n : Nat}
theorem joinB {β : Type} {G : Prop} {NX : L2.St → Hp → Prop} {R : Hp → β → Prop} {σf : β → L2.St} (main : (∀ H6 p6, R H6 p6 → NX (σf p6) H6) → G) (tail : ∀ H6 p6, R H6 p6 → NX (σf p6) H6) : G := main tail
theorem cut_lo {xs : List V} {i : Nat} (h : i ≤ xs.length) : cutV xs none (some ((i : Nat) : Int)) = xs.take i := by
  unfold cutV
  rw [HT.sIx_none, HT.sIx_nat, Nat.min_eq_left h, List.drop_zero, Nat.sub_zero]
theorem cut_hi {xs : List V} {i : Nat} (h : i + 1 ≤ xs.length) : cutV xs (some (((i : Nat) : Int) + 1)) none = xs.drop (i + 1) := by
  unfold cutV
  have e : ((i : Nat) : Int) + 1 = ((i + 1 : Nat) : Int) := by omega
  rw [e, HT.sIx_none, HT.sIx_nat, Nat.min_eq_left h]
  exact List.take_of_length_le (by rw [List.length_drop]; exact Nat.le_refl _)
section
variable {P : Program} {w : World} {K : PySem.W.Frag} {mg : Str → Option Value} {base : Heap}
abbrev nTl : List Str := ["self", "condition", "at", "line", "value", "rest", "item", "other", "ray", "mask"]
theorem scTl : FnScope nTl ["self", "condition"] (defScope sTurn) := ⟨rfl, rfl, rfl, by decide +kernel, rfl, by decide +kernel, by decide +kernel⟩
/-- the builder after a turn at line i -/
def turned (a : Vec n) (i : Nat) (b : Bld n) : Bld n where
  lines := (restOf i b.lines).map (fun o => prim (moved a (orient a (b.lines.getD i zero)) o))
  rays := b.rays.map fun r => (prim (moved a (orient a (b.lines.getD i zero)) r.1), r.2)
  count := b.count
def spTl (C : Addr) : Sp := fun vs H Q _ => ∃ (m : Nat) (a : Vec (m + 1)) (b : Bld (m + 1)) (p c : Addr), vs = [.ref p, .ref c] ∧ Bld' C H p b ∧ VecAt H c a ∧ m ≤ 15 ∧ Wd 200 a ∧ (∀ r ∈ b.rays, Wd 720 r.1) ∧ (∀ l ∈ b.lines, Wd 720 l) ∧ b.rays.length ≤ sizeLine ∧ b.lines.length ≤ 100 ∧
  (turnIx a b.lines = none → ∀ H', Same H H' → Q .non H') ∧
  ∀ i, turnIx a b.lines = some i → ∀ H' l, Kp p H H' → VecAt H' l (orient a (b.lines.getD i zero)) → Bld' C H' p (turned a i b) → Q (.ref l) H'
theorem ok_tl {f C fD fP fC : Addr} {fd fdD fdP fdC : FuncData} (F : Fun K "turn_line" "Builder.turn_line" sTurn f fd) (T : TxtB K C) (mE : mg "enumerate" = none)
    (DD : DefAt P w K mg base 1 "dot" ["first", "second"] (spDot K) fD fdD) (DP : DefAt P w K mg base 2 "primitive" ["vector"] (spPrim K) fP fdP) (DC : DefAt P w K mg base 1 "combined" ["first", "vector", "second", "other"] (spComb K) fC fdC) : FnOk P w K mg base CX0 3 f fd ["self", "condition"] (spTl C) := by
  refine F.ok scTl (fun vs H Q E h => ?_) (fun cdv A outer s H vs Q E hr h => ?_)
  · obtain ⟨m, a, b, p, c, rfl, _⟩ := h
    rfl
  · obtain ⟨m, a, b, p, c, rfl, ⟨dx, l, r, ls, ts, B⟩, hc, hm, ha, hrw, hlw, hrl, hll, q0, q1⟩ := h
    refine ⟨_, pss_cons (ps_for PassesOwn.never rfl (pi_enum (by rfl) mE (pa_cons (pe_fld (pv 0) rfl) pa_nil)) (pg_tup rfl (pgs_cons (pg_name (i := 2) scTl.nd rfl (.inl rfl)) (pgs_cons (pg_name (i := 3) scTl.nd rfl (.inr rfl)) pgs_nil)))
        (pss_cons (ps_set (i := 4) scTl.nd rfl (.inr rfl) (pe_def DD hr (by decide) (by rfl) (pa_cons (pv 1) (pa_cons (pv 3) pa_nil))))
        (pss_one (ps_if (pt_cmpR op_ne (pv 4) pe_int (nomark _))
          (pss_cons (ps_if (pt_cmpR op_lt (pv 4) pe_int (nomark _))
            (pss_cons (ps_set (i := 3) scTl.nd rfl (.inr rfl) (pe_lc (own := [("item", 6)]) (g := gName 6) (tt := tYes) rfl scTl.nd (pi_list (pv 3)) (blkOk_by (N := nTl) (sc := defScope sTurn) (by decide +kernel))
              (fun _ _ _ _ _ => pg_name (i := 6) scTl.nd rfl (Or.inl rfl)) (fun _ _ _ _ _ => pts_nil) (fun _ _ _ _ _ => pe_un un_neg (pv 6))))
            (pss_one (ps_set (i := 4) scTl.nd rfl (.inr rfl) (pe_un un_neg (pv 4))))) pss_nil)
          (pss_cons (ps_set (i := 5) scTl.nd rfl (.inl rfl) (pe_op op_cat (pe_slice sl_list (pe_fld (pv 0) rfl) po_none (po_some (pv 2))) (pe_slice sl_list (pe_fld (pv 0) rfl) (po_some (pe_op op_add (pv 2) pe_int)) po_none)))
          (pss_cons (ps_fld (pv 0) (pe_lc (own := [("other", 7)]) (g := gName 7) (tt := tYes) rfl scTl.nd (pi_list (pv 5)) (blkOk_by (N := nTl) (sc := defScope sTurn) (by decide +kernel))
              (fun _ _ _ _ _ => pg_name (i := 7) scTl.nd rfl (Or.inl rfl)) (fun _ _ _ _ _ => pts_nil)
              (fun _ _ _ _ _ => pe_def DP hr (by decide) (by rfl) (pa_cons (pe_def DC hr (by decide) (by rfl) (pa_cons (pv 4) (pa_cons (pv 7) (pa_cons (pe_un un_neg (pe_def DD hr (by decide) (by rfl) (pa_cons (pv 1) (pa_cons (pv 7) pa_nil)))) (pa_cons (pv 3) pa_nil))))) pa_nil))) rfl)
          (pss_cons (ps_fld (pv 0) (pe_lc (own := [("ray", 8), ("mask", 9)]) (g := gTup K 2 (gCons (gName 8) (gCons (gName 9) gNil))) (tt := tYes) rfl scTl.nd (pi_list (pe_fld (pv 0) rfl)) (blkOk_by (N := nTl) (sc := defScope sTurn) (by decide +kernel))
              (fun _ _ _ _ _ => pg_tup rfl (pgs_cons (pg_name (i := 8) scTl.nd rfl (Or.inl rfl)) (pgs_cons (pg_name (i := 9) scTl.nd rfl (Or.inl rfl)) pgs_nil))) (fun _ _ _ _ _ => pts_nil)
              (fun _ _ _ _ _ => pe_tup (pa_cons (pe_def DP hr (by decide) (by rfl) (pa_cons (pe_def DC hr (by decide) (by rfl) (pa_cons (pv 4) (pa_cons (pv 8) (pa_cons (pe_un un_neg (pe_def DD hr (by decide) (by rfl) (pa_cons (pv 1) (pa_cons (pv 8) pa_nil)))) (pa_cons (pv 3) pa_nil))))) pa_nil)) (pa_cons (pv 9) pa_nil)))) rfl)
          (pss_one (ps_ret (pv 3)))))))
          pss_nil))))
      (pss_one (ps_ret pe_non)), ?_⟩
    refine ⟨.ref p, rfl, p, C, dx, _, _, rfl, B.ob, T.cl, T.nL, bf_lines _ _ _, l, ls.map V.ref, rfl, SqL.of B.ln, for_it walk_enum (fun i σ H3 => (∃ y2 y3 y4 y5 y6 y7 y8 y9 : Option V, σ = [some (.ref p), some (.ref c), y2, y3, y4, y5, y6, y7, y8, y9]) ∧ Same H H3 ∧ ∀ j v, j < i → b.lines[j]? = some v → dot a v = 0)
      ⟨⟨none, none, none, none, none, none, none, none, rfl⟩, Same.refl _, fun j v h => by omega⟩ (fun i σ H3 _ ⟨_, s3, _⟩ => SqL.of (s3 _ _ B.ln)) ?_ ?_⟩
    · rintro i x σ H3 H' hi ⟨⟨y2, y3, y4, y5, y6, y7, y8, y9, rfl⟩, s3, hz⟩ ⟨TT, x1, x2, rfl, nT, rfl, e1, e2⟩
      obtain rfl := Option.some.inj e1
      obtain ⟨lp, hlp, rfl⟩ := refs_at e2
      obtain ⟨v, hv, hva⟩ := B.lv.of hlp
      have hil : i < b.lines.length := (List.getElem?_eq_some_iff.mp hv).1
      have hlw' : Wd 720 v := hlw v (List.mem_of_getElem? hv)
      have sT : Same H3 (upd H3 TT (.tup [.int ((i : Nat) : Int), .ref lp])) := same_upd nT
      have s4 := s3.trans sT
      refine ⟨TT, _, rfl, SqT.of upd_same, rfl, _, _, rfl, _, _, rfl, rfl, ?_⟩
      refine ⟨.ref c, rfl, .ref lp, rfl, m + 1, a, v, c, lp, rfl, hc.same s4, hva.same s4, ha.mono (by omega), hlw'.mono (by omega), by omega, fun H5 s5' => ?_⟩
      have s5 : Same H H5 := s4.trans s5'
      refine ⟨_, rfl, rfl, _, rfl, ite2 (fun e => ?_) (fun e => ?_)⟩
      · have hne : dot a v ≠ 0 := fun z => by
          rw [z] at e
          simp at e
        have hix : turnIx a b.lines = some i := by
          unfold turnIx
          rw [List.findIdx?_eq_some_iff_getElem]
          obtain ⟨_, ev⟩ := List.getElem?_eq_some_iff.mp hv
          refine ⟨hil, by rw [ev]; simpa using hne, fun j hj => ?_⟩
          have := hz j _ hj (List.getElem?_eq_getElem (by omega))
          simp [this]
        have hgd : b.lines.getD i zero = v := by rw [List.getD_eq_getElem?_getD, hv]; rfl
        replace q1 := q1 i hix
        rw [hgd] at q1
        have how : Wd 720 (orient a v) := by
          rcases orient_cases a v with e | e
          · rw [e]; exact hlw'
          · rw [e]; exact hlw'.neg
        have hdw : (dot a (orient a v)).natAbs < 2 ^ 925 := wd_dot ha how (by omega)
        apply joinB (R := fun H6 (z : Addr × Int) => Same H5 H6 ∧ VecAt H6 z.1 (orient a v) ∧ z.2 = dot a (orient a v)) (σf := fun z => [some (.ref p), some (.ref c), some (.int ((i : Nat) : Int)), some (.ref z.1), some (.int z.2), y5, y6, y7, y8, y9])
        case main =>
          intro tail
          refine ⟨_, rfl, _, _, rfl, rfl, _, rfl, ite2 (fun e => ?_) (fun e => ?_)⟩
          · have hneg : dot a v < 0 := of_decide_eq_true e
            have hor : orient a v = neg v := by unfold orient; rw [if_pos hneg]
            refine ⟨.ref lp, rfl, lp, rfl, ⟨_, SqL.of (hva.same s5)⟩, fun D nD => ?_⟩
            refine lc_mk (walk_list (xs := il v)) (fun j y _ => ∃ h : j < m + 1, y = .int (neg v ⟨j, h⟩)) (fun i y H H' _ r => r) (fun H' s' => SqL.of (s' _ _ (hva.same s5))) nD (by rw [il_len]; exact Nat.le_trans (show m + 1 ≤ 16 by omega) (by decide)) ?_ (mono_name 6) ?_
            · rintro j x H1 H' Nx hi s1 _ ⟨rfl, hx⟩ cont
              obtain ⟨hi', rfl⟩ := il_at hx
              exact ⟨rfl, _, rfl, _, rfl, cont _ _ (Same.refl _) ⟨hi', rfl⟩⟩
            · intro H6 ys s7 hD hl hr
              refine ⟨_, rfl, _, rfl, tail H6 (D, -(dot a v)) ⟨s7, ?_, ?_⟩⟩
              · rw [hor]
                show H6 D = some (.lst (il (neg v)))
                rw [hD, il_of (v := neg v) (hl.trans (il_len _)) hr]
              · rw [hor, dot_neg]
          · have hneg : ¬ dot a v < 0 := fun z => e (decide_eq_true z)
            have hor : orient a v = v := by unfold orient; rw [if_neg hneg]
            exact tail H5 (lp, dot a v) ⟨Same.refl _, by rw [hor]; exact hva.same s5, by rw [hor]⟩
        case tail =>
          rintro H6 ⟨p6, z⟩ ⟨s6, hp6, rfl⟩
          have sA : Same H H6 := s5.trans s6
          generalize hor : orient a v = o at *
          have hc6 := hc.same sA
          have B6 := B.same sA
          refine ⟨.ref p, rfl, p, C, dx, _, _, rfl, B6.ob, T.cl, T.nL, bf_lines _ _ _, _, rfl, _, rfl, l, ls.map V.ref, rfl, SqL.of B6.ln, fun q1' nq1 => ?_⟩
          have t1 : Same H6 (upd H6 q1' (.lst (cutV (ls.map V.ref) none (some ((i : Nat) : Int))))) := same_upd nq1
          refine ⟨.ref p, rfl, p, C, dx, _, _, rfl, t1 _ _ B6.ob, T.cl, T.nL, bf_lines _ _ _, _, rfl, _, _, rfl, rfl, _, rfl, l, ls.map V.ref, rfl, SqL.of (t1 _ _ B6.ln), fun q2' nq2 => ?_⟩
          have t2 := same_upd (o := HO.lst (cutV (ls.map V.ref) (some (((i : Nat) : Int) + 1)) none)) nq2
          refine ⟨q1', q2', _, _, rfl, rfl, t2 _ _ upd_same, upd_same, ?_, fun q3 nq3 => ?_⟩
          · have := cutV_length (ls.map V.ref) none (some ((i : Nat) : Int))
            have := cutV_length (ls.map V.ref) (some (((i : Nat) : Int) + 1)) none
            rw [List.length_map, B.lv.1] at *
            exact Nat.le_trans (show _ ≤ 200 by omega) (by decide)
          have t3 := same_upd (o := HO.lst (cutV (ls.map V.ref) none (some ((i : Nat) : Int)) ++ cutV (ls.map V.ref) (some (((i : Nat) : Int) + 1)) none)) nq3
          have sB : Same H6 _ := (t1.trans t2).trans t3
          have hq3 : upd _ q3 _ q3 = some (HO.lst (cutV (ls.map V.ref) none (some ((i : Nat) : Int)) ++ cutV (ls.map V.ref) (some (((i : Nat) : Int) + 1)) none)) := upd_same (H := (upd (upd H6 q1' (.lst (cutV (ls.map V.ref) none (some ((i : Nat) : Int))))) q2' (HO.lst (cutV (ls.map V.ref) (some (((i : Nat) : Int) + 1)) none)))) (a := q3)
          generalize upd _ q3 _ = H7 at *
          rw [cut_lo (by rw [List.length_map, B.lv.1]; omega), cut_hi (by rw [List.length_map, B.lv.1]; omega), ← List.map_take, ← List.map_drop, ← List.map_append] at hq3
          have hrest : VecsAt H7 (ls.take i ++ ls.drop (i + 1)) (restOf i b.lines) := ((B6.lv.take i).append (B6.lv.drop (i + 1))).same sB
          generalize ls.take i ++ ls.drop (i + 1) = rs at *
          have hc7 := hc6.same sB
          have hp7 := hp6.same sB
          have B7 := B6.same sB
          have hrl7 : (restOf i b.lines).length ≤ 100 := by
            unfold restOf
            rw [List.length_append, List.length_take, List.length_drop]
            omega
          have hrw7 : ∀ u ∈ restOf i b.lines, Wd 720 u := fun u hu => by
            unfold restOf at hu
            rcases List.mem_append.mp hu with h | h
            · exact hlw u (List.mem_of_mem_take h)
            · exact hlw u (List.mem_of_mem_drop h)
          -- one moved vector
          have mv : ∀ (u : Vec (m + 1)) (Hx : Hp) (up : Addr) (Qx : VK), VecAt Hx c a → VecAt Hx p6 o → VecAt Hx up u → Wd 720 u → (∀ H' p', Same Hx H' → Hx p' = none → VecAt H' p' (prim (moved a o u)) → Qx (.ref p') H') →
              spDot K [.ref c, .ref up] Hx (fun v1 Hy => spComb K [.int (dot a o), .ref up, (match v1 with | .int k => .int (-k) | v => v), .ref p6] Hy (fun v2 Hz => spPrim K [v2] Hz Qx E0) E0) E0 := fun u Hx up Qx hcx hpx hu wu kx => by
            refine ⟨m + 1, a, u, c, up, rfl, hcx, hu, ha.mono (by omega), wu.mono (by omega), by omega, fun Hy sy => ?_⟩
            have du : (dot a u).natAbs < 2 ^ 925 := wd_dot ha wu (by omega)
            have du' : (-(dot a u)).natAbs < 2 ^ 925 := by rw [Int.natAbs_neg]; exact du
            refine ⟨m + 1, _, _, u, o, up, p6, rfl, hu.same sy, hpx.same sy, wd_mono (by omega) hdw, wd_mono (by omega) du', wu.mono (by omega), how.mono (by omega), by omega, fun Hz p1 sz np1 hp1 => ?_⟩
            refine ⟨m + 1, _, p1, rfl, hp1, (wd_comb hdw wu du' how (e := 1645) (by omega) (by omega)).mono (by omega), by omega, fun H' p' s' np' hp' => ?_⟩
            exact kx H' p' ((sy.trans sz).trans s') (same_none (sy.trans sz) np') hp'
          refine ⟨.ref q3, rfl, q3, rfl, ⟨_, SqL.of hq3⟩, fun D nD => ?_⟩
          refine lc_mk (walk_list (xs := rs.map V.ref)) (fun j y H => ∃ p' u, y = V.ref p' ∧ (restOf i b.lines)[j]? = some u ∧ p' ≠ D ∧ VecAt H p' (prim (moved a o u))) (fun i y H H' k ⟨p, f, e1, e2, e3, e4⟩ => ⟨p, f, e1, e2, e3, k _ _ e4 e3⟩) (fun H' s' => SqL.of (s' _ _ hq3)) nD (by rw [List.length_map, hrest.1]; exact Nat.le_trans hrl7 (by decide)) ?_ (mono_name 7) ?_
          · rintro j x H1 H' Nx hj s1 ⟨ob, hDo⟩ ⟨rfl, hx⟩ cont
            obtain ⟨up, hup, rfl⟩ := refs_at hx
            obtain ⟨u, hu, hua⟩ := hrest.of hup
            refine ⟨rfl, _, rfl, _, rfl, _, rfl, _, rfl, ?_⟩
            obtain ⟨m', a', u', c', up', g1, g2, g3, g4, g5, g6, g7⟩ := mv u H' up (fun y H4 => ∃ acc, H4 D = some (.lst acc) ∧ acc.length < sizeLine ∧ Nx (upd H4 D (.lst (acc ++ [y])))) (hc7.same s1) (hp7.same s1) (hua.same s1) (hrw7 u (List.mem_of_getElem? hu)) (fun H2 p' s' np' hp' => cont (.ref p') H2 s' ⟨p', u, rfl, hu, (ne_of_none hDo np').symm, hp'⟩)
            exact ⟨m', a', u', c', up', g1, g2, g3, g4, g5, g6, fun Hy sy => ⟨_, rfl, _, rfl, g7 Hy sy⟩⟩
          · intro H8 ys s8 hD hlen hr
            obtain ⟨ls', rfl, hls'⟩ := vecs_of (H := H8) (vs := (restOf i b.lines).map fun u => prim (moved a o u)) (ys := ys) (by rw [hlen, List.length_map, List.length_map, hrest.1]) (fun i y e => by
              obtain ⟨p, f, rfl, e2, _, e4⟩ := hr i y e
              exact ⟨p, _, rfl, by rw [List.getElem?_map, e2]; rfl, e4⟩)
            have ob8 : H8 p = some (.ins C dx (bf l r (b.count : Int))) := s8 _ _ B7.ob
            refine ⟨_, rfl, p, C, dx, _, rfl, ob8, T.cl, T.nL, (show 3 < 1000 by decide), ?_⟩
            have k9 : Kp p H8 (upd H8 p (.ins C dx (putF "lines" (V.ref D) (bf l r (b.count : Int))))) := Kp.upd
            have ob9 : upd H8 p (.ins C dx (putF "lines" (V.ref D) (bf l r (b.count : Int)))) p = some (.ins C dx (bf D r (b.count : Int))) := by rw [upd_same, bf_putL]
            generalize upd H8 p _ = H9 at *
            have rl8 := s8 _ _ B7.rl
            have rl9 : H9 r = some (.lst (ts.map V.ref)) := k9 _ _ rl8 (ne_of rl8 ob8 fun z => by cases z)
            have rv9 : ItemsAt RayAt H9 ts b.rays := (B7.rv.same s8).mono fun t _ q h => h.keep ob8 (fun _ => ins_tup) ins_no k9
            have hc9 : VecAt H9 c a := (hc7.same s8).keep ob8 ins_no k9
            have hp9 : VecAt H9 p6 o := (hp7.same s8).keep ob8 ins_no k9
            have ln9 : H9 D = some (.lst (ls'.map V.ref)) := k9 _ _ hD (ne_of hD ob8 fun z => by cases z)
            have lv9 := hls'.mono fun p _ v h => h.keep ob8 ins_no k9
            refine ⟨.ref p, rfl, p, C, dx, _, _, rfl, ob9, T.cl, T.nR, bf_rays _ _ _, r, rfl, ⟨_, SqL.of rl9⟩, fun D2 nD2 => ?_⟩
            refine lc_mk (walk_list (xs := ts.map V.ref)) (fun j y H => ∃ t x q, y = V.ref t ∧ b.rays[j]? = some q ∧ t ≠ D2 ∧ x ≠ D2 ∧ H t = some (.tup [.ref x, .int (q.2 : Int)]) ∧ VecAt H x (prim (moved a o q.1))) (fun i y H H' k ⟨t, x, q, e1, e2, e3, e4, e5, e6⟩ => ⟨t, x, q, e1, e2, e3, e4, k _ _ e5 e3, k _ _ e6 e4⟩) (fun H' s' => SqL.of (s' _ _ rl9)) nD2 (by rw [List.length_map, rv9.1]; exact hrl) ?_ (mono_tup2 K 8 9) ?_
            · rintro j x H1 H' Nx hj s1 ⟨ob, hDo⟩ ⟨rfl, hx⟩ cont
              obtain ⟨t, ht, rfl⟩ := refs_at hx
              obtain ⟨qr, hqr, xa, et, va⟩ := rv9.of ht
              refine ⟨t, _, rfl, SqT.of (s1 _ _ et), rfl, _, _, rfl, _, _, rfl, rfl, rfl, _, rfl, _, rfl, _, rfl, _, rfl, ?_⟩
              obtain ⟨m', a', u', c', up', g1, g2, g3, g4, g5, g6, g7⟩ := mv qr.1 H' xa (fun y H4 => ∃ x9, some (some (V.int (qr.2 : Int))) = some (some x9) ∧ [y, x9].length ≤ sizeLine ∧ ∀ tt, H4 tt = none → ∃ acc, upd H4 tt (.tup [y, x9]) D2 = some (.lst acc) ∧ acc.length < sizeLine ∧ Nx (upd (upd H4 tt (.tup [y, x9])) D2 (.lst (acc ++ [V.ref tt]))))
                (hc9.same s1) (hp9.same s1) (va.same s1) (hrw _ (List.mem_of_getElem? hqr)) (fun H2 p' s' np' hp' => ⟨_, rfl, (show 2 ≤ sizeLine by decide), fun tt ntt => cont (.ref tt) _ (s'.trans (same_upd ntt)) ⟨tt, p', qr, rfl, hqr, (ne_of_none (s' _ _ hDo) ntt).symm, (ne_of_none hDo np').symm, upd_same, hp'.same (same_upd ntt)⟩⟩)
              exact ⟨m', a', u', c', up', g1, g2, g3, g4, g5, g6, fun Hy sy => ⟨_, rfl, _, rfl, g7 Hy sy⟩⟩
            · intro H10 ys s10 hD2 hlen2 hr2
              obtain ⟨ts', rfl, hts'⟩ := items_of (R := RayAt) (H := H10) (xs := b.rays.map fun q => (prim (moved a o q.1), q.2)) (zs := ys) (by rw [hlen2, List.length_map, List.length_map, rv9.1]) (fun i y e => by
                obtain ⟨t, x, q, rfl, e2, _, _, e5, e6⟩ := hr2 i y e
                exact ⟨t, (prim (moved a o q.1), q.2), rfl, by rw [List.getElem?_map, e2]; rfl, x, e5, e6⟩)
              have ob10 := s10 _ _ ob9
              refine ⟨_, rfl, p, C, dx, _, rfl, ob10, T.cl, T.nR, (show 3 < 1000 by decide), ?_⟩
              have k11 : Kp p H10 (upd H10 p (.ins C dx (putF "rays" (V.ref D2) (bf D r (b.count : Int))))) := Kp.upd
              have ob11 : upd H10 p (.ins C dx (putF "rays" (V.ref D2) (bf D r (b.count : Int)))) p = some (.ins C dx (bf D D2 (b.count : Int))) := by rw [upd_same, bf_putR]
              generalize upd H10 p _ = H11 at *
              refine ⟨_, rfl, q1 H11 p6 ?_ ((hp9.same s10).keep ob10 ins_no k11) ⟨dx, D, D2, ls', ts', ?_⟩⟩
              · intro b' o' e hb
                exact k11 _ _ (s10 _ _ (k9 _ _ (s8 _ _ (sB _ _ (sA _ _ e))) hb)) hb
              · have hln := s10 _ _ ln9
                refine ⟨ob11, k11 _ _ hln (ne_of hln ob10 fun z => by cases z), ?_, k11 _ _ hD2 (ne_of hD2 ob10 fun z => by cases z), ?_⟩
                · unfold turned
                  rw [hgd, hor]
                  exact (lv9.same s10).mono fun p _ v h => h.keep ob10 ins_no k11
                · unfold turned
                  rw [hgd, hor]
                  exact hts'.mono fun t _ q h => h.keep ob10 (fun _ => ins_tup) ins_no k11
      · have h0 : dot a v = 0 := Classical.byContradiction fun z => e (by simp [z])
        refine ⟨⟨_, _, _, _, _, _, _, _, rfl⟩, s5, fun j w hj hw => ?_⟩
        by_cases hji : j < i
        · exact hz j w hji hw
        · have : j = i := by omega
          subst this
          rw [hv] at hw
          cases hw
          exact h0
    · rintro σ H3 ⟨⟨y2, y3, y4, y5, y6, y7, y8, y9, rfl⟩, s3, hz⟩
      refine q0 ?_ H3 s3
      unfold turnIx
      rw [List.findIdx?_eq_none_iff]
      intro v hv
      obtain ⟨j, hj⟩ := List.getElem?_of_mem hv
      have := hz j v (by rw [List.length_map, B.lv.1]; exact (List.getElem?_eq_some_iff.mp hj).1) hj
      simp [this]
end
end FW
set_option maxRecDepth 100000
set_option maxHeartbeats 4000000
set_option exponentiation.threshold 100000
/-! add. -/
namespace FW
open PySem PySem.Spec PyProof.Rows L2 Fm LamX
variable {n : Nat}
theorem possB_snoc (a : Vec n) {l : List (Vec n × Nat)} {i : Nat} {r : Vec n × Nat} (h : l[i]? = some r) : possB a (l.take (i + 1)) = possB a (l.take i) ++ (if 0 < dot a r.1 then [r] else []) := by
  unfold possB
  rw [take_snoc h, List.filter_append]
  by_cases e : 0 < dot a r.1 <;> simp [e]
theorem negsB_snoc (a : Vec n) {l : List (Vec n × Nat)} {i : Nat} {r : Vec n × Nat} (h : l[i]? = some r) : negsB a (l.take (i + 1)) = negsB a (l.take i) ++ (if dot a r.1 < 0 then [r] else []) := by
  unfold negsB
  rw [take_snoc h, List.filter_append]
  by_cases e : dot a r.1 < 0 <;> simp [e]
theorem keptB_snoc (a : Vec n) (bit : Nat) {l : List (Vec n × Nat)} {i : Nat} {r : Vec n × Nat} (h : l[i]? = some r) : keptB a bit (l.take (i + 1)) = keptB a bit (l.take i) ++ (if dot a r.1 = 0 then [(r.1, r.2 ||| bit)] else []) := by
  unfold keptB
  rw [take_snoc h, List.filter_append, List.map_append]
  by_cases e : dot a r.1 = 0 <;> simp [e]
theorem possB_len (a : Vec n) (l : List (Vec n × Nat)) (i : Nat) : (possB a (l.take i)).length ≤ l.length := Nat.le_trans (List.length_filter_le _ _) (by rw [List.length_take]; omega)
theorem negsB_len (a : Vec n) (l : List (Vec n × Nat)) (i : Nat) : (negsB a (l.take i)).length ≤ l.length := Nat.le_trans (List.length_filter_le _ _) (by rw [List.length_take]; omega)
theorem keptB_len (a : Vec n) (bit : Nat) (l : List (Vec n × Nat)) (i : Nat) : (keptB a bit (l.take i)).length ≤ l.length := by
  unfold keptB
  rw [List.length_map]
  exact Nat.le_trans (List.length_filter_le _ _) (by rw [List.length_take]; omega)
theorem add_some {a : Vec n} {ex : Bool} {b : Bld n} {i : Nat} (h : turnIx a b.lines = some i) : add a ex b = ⟨(turned a i b).lines, ((turned a i b).rays.map fun r => (r.1, r.2 ||| 2 ^ b.count)) ++ (if ex then [] else [(orient a (b.lines.getD i zero), 2 ^ b.count - 1)]), b.count + 1⟩ := by
  unfold add turned
  rw [h]
  simp only [List.map_map]
  rfl
theorem add_none {a : Vec n} {ex : Bool} {b : Bld n} (h : turnIx a b.lines = none) : add a ex b = ⟨b.lines, (keptB a (2 ^ b.count) b.rays ++ if ex then [] else possB a b.rays) ++ freshB a (2 ^ b.count) b.rays, b.count + 1⟩ := by
  unfold add
  rw [h]
section
variable {P : Program} {w : World} {K : PySem.W.Frag} {mg : Str → Option Value} {base : Heap}
abbrev nAdd : List Str := ["self", "condition", "exact", "line", "bit", "ray", "mask", "positive", "negative", "kept", "value", "fresh", "_"]
theorem scAdd : FnScope nAdd ["self", "condition", "exact"] (defScope sAdd) := ⟨rfl, rfl, rfl, by decide +kernel, rfl, by decide +kernel, by decide +kernel⟩
def spAdd (C : Addr) : Sp := fun vs H Q _ => ∃ (m : Nat) (a : Vec (m + 1)) (b : Bld (m + 1)) (p c : Addr) (ex : Bool), vs = [.ref p, .ref c, .bl ex] ∧ Bld' C H p b ∧ VecAt H c a ∧ m ≤ 15 ∧ Wd 200 a ∧ (∀ r ∈ b.rays, Wd 720 r.1) ∧ (∀ l ∈ b.lines, Wd 720 l) ∧ b.rays.length < sizeLine ∧ b.lines.length ≤ 100 ∧ b.count ≤ 1000 ∧ (add a ex b).rays.length < sizeLine ∧
  ∀ H', Kp p H H' → Bld' C H' p (add a ex b) → Q .non H'
theorem ok_add {f C fT fJ fD : Addr} {fd fdT fdJ fdD : FuncData} (F : Fun K "add" "Builder.add" sAdd f fd) (T : TxtB K C) (MT : MetAt P w K mg base 3 C "turn_line" ["self", "condition"] (spTl C) fT fdT) (MJ : MetAt P w K mg base 3 C "joined" ["self", "positive", "negative", "bit"] (spJn C) fJ fdJ)
    (DD : DefAt P w K mg base 1 "dot" ["first", "second"] (spDot K) fD fdD) : FnOk P w K mg base CX0 4 f fd ["self", "condition", "exact"] (spAdd C) := by
  refine F.ok scAdd (fun vs H Q E h => ?_) (fun cdv A outer s H vs Q E hr h => ?_)
  · obtain ⟨m, a, b, p, c, ex, rfl, _⟩ := h
    rfl
  · obtain ⟨m, a, b, p, c, ex, rfl, ⟨dx, l, r, ls, ts, B⟩, hc, hm, ha, hrw, hlw, hrl, hll, hct, hres, q⟩ := h
    refine ⟨_, pss_cons (ps_set (i := 3) scAdd.nd rfl (.inl rfl) (pe_meth (pv 0) T.cl MT.me MT.ok hr MT.bd .nil pass0 (pa_cons (pv 1) pa_nil)))
      (pss_cons (ps_set (i := 4) scAdd.nd rfl (.inr rfl) (pe_op op_shlP pe_int (pe_fld (pv 0) rfl)))
      (pss_cons (ps_fldaug (pv 0) pe_int in_add)
      (pss_cons (ps_if (pt_cmpR op_notN (pv 3) pe_non (nomark _))
        (pss_cons (ps_fld (pv 0) (pe_lc (own := [("ray", 5), ("mask", 6)]) (g := gTup K 2 (gCons (gName 5) (gCons (gName 6) gNil))) (tt := tYes) rfl scAdd.nd (pi_list (pe_fld (pv 0) rfl)) (blkOk_by (N := nAdd) (sc := defScope sAdd) (by decide +kernel))
              (fun _ _ _ _ _ => pg_tup rfl (pgs_cons (pg_name (i := 5) scAdd.nd rfl (Or.inl rfl)) (pgs_cons (pg_name (i := 6) scAdd.nd rfl (Or.inl rfl)) pgs_nil))) (fun _ _ _ _ _ => pts_nil)
              (fun _ _ _ _ _ => pe_tup (pa_cons (pv 5) (pa_cons (pe_op op_orN (pv 6) (pv 4)) pa_nil)))) rfl)
        (pss_cons (ps_if (pt_not (pt_truth (pv 2) (by intro _; rfl))) (pss_one (ps_expr (pe_bm PySem.F.plainAttrs_list PySem.F.slot_list_append PySem.F.type_list_append mt_append (pe_fld (pv 0) rfl) (pa_cons (pe_tup (pa_cons (pv 3) (pa_cons (pe_op op_sub (pv 4) pe_int) pa_nil))) pa_nil)))) pss_nil)
        (pss_one ps_retN))) pss_nil)
      (pss_cons (ps_set (i := 7) scAdd.nd rfl (.inl rfl) (pe_lst pa_nil))
      (pss_cons (ps_set (i := 8) scAdd.nd rfl (.inl rfl) (pe_lst pa_nil))
      (pss_cons (ps_set (i := 9) scAdd.nd rfl (.inl rfl) (pe_lst pa_nil))
      (pss_cons (ps_for PassesOwn.never rfl (pi_list (pe_fld (pv 0) rfl)) (pg_tup rfl (pgs_cons (pg_name (i := 5) scAdd.nd rfl (.inl rfl)) (pgs_cons (pg_name (i := 6) scAdd.nd rfl (.inl rfl)) pgs_nil)))
        (pss_cons (ps_set (i := 10) scAdd.nd rfl (.inl rfl) (pe_def DD hr (by decide) (by rfl) (pa_cons (pv 1) (pa_cons (pv 5) pa_nil))))
        (pss_one (ps_if (pt_cmpR op_eq (pv 10) pe_int (nomark _))
          (pss_one (ps_expr (pe_bm PySem.F.plainAttrs_list PySem.F.slot_list_append PySem.F.type_list_append mt_append (pv 9) (pa_cons (pe_tup (pa_cons (pv 5) (pa_cons (pe_op op_orN (pv 6) (pv 4)) pa_nil))) pa_nil))))
          (pss_one (ps_if (pt_cmpR op_gt (pv 10) pe_int (nomark _))
            (pss_one (ps_expr (pe_bm PySem.F.plainAttrs_list PySem.F.slot_list_append PySem.F.type_list_append mt_append (pv 7) (pa_cons (pe_tup (pa_cons (pv 5) (pa_cons (pv 6) (pa_cons (pv 10) pa_nil)))) pa_nil))))
            (pss_one (ps_expr (pe_bm PySem.F.plainAttrs_list PySem.F.slot_list_append PySem.F.type_list_append mt_append (pv 8) (pa_cons (pe_tup (pa_cons (pv 5) (pa_cons (pv 6) (pa_cons (pv 10) pa_nil)))) pa_nil)))))))))) 
      (pss_cons (ps_set (i := 11) scAdd.nd rfl (.inl rfl) (pe_meth (pv 0) T.cl MJ.me MJ.ok hr MJ.bd .nil pass0 (pa_cons (pv 7) (pa_cons (pv 8) (pa_cons (pv 4) pa_nil)))))
      (pss_cons (ps_if (pt_not (pt_truth (pv 2) (by intro _; rfl))) (pss_one (ps_set (i := 9) scAdd.nd rfl (.inl rfl) (pe_op op_cat (pv 9) (pe_lc (own := [("ray", 5), ("mask", 6), ("_", 12)]) (g := gTup K 3 (gCons (gName 5) (gCons (gName 6) (gCons (gName 12) gNil)))) (tt := tYes) rfl scAdd.nd (pi_list (pv 7)) (blkOk_by (N := nAdd) (sc := defScope sAdd) (by decide +kernel))
              (fun _ _ _ _ _ => pg_tup rfl (pgs_cons (pg_name (i := 5) scAdd.nd rfl (Or.inl rfl)) (pgs_cons (pg_name (i := 6) scAdd.nd rfl (Or.inl rfl)) (pgs_cons (pg_name (i := 12) scAdd.nd rfl (Or.inl rfl)) pgs_nil)))) (fun _ _ _ _ _ => pts_nil)
              (fun _ _ _ _ _ => pe_tup (pa_cons (pv 5) (pa_cons (pv 6) pa_nil))))))) pss_nil)
      (pss_one (ps_fld (pv 0) (pe_op op_cat (pv 9) (pv 11)) rfl))))))))))), ?_⟩
    refine ⟨.ref p, rfl, p, dx, _, rfl, B.ob, bf_no _ _ _ (by decide +kernel) (by decide +kernel) (by decide +kernel), .ref c, rfl, m, a, b, p, c, rfl, ⟨dx, l, r, ls, ts, B⟩, hc, hm, ha, hrw, hlw, by omega, hll, fun hix H1 s1 => ?_, fun i hix H1 lp k1 hlp B1 => ?_⟩
    · -- no line turns
      have B1 := B.same s1
      rw [add_none hix] at q hres
      have ecast : ((b.count : Nat) : Int) + 1 = ((b.count + 1 : Nat) : Int) := by omega
      refine ⟨.ref p, rfl, p, C, dx, _, _, rfl, B1.ob, T.cl, T.nC, bf_count _ _ _, b.count, rfl, rfl, by omega, ?_⟩
      refine ⟨.ref p, rfl, p, C, dx, _, _, rfl, B1.ob, T.cl, T.nC, bf_count _ _ _, _, _, rfl, rfl, dx, _, B1.ob, (show 3 < 1000 by decide), ?_⟩
      have k2 : Kp p H1 (upd H1 p (.ins C dx (putF "count" (V.int (((b.count : Nat) : Int) + 1)) (bf l r ((b.count : Nat) : Int))))) := Kp.upd
      have ob2 : upd H1 p (.ins C dx (putF "count" (V.int (((b.count : Nat) : Int) + 1)) (bf l r ((b.count : Nat) : Int)))) p = some (.ins C dx (bf l r ((b.count + 1 : Nat) : Int))) := by rw [upd_same, bf_putC, ecast]
      generalize upd H1 p _ = H2 at *
      have hc2 : VecAt H2 c a := (hc.same s1).keep B1.ob ins_no k2
      have B2 : BldAt C H2 p (⟨b.lines, b.rays, b.count + 1⟩ : Bld (m + 1)) dx l r ls ts := ⟨ob2, k2 _ _ B1.ln (ne_of B1.ln B1.ob fun z => by cases z), B1.lv.mono fun _ _ _ h => h.keep B1.ob ins_no k2, k2 _ _ B1.rl (ne_of B1.rl B1.ob fun z => by cases z), B1.rv.mono fun _ _ _ h => h.keep B1.ob (fun _ => ins_tup) ins_no k2⟩
      have kH2 : Kp p H H2 := fun b' o' e hb => k2 _ _ (s1 _ _ e) hb
      refine ⟨.non, rfl, rfl, _, rfl, ite2 (fun e => by simp at e) (fun _ => ?_)⟩
      refine ⟨Nat.zero_le _, fun Dp nDp => ⟨Nat.zero_le _, fun Dn nDn => ⟨Nat.zero_le _, fun Dk nDk => ?_⟩⟩⟩
      have nDn2 : H2 Dn = none := same_none (same_upd nDp) nDn
      have nDk2 : H2 Dk = none := same_none ((same_upd nDp).trans (same_upd nDn)) nDk
      have npn : Dp ≠ Dn := ne_of_none upd_same nDn
      have npk : Dp ≠ Dk := ne_of_none (same_upd nDn _ _ upd_same) nDk
      have nnk : Dn ≠ Dk := ne_of_none upd_same nDk
      have s3 : Same H2 (upd (upd (upd H2 Dp (.lst [])) Dn (.lst [])) Dk (.lst [])) := ((same_upd nDp).trans (same_upd nDn)).trans (same_upd nDk)
      have hp3 : upd (upd (upd H2 Dp (.lst [])) Dn (.lst [])) Dk (.lst []) Dp = some (.lst []) := same_upd nDk _ _ (same_upd nDn _ _ upd_same)
      have hn3 : upd (upd (upd H2 Dp (.lst [])) Dn (.lst [])) Dk (.lst []) Dn = some (.lst []) := same_upd nDk _ _ upd_same
      have hk3 : upd (upd (upd H2 Dp (.lst [])) Dn (.lst [])) Dk (.lst []) Dk = some (.lst []) := upd_same
      generalize upd (upd (upd H2 Dp (.lst [])) Dn (.lst [])) Dk (.lst []) = H3 at *
      have B3 := B2.same s3
      refine ⟨.ref p, rfl, p, C, dx, _, _, rfl, B3.ob, T.cl, T.nR, bf_rays _ _ _, r, rfl, ⟨_, SqL.of B3.rl⟩, for_list (K := K) (a := r) (xs := ts.map V.ref) (fun i σ H4 => ∃ (y5 y6 y10 y11 y12 : Option V) (ps ns ks : List Addr), σ = [some (.ref p), some (.ref c), some (.bl ex), some .non, some (.int ((2 ^ b.count : Nat) : Int)), y5, y6, some (.ref Dp), some (.ref Dn), some (.ref Dk), y10, y11, y12] ∧ Same H2 H4 ∧
          H4 Dp = some (.lst (ps.map V.ref)) ∧ ItemsAt (TripAt a) H4 ps (possB a (b.rays.take i)) ∧ H4 Dn = some (.lst (ns.map V.ref)) ∧ ItemsAt (TripAt a) H4 ns (negsB a (b.rays.take i)) ∧ H4 Dk = some (.lst (ks.map V.ref)) ∧ ItemsAt RayAt H4 ks (keptB a (2 ^ b.count) (b.rays.take i)))
        ⟨none, none, none, none, none, [], [], [], rfl, s3, hp3, ItemsAt.nil, hn3, ItemsAt.nil, hk3, ItemsAt.nil⟩ (fun i σ H4 _ ⟨_, _, _, _, _, _, _, _, _, s4, _⟩ => SqL.of (s4 _ _ B2.rl)) ?_ ?_⟩
      · rintro i x σ H4 hi ⟨y5, y6, y10, y11, y12, ps, ns, ks, rfl, s4, hp4, ip4, hn4, in4, hk4, ik4⟩
        obtain ⟨t, ht, rfl⟩ := refs_at hi
        obtain ⟨ry, hry, xa, et, va⟩ := B2.rv.of ht
        have wr := hrw _ (List.mem_of_getElem? hry)
        refine ⟨t, _, rfl, SqT.of (s4 _ _ et), rfl, _, _, rfl, _, _, rfl, rfl, ?_⟩
        refine ⟨.ref c, rfl, .ref xa, rfl, m + 1, a, ry.1, c, xa, rfl, hc2.same s4, va.same s4, ha.mono (by omega), wr.mono (by omega), by omega, fun H5 s5 => ?_⟩
        have va5 : VecAt H5 xa ry.1 := (va.same s4).same s5
        have s25 : Same H2 H5 := s4.trans s5
        refine ⟨_, rfl, rfl, _, rfl, ite2 (fun e => ?_) (fun e => ?_)⟩
        · have h0 : dot a ry.1 = 0 := by simpa using e
          refine ⟨.ref Dk, rfl, .inl ⟨rfl, _, SqL.of (s5 _ _ hk4)⟩, .ref xa, rfl, _, rfl, _, rfl, _, _, rfl, rfl, (show 2 ≤ sizeLine by decide), fun tt ntt => ?_⟩
          have st : Same H5 (upd H5 tt (.tup [.ref xa, .int ((ry.2 ||| 2 ^ b.count : Nat) : Int)])) := same_upd ntt
          refine ⟨Dk, ks.map V.ref, .ref tt, rfl, rfl, st _ _ (s5 _ _ hk4), ?_, ?_⟩
          · rw [List.length_map, ik4.1]
            exact Nat.lt_of_le_of_lt (keptB_len _ _ _ _) hrl
          have hk5 := st _ _ (s5 _ _ hk4)
          have hp5 := st _ _ (s5 _ _ hp4)
          have hn5 := st _ _ (s5 _ _ hn4)
          refine ⟨_, _, _, _, _, ps, ns, ks ++ [tt], rfl, fun b o e => ?_, ?_, ?_, ?_, ?_, ?_, ?_⟩
          · rw [upd_ne (ne_of_none e nDk2)]
            exact st _ _ (s25 _ _ e)
          · rw [upd_ne npk]; exact hp5
          · rw [possB_snoc a hry, if_neg (by omega), List.append_nil]
            exact (ip4.mono fun _ _ _ h => h.same (s5.trans st)).mono fun _ _ _ h => h.keep hk5 (fun _ => lst_tup) lst_no Kp.upd
          · rw [upd_ne nnk]; exact hn5
          · rw [negsB_snoc a hry, if_neg (by omega), List.append_nil]
            exact (in4.mono fun _ _ _ h => h.same (s5.trans st)).mono fun _ _ _ h => h.keep hk5 (fun _ => lst_tup) lst_no Kp.upd
          · rw [upd_same, List.map_append]; rfl
          · rw [keptB_snoc a _ hry, if_pos h0]
            exact ((ik4.mono fun _ _ _ h => h.same (s5.trans st)).append (ItemsAt.one (x := (ry.1, ry.2 ||| 2 ^ b.count)) ⟨xa, upd_same, va5.same st⟩)).mono fun _ _ _ h => h.keep hk5 (fun _ => lst_tup) lst_no Kp.upd
        · have h0 : dot a ry.1 ≠ 0 := fun z => e (by simp [z])
          refine ⟨_, rfl, _, _, rfl, rfl, _, rfl, ite2 (fun e2 => ?_) (fun e2 => ?_)⟩
          · have hpos : 0 < dot a ry.1 := of_decide_eq_true e2
            refine ⟨.ref Dp, rfl, .inl ⟨rfl, _, SqL.of (s5 _ _ hp4)⟩, .ref xa, rfl, _, rfl, _, rfl, (show 3 ≤ sizeLine by decide), fun tt ntt => ?_⟩
            have st : Same H5 (upd H5 tt (.tup [.ref xa, .int (ry.2 : Int), .int (dot a ry.1)])) := same_upd ntt
            refine ⟨Dp, ps.map V.ref, .ref tt, rfl, rfl, st _ _ (s5 _ _ hp4), ?_, ?_⟩
            · rw [List.length_map, ip4.1]
              exact Nat.lt_of_le_of_lt (possB_len _ _ _) hrl
            have hk5 := st _ _ (s5 _ _ hk4)
            have hp5 := st _ _ (s5 _ _ hp4)
            have hn5 := st _ _ (s5 _ _ hn4)
            refine ⟨_, _, _, _, _, ps ++ [tt], ns, ks, rfl, fun b o e => ?_, ?_, ?_, ?_, ?_, ?_, ?_⟩
            · rw [upd_ne (ne_of_none e nDp)]
              exact st _ _ (s25 _ _ e)
            · rw [upd_same, List.map_append]; rfl
            · rw [possB_snoc a hry, if_pos hpos]
              exact ((ip4.mono fun _ _ _ h => h.same (s5.trans st)).append (ItemsAt.one ⟨xa, upd_same, va5.same st⟩)).mono fun _ _ _ h => h.keep hp5 (fun _ => lst_tup) lst_no Kp.upd
            · rw [upd_ne npn.symm]; exact hn5
            · rw [negsB_snoc a hry, if_neg (by omega), List.append_nil]
              exact (in4.mono fun _ _ _ h => h.same (s5.trans st)).mono fun _ _ _ h => h.keep hp5 (fun _ => lst_tup) lst_no Kp.upd
            · rw [upd_ne npk.symm]; exact hk5
            · rw [keptB_snoc a _ hry, if_neg h0, List.append_nil]
              exact (ik4.mono fun _ _ _ h => h.same (s5.trans st)).mono fun _ _ _ h => h.keep hp5 (fun _ => lst_tup) lst_no Kp.upd
          · have hneg : dot a ry.1 < 0 := by
              have : ¬ 0 < dot a ry.1 := fun z => e2 (decide_eq_true z)
              omega
            refine ⟨.ref Dn, rfl, .inl ⟨rfl, _, SqL.of (s5 _ _ hn4)⟩, .ref xa, rfl, _, rfl, _, rfl, (show 3 ≤ sizeLine by decide), fun tt ntt => ?_⟩
            have st : Same H5 (upd H5 tt (.tup [.ref xa, .int (ry.2 : Int), .int (dot a ry.1)])) := same_upd ntt
            refine ⟨Dn, ns.map V.ref, .ref tt, rfl, rfl, st _ _ (s5 _ _ hn4), ?_, ?_⟩
            · rw [List.length_map, in4.1]
              exact Nat.lt_of_le_of_lt (negsB_len _ _ _) hrl
            have hk5 := st _ _ (s5 _ _ hk4)
            have hp5 := st _ _ (s5 _ _ hp4)
            have hn5 := st _ _ (s5 _ _ hn4)
            refine ⟨_, _, _, _, _, ps, ns ++ [tt], ks, rfl, fun b o e => ?_, ?_, ?_, ?_, ?_, ?_, ?_⟩
            · rw [upd_ne (ne_of_none e nDn2)]
              exact st _ _ (s25 _ _ e)
            · rw [upd_ne npn]; exact hp5
            · rw [possB_snoc a hry, if_neg (by omega), List.append_nil]
              exact (ip4.mono fun _ _ _ h => h.same (s5.trans st)).mono fun _ _ _ h => h.keep hn5 (fun _ => lst_tup) lst_no Kp.upd
            · rw [upd_same, List.map_append]; rfl
            · rw [negsB_snoc a hry, if_pos hneg]
              exact ((in4.mono fun _ _ _ h => h.same (s5.trans st)).append (ItemsAt.one ⟨xa, upd_same, va5.same st⟩)).mono fun _ _ _ h => h.keep hn5 (fun _ => lst_tup) lst_no Kp.upd
            · rw [upd_ne nnk.symm]; exact hk5
            · rw [keptB_snoc a _ hry, if_neg h0, List.append_nil]
              exact (ik4.mono fun _ _ _ h => h.same (s5.trans st)).mono fun _ _ _ h => h.keep hn5 (fun _ => lst_tup) lst_no Kp.upd
      · rintro σ H4 ⟨y5, y6, y10, y11, y12, ps, ns, ks, rfl, s4, hp4, ip4, hn4, in4, hk4, ik4⟩
        rw [List.take_of_length_le (by rw [List.length_map, B2.rv.1]; exact Nat.le_refl _)] at ip4 in4 ik4
        have B4 := B2.same s4
        refine ⟨.ref p, rfl, p, dx, _, rfl, B4.ob, bf_no _ _ _ (by decide +kernel) (by decide +kernel) (by decide +kernel), _, rfl, _, rfl, _, rfl, m, a, ⟨b.lines, b.rays, b.count + 1⟩, p, Dp, Dn, ps, ns, 2 ^ b.count, rfl, ⟨dx, l, r, ls, ts, B4⟩, hm, ha, hrw, hp4, ip4, hn4, in4, ?_, fun H6 Df fs s6 nDf hDf hfs => ?_⟩
        · simp only [List.length_append] at hres
          show (freshB a (2 ^ b.count) b.rays).length < sizeLine
          omega
        have B6 := B4.same s6
        replace hfs : ItemsAt RayAt H6 fs (freshB a (2 ^ b.count) b.rays) := hfs
        have s26 : Same H2 H6 := s4.trans s6
        have fin : ∀ (H9 : Hp) (qs : List Addr) (z : Addr), Same H6 H9 → ItemsAt RayAt H9 qs (keptB a (2 ^ b.count) b.rays ++ if ex then [] else possB a b.rays) → H9 z = none →
            Q .non (upd (upd H9 z (.lst (qs.map V.ref ++ fs.map V.ref))) p (.ins C dx (putF "rays" (V.ref z) (bf l r ((b.count + 1 : Nat) : Int))))) := fun H9 qs z s9 hqs nz => by
          have B9 := B6.same s9
          have sz : Same H9 (upd H9 z (.lst (qs.map V.ref ++ fs.map V.ref))) := same_upd nz
          have hz9 : upd H9 z (.lst (qs.map V.ref ++ fs.map V.ref)) z = some (.lst ((qs ++ fs).map V.ref)) := by rw [upd_same, List.map_append]
          generalize upd H9 z _ = Hz at *
          have Bz := B9.same sz
          have kz : Kp p Hz (upd Hz p (.ins C dx (putF "rays" (V.ref z) (bf l r ((b.count + 1 : Nat) : Int))))) := Kp.upd
          refine q _ (fun b' o' e hb => kz _ _ (sz _ _ (s9 _ _ (s26 _ _ (kH2 _ _ e hb)))) hb) ⟨dx, l, z, ls, qs ++ fs, ?_, ?_, ?_, ?_, ?_⟩
          · rw [upd_same, bf_putR]
          · exact kz _ _ Bz.ln (ne_of Bz.ln Bz.ob fun z => by cases z)
          · exact Bz.lv.mono fun _ _ _ h => h.keep Bz.ob ins_no kz
          · exact kz _ _ hz9 (ne_of hz9 Bz.ob fun z => by cases z)
          · exact ((hqs.append (hfs.same s9)).same sz).mono fun _ _ _ h => h.keep Bz.ob (fun _ => ins_tup) ins_no kz
        cases ex with
        | true =>
          refine ⟨_, rfl, true, rfl, ite2 (fun z => by cases z) fun _ => ?_⟩
          refine ⟨_, rfl, _, rfl, Dk, Df, _, _, rfl, rfl, s6 _ _ hk4, hDf, ?_, fun z nz => ?_⟩
          · rw [List.length_map, List.length_map, ik4.1, hfs.1]
            simp only [List.length_append, if_true, List.length_nil] at hres
            omega
          refine ⟨_, rfl, p, C, dx, _, rfl, (same_upd nz) _ _ B6.ob, T.cl, T.nR, (show 3 < 1000 by decide), ?_⟩
          refine fin H6 ks z (Same.refl _) ?_ nz
          rw [if_pos rfl, List.append_nil]
          exact ik4.same s6
        | false =>
          refine ⟨_, rfl, false, rfl, ite2 (fun _ => ?_) fun z => absurd rfl z⟩
          have hp6 := s6 _ _ hp4
          have ip6 := ip4.mono fun _ _ _ h => TripAt.same h s6
          refine ⟨_, rfl, .ref Dp, rfl, Dp, rfl, ⟨_, SqL.of hp6⟩, fun D nD => ?_⟩
          refine lc_mk (walk_list (xs := ps.map V.ref)) (fun j y H => ∃ t x q, y = V.ref t ∧ (possB a b.rays)[j]? = some q ∧ t ≠ D ∧ x ≠ D ∧ H t = some (.tup [.ref x, .int (q.2 : Int)]) ∧ VecAt H x q.1) (fun i y H H' k ⟨t, x, q, e1, e2, e3, e4, e5, e6⟩ => ⟨t, x, q, e1, e2, e3, e4, k _ _ e5 e3, k _ _ e6 e4⟩) (fun H' s' => SqL.of (s' _ _ hp6)) nD (by
            rw [List.length_map, ip6.1]
            exact Nat.le_trans (List.length_filter_le _ _) (Nat.le_of_lt hrl)) ?_ (mono_tup3 K 5 6 12) ?_
          · rintro j x H1 H' Nx hj s1 ⟨ob, hDo⟩ ⟨rfl, hx⟩ cont
            obtain ⟨t, ht, rfl⟩ := refs_at hx
            obtain ⟨qr, hqr, xa, et, va⟩ := ip6.of ht
            refine ⟨t, _, rfl, SqT.of (s1 _ _ et), rfl, _, _, rfl, _, _, rfl, _, _, rfl, rfl, rfl, _, rfl, _, rfl, (show 2 ≤ sizeLine by decide), fun tt ntt => ?_⟩
            exact cont (.ref tt) _ (same_upd ntt) ⟨tt, xa, qr, rfl, hqr, (ne_of_none hDo ntt).symm, ne_of_none va nD, upd_same, (va.same s1).same (same_upd ntt)⟩
          · intro H7 ys s7 hD hlen2 hr2
            obtain ⟨us, rfl, hus⟩ := items_of (R := RayAt) (H := H7) (xs := possB a b.rays) (zs := ys) (by rw [hlen2, List.length_map, ip6.1]) (fun i y e => by
              obtain ⟨t, x, q, rfl, e2, _, _, e5, e6⟩ := hr2 i y e
              exact ⟨t, q, rfl, e2, x, e5, e6⟩)
            have hk7 := s7 _ _ (s6 _ _ hk4)
            simp only [List.length_append, Bool.false_eq_true, if_false] at hres
            refine ⟨Dk, D, _, _, rfl, rfl, hk7, hD, ?_, fun kq nkq => ?_⟩
            · rw [List.length_map, List.length_map, ik4.1, hus.1]
              omega
            have s8 : Same H7 (upd H7 kq (.lst (ks.map V.ref ++ us.map V.ref))) := same_upd nkq
            have hkq : upd H7 kq (.lst (ks.map V.ref ++ us.map V.ref)) kq = some (.lst ((ks ++ us).map V.ref)) := by rw [upd_same, List.map_append]
            generalize upd H7 kq _ = H8 at *
            have s68 : Same H6 H8 := s7.trans s8
            refine ⟨_, rfl, _, rfl, kq, Df, _, _, rfl, rfl, hkq, s68 _ _ hDf, ?_, fun z nz => ?_⟩
            · rw [List.length_map, List.length_map, List.length_append, ik4.1, hfs.1, hus.1]
              omega
            refine ⟨_, rfl, p, C, dx, _, rfl, (same_upd nz) _ _ (s68 _ _ B6.ob), T.cl, T.nR, (show 3 < 1000 by decide), ?_⟩
            refine fin H8 (ks ++ us) z s68 ?_ nz
            rw [if_neg (by decide)]
            exact (ik4.same (s6.trans s68)).append (hus.same s8)
    · -- a line turns
      obtain ⟨dx1, l1, r1, ls1, ts1, B1⟩ := B1
      rw [add_some hix] at q hres
      generalize orient a (b.lines.getD i zero) = lo at *
      have ecast : ((b.count : Nat) : Int) + 1 = ((b.count + 1 : Nat) : Int) := by omega
      have hcnt : (turned a i b).count = b.count := rfl
      have hrl1 : (turned a i b).rays.length = b.rays.length := by unfold turned; simp
      generalize turned a i b = bt at *
      refine ⟨.ref p, rfl, p, C, dx1, _, _, rfl, B1.ob, T.cl, T.nC, bf_count _ _ _, b.count, rfl, by rw [hcnt], by omega, ?_⟩
      refine ⟨.ref p, rfl, p, C, dx1, _, _, rfl, B1.ob, T.cl, T.nC, bf_count _ _ _, _, _, rfl, rfl, dx1, _, B1.ob, (show 3 < 1000 by decide), ?_⟩
      have k2 : Kp p H1 (upd H1 p (.ins C dx1 (putF "count" (V.int (((bt.count : Nat) : Int) + 1)) (bf l1 r1 ((bt.count : Nat) : Int))))) := Kp.upd
      have ob2 : upd H1 p (.ins C dx1 (putF "count" (V.int (((bt.count : Nat) : Int) + 1)) (bf l1 r1 ((bt.count : Nat) : Int)))) p = some (.ins C dx1 (bf l1 r1 ((b.count + 1 : Nat) : Int))) := by rw [upd_same, bf_putC, hcnt, ecast]
      generalize upd H1 p _ = H2 at *
      have hlp2 : VecAt H2 lp lo := hlp.keep B1.ob ins_no k2
      have rl2 := k2 _ _ B1.rl (ne_of B1.rl B1.ob fun z => by cases z)
      have ln2 := k2 _ _ B1.ln (ne_of B1.ln B1.ob fun z => by cases z)
      have rv2 : ItemsAt RayAt H2 ts1 bt.rays := B1.rv.mono fun _ _ _ h => h.keep B1.ob (fun _ => ins_tup) ins_no k2
      have lv2 := B1.lv.mono fun _ _ _ h => h.keep B1.ob ins_no k2
      have kH2 : Kp p H H2 := fun b' o' e hb => k2 _ _ (k1 _ _ e hb) hb
      refine ⟨.ref lp, rfl, rfl, _, rfl, ite2 (fun _ => ?_) (fun e => (e (by simp)).elim)⟩
      refine ⟨.ref p, rfl, p, C, dx1, _, _, rfl, ob2, T.cl, T.nR, bf_rays _ _ _, r1, rfl, ⟨_, SqL.of rl2⟩, fun D nD => ?_⟩
      refine lc_mk (walk_list (xs := ts1.map V.ref)) (fun j y H => ∃ t x q, y = V.ref t ∧ bt.rays[j]? = some q ∧ t ≠ D ∧ x ≠ D ∧ H t = some (.tup [.ref x, .int ((q.2 ||| 2 ^ b.count : Nat) : Int)]) ∧ VecAt H x q.1) (fun i y H H' k ⟨t, x, q, e1, e2, e3, e4, e5, e6⟩ => ⟨t, x, q, e1, e2, e3, e4, k _ _ e5 e3, k _ _ e6 e4⟩) (fun H' s' => SqL.of (s' _ _ rl2)) nD (by
        rw [List.length_map, rv2.1, hrl1]
        exact Nat.le_of_lt hrl) ?_ (mono_tup2 K 5 6) ?_
      · rintro j x H1 H' Nx hj s1 ⟨ob, hDo⟩ ⟨rfl, hx⟩ cont
        obtain ⟨t, ht, rfl⟩ := refs_at hx
        obtain ⟨qr, hqr, xa, et, va⟩ := rv2.of ht
        refine ⟨t, _, rfl, SqT.of (s1 _ _ et), rfl, _, _, rfl, _, _, rfl, rfl, rfl, _, rfl, _, rfl, _, rfl, _, _, rfl, rfl, (show 2 ≤ sizeLine by decide), fun tt ntt => ?_⟩
        exact cont (.ref tt) _ (same_upd ntt) ⟨tt, xa, qr, rfl, hqr, (ne_of_none hDo ntt).symm, ne_of_none va nD, upd_same, (va.same s1).same (same_upd ntt)⟩
      · intro H3 ys s3 hD hlen2 hr2
        obtain ⟨us, rfl, hus⟩ := items_of (R := RayAt) (H := H3) (xs := bt.rays.map fun r => (r.1, r.2 ||| 2 ^ b.count)) (zs := ys) (by rw [hlen2, List.length_map, List.length_map, rv2.1]) (fun i y e => by
          obtain ⟨t, x, q, rfl, e2, _, _, e5, e6⟩ := hr2 i y e
          exact ⟨t, (q.1, q.2 ||| 2 ^ b.count), rfl, by rw [List.getElem?_map, e2]; rfl, x, e5, e6⟩)
        have ob3 := s3 _ _ ob2
        refine ⟨_, rfl, p, C, dx1, _, rfl, ob3, T.cl, T.nR, (show 3 < 1000 by decide), ?_⟩
        have k4 : Kp p H3 (upd H3 p (.ins C dx1 (putF "rays" (V.ref D) (bf l1 r1 ((b.count + 1 : Nat) : Int))))) := Kp.upd
        have ob4 : upd H3 p (.ins C dx1 (putF "rays" (V.ref D) (bf l1 r1 ((b.count + 1 : Nat) : Int)))) p = some (.ins C dx1 (bf l1 D ((b.count + 1 : Nat) : Int))) := by rw [upd_same, bf_putR]
        generalize upd H3 p _ = H4 at *
        have hD4 := k4 _ _ hD (ne_of hD ob3 fun z => by cases z)
        have hln3 := s3 _ _ ln2
        have ln4 := k4 _ _ hln3 (ne_of hln3 ob3 fun z => by cases z)
        have lv4 := (lv2.same s3).mono fun _ _ _ h => h.keep ob3 ins_no k4
        have rv4 := hus.mono fun _ _ _ h => h.keep ob3 (fun _ => ins_tup) ins_no k4
        have hlp4 := (hlp2.same s3).keep ob3 ins_no k4
        have kH4 : Kp p H H4 := fun b' o' e hb => k4 _ _ (s3 _ _ (kH2 _ _ e hb)) hb
        have nHD : H D = none := by
          cases e : H D with
          | none => rfl
          | some o =>
            have : D ≠ p := (ne_of_none ob2 nD).symm
            rw [kH2 _ _ e this] at nD
            cases nD
        cases ex with
        | true =>
          refine ⟨_, rfl, true, rfl, ite2 (fun z => by cases z) fun _ => ?_⟩
          refine q H4 kH4 ⟨dx1, l1, D, ls1, us, ob4, ln4, lv4, hD4, ?_⟩
          rw [if_pos rfl, List.append_nil]
          exact rv4
        | false =>
          refine ⟨_, rfl, false, rfl, ite2 (fun _ => ?_) fun z => absurd rfl z⟩
          refine ⟨.ref p, rfl, p, C, dx1, _, _, rfl, ob4, T.cl, T.nR, bf_rays _ _ _, .inl ⟨rfl, _, SqL.of hD4⟩, .ref lp, rfl, _, rfl, _, _, rfl, rfl, (show 2 ≤ sizeLine by decide), fun tt ntt => ?_⟩
          have st : Same H4 (upd H4 tt (.tup [.ref lp, .int (((2 ^ b.count : Nat) : Int) - 1)])) := same_upd ntt
          have htt : upd H4 tt (.tup [.ref lp, .int (((2 ^ b.count : Nat) : Int) - 1)]) tt = some (.tup [.ref lp, .int ((2 ^ b.count - 1 : Nat) : Int)]) := by
            have hp := Nat.two_pow_pos b.count
            have : ((2 ^ b.count : Nat) : Int) - 1 = ((2 ^ b.count - 1 : Nat) : Int) := by omega
            rw [upd_same, this]
          generalize upd H4 tt _ = H5 at *
          have hD5 := st _ _ hD4
          refine ⟨D, us.map V.ref, .ref tt, rfl, rfl, hD5, ?_, ?_⟩
          · rw [List.length_map, hus.1, List.length_map, hrl1]
            exact hrl
          have kD : Kp D H5 (upd H5 D (.lst (us.map V.ref ++ [.ref tt]))) := Kp.upd
          have hDD : upd H5 D (.lst (us.map V.ref ++ [.ref tt])) D = some (.lst ((us ++ [tt]).map V.ref)) := by rw [upd_same, List.map_append]; rfl
          generalize upd H5 D _ = H6 at *
          have ob5 := st _ _ ob4
          have ln5 := st _ _ ln4
          have nlD : l1 ≠ D := ne_of_none ln2 nD
          refine q H6 (fun b' o' e hb => kD _ _ (st _ _ (kH4 _ _ e hb)) (ne_of_none e nHD)) ⟨dx1, l1, D, ls1, us ++ [tt], kD _ _ ob5 (ne_of_none ob2 nD), kD _ _ ln5 nlD, ?_, hDD, ?_⟩
          · exact (lv4.same st).mono fun _ _ _ h => h.keep hD5 lst_no kD
          · rw [if_neg (by decide)]
            exact ((rv4.same st).append (ItemsAt.one (x := (lo, 2 ^ b.count - 1)) ⟨lp, htt, hlp4.same st⟩)).mono fun _ _ _ h => h.keep hD5 (fun _ => lst_tup) lst_no kD
end
end FW
set_option maxRecDepth 100000
set_option maxHeartbeats 4000000
set_option exponentiation.threshold 100000
/-! dual. -/
namespace FW
open PySem PySem.Spec PyProof.Rows L2 Fm LamX
variable {n : Nat}
theorem bnd_720 : ∀ m, m ≤ 4 → bnd (m + 1) (2 ^ 176) < 2 ^ 720
  | 0, _ => by decide +kernel
  | 1, _ => by decide +kernel
  | 2, _ => by decide +kernel
  | 3, _ => by decide +kernel
  | 4, _ => by decide +kernel
  | m + 5, h => absurd h (by omega)
theorem small_wd {m : Nat} (hm : m ≤ 4) {v : Vec (m + 1)} (h : Small (bnd (m + 1) (2 ^ 176)) v) : Wd 720 v := fun i => Nat.lt_of_le_of_lt (h i) (bnd_720 m hm)
theorem small_200 {v : Vec n} (h : Small (2 ^ 176) v) : Wd 200 v := fun i => Nat.lt_of_le_of_lt (h i) (by decide)
structure StepOk {m : Nat} (b : Bld (m + 1)) (k : Nat) : Prop where
  rw : ∀ r ∈ b.rays, Wd 720 r.1
  lw : ∀ l ∈ b.lines, Wd 720 l
  rl : b.rays.length < sizeLine
  ll : b.lines.length ≤ 100
  ct : b.count = k
theorem step_ok {m : Nat} (hm : m ≤ 4) {A : List (Con (m + 1))} (hl : A.length ≤ 48) (hA : ∀ p ∈ A, Small (2 ^ 176) p.1) : StepOk (run A) A.length := by
  obtain ⟨h1, h2, h3⟩ := run_small hA (M := 2 ^ 176) (by decide)
  refine ⟨fun r hr => small_wd hm (h2 r hr), fun l hl => small_wd hm (h1 l hl), ?_, Nat.le_trans (lines_len A) (by omega), ?_⟩
  · refine Nat.lt_of_le_of_lt h3 (Nat.lt_of_le_of_lt (Nat.pow_le_pow_left (show A.length + (m + 1) + 1 ≤ 54 by omega) _) (Nat.lt_of_le_of_lt (Nat.pow_le_pow_right (by decide) (show m + 1 - 1 ≤ 4 by omega)) (by decide +kernel)))
  · obtain ⟨B, h⟩ := run_inv A
    exact h.count
theorem ech_nd {A : List (Con n)} : (((run A).lines.foldl echStep []).map keyOf).Nodup := by
  obtain ⟨B, h⟩ := run_inv A
  obtain ⟨G, g1, g2, g3, g4⟩ := ech_front (Sub.lin A) (B1 := B) (B2 := []) (by simpa using h.basis)
  rw [h.lines, g3, List.nodup_iff_pairwise_ne, List.pairwise_map, List.pairwise_map]
  refine g1.off.imp_of_mem fun {p q} hp hq o e => ?_
  have e1 : keyOf p.1 = key p.2 := by unfold keyOf; rw [g1.piv p hp]
  have e2 : keyOf q.1 = key q.2 := by unfold keyOf; rw [g1.piv q hq]
  rw [e1, e2] at e
  have e3 := key_inj e
  have := g1.pos p hp
  rw [e3] at this
  have := o.1
  omega
theorem ech_ok' {m : Nat} (hm : m ≤ 4) {A : List (Con (m + 1))} (hA : ∀ p ∈ A, Small (2 ^ 176) p.1) : EchOk (run A).lines := by
  have hl := lines_len A
  obtain ⟨h1, _, _⟩ := run_small hA (M := 2 ^ 176) (by decide)
  refine ⟨by omega, fun l hl => small_wd hm (h1 l hl), fun k hk => ?_, ech_nd⟩
  obtain ⟨g1, g2⟩ := ech_small hA (M := 2 ^ 176) (by decide) (List.take_append_drop k (run A).lines).symm
  refine ⟨?_, fun f hf => ⟨small_wd hm (g1 f hf).1, (g1 f hf).2⟩⟩
  rw [g2, List.length_take]
  omega
theorem echelon_mem {m : Nat} {rows : List (Vec (m + 1))} (h : EchOk rows) : (∀ f ∈ echelon rows, Wd 720 f ∧ ∃ c, pivotOf f = some c) ∧ (echelon rows).length ≤ 8 := by
  obtain ⟨h1, h2⟩ := h.st rows.length (Nat.le_refl _)
  rw [List.take_length] at h1 h2
  have pm := List.mergeSort_perm (rows.foldl echStep []) (fun a b => decide (keyOf a ≤ keyOf b))
  refine ⟨fun f hf => h2 f (pm.mem_iff.mp hf), ?_⟩
  show (List.mergeSort _ _).length ≤ 8
  rw [pm.length_eq]
  exact h1
theorem dedup_snoc {l : List (Vec n)} {i : Nat} {r : Vec n} (h : l[i]? = some r) : dedup (l.take (i + 1)) = if r ∈ dedup (l.take i) then dedup (l.take i) else dedup (l.take i) ++ [r] := by
  unfold dedup
  rw [fold_snoc _ _ h]
theorem dedup_len : ∀ (l : List (Vec n)), (dedup l).length ≤ l.length := fun l => by
  have : ∀ (l acc : List (Vec n)), (l.foldl (fun acc r => if r ∈ acc then acc else acc ++ [r]) acc).length ≤ acc.length + l.length := by
    intro l
    induction l with
    | nil => intro acc; simp
    | cons x l ih =>
      intro acc
      simp only [List.foldl_cons, List.length_cons]
      refine Nat.le_trans (ih _) ?_
      split
      · omega
      · rw [List.length_append, List.length_singleton]; omega
  have := this l []
  rw [List.length_nil, Nat.zero_add] at this
  exact this
theorem any_vec (vs : List (Vec n)) (v : Vec n) : (vs.map vecD).any (fun z => PyData.eqv z (vecD v)) = decide (v ∈ vs) := by
  rw [List.any_map]
  rw [Bool.eq_iff_iff, List.any_eq_true, decide_eq_true_iff]
  refine ⟨fun ⟨x, hx, e⟩ => ?_, fun h => ⟨v, h, ?_⟩⟩
  · have e2 : PyData.eqv (vecD x) (vecD v) = true := e
    rw [vecD_eqv] at e2
    have := of_decide_eq_true e2
    rw [← this]; exact hx
  · show PyData.eqv (vecD v) (vecD v) = true
    rw [vecD_eqv]
    exact decide_eq_true rfl
theorem RayAt.ext {H H' : Hp} {t : Addr} {r : Vec n × Nat} (h : RayAt H t r) (e : ExtN H H') : RayAt H' t r := let ⟨a, x, v⟩ := h; ⟨a, e _ _ x (fun ps z => by cases z), v.ext e⟩
theorem BldAt.ext {C : Addr} {H H' : Hp} {p : Addr} {b : Bld n} {dx l r : Addr} {ls ts : List Addr} (h : BldAt C H p b dx l r ls ts) (e : ExtN H H') : BldAt C H' p b dx l r ls ts :=
  ⟨e _ _ h.ob (fun ps z => by cases z), e _ _ h.ln (fun ps z => by cases z), h.lv.ext e, e _ _ h.rl (fun ps z => by cases z), h.rv.mono fun _ _ _ q => q.ext e⟩
section
variable {P : Program} {w : World} {K : PySem.W.Frag} {mg : Str → Option Value} {base : Heap}
abbrev nDu : List Str := ["equations", "conditions", "size", "builder", "equation", "condition", "lines", "rays", "ray", "_"]
theorem scDu : FnScope nDu ["equations", "conditions", "size"] (defScope sDual) := ⟨rfl, rfl, rfl, by decide +kernel, rfl, by decide +kernel, by decide +kernel⟩
def spDu (T : List (Addr × Str)) : Sp := fun vs H Q _ => ∃ (m : Nat) (E C : List (Vec (m + 1))) (e c : Addr), vs = [.ref e, .ref c, .int ((m + 1 : Nat) : Int)] ∧ LAt H e E ∧ LAt H c C ∧ m ≤ 4 ∧ E.length + C.length ≤ 48 ∧ (∀ v ∈ E, Small (2 ^ 176) v) ∧ (∀ v ∈ C, Small (2 ^ 176) v) ∧ Tabs T H ∧
  ∀ H' p f g, ExtN H H' → Tabs T H' → H' p = some (.tup [.ref f, .ref g]) → LAt H' f (dual E C).1 → LAt H' g (dual E C).2 → Q (.ref p) H'
theorem ok_du {f fI fA fE fR C : Addr} {fd fdI fdA fdE fdR : FuncData} (F : Fun K "dual" "dual" sDual f fd) (T : TxtB K C) (Ts : List (Addr × Str)) (MK : Mk K C fI) (mB : mg "Builder" = some (.ref C)) (bI : Binds K fdI ["self", "size"] []) (GI : FnOk P w K mg base CX0 1 fI fdI ["self", "size"] (spIni C))
    (MA : MetAt P w K mg base 4 C "add" ["self", "condition", "exact"] (spAdd C) fA fdA) (DE : DefAt P w K mg base 9 "echelon" ["rows"] (spEch K Ts) fE fdE) (DR : DefAt P w K mg base 4 "reduced" ["vector", "rows"] (spRed K) fR fdR) (mS : mg "sorted" = none) :
    FnOk P w K mg base CX0 10 f fd ["equations", "conditions", "size"] (spDu Ts) := by
  refine F.ok scDu (fun vs H Q E h => ?_) (fun cdv A outer s H vs Q E hr h => ?_)
  · obtain ⟨m, E, C, e, c, rfl, _⟩ := h
    rfl
  · obtain ⟨m, E, Cs, e, c, rfl, ⟨es, hle, hes⟩, ⟨cs, hlc, hcs⟩, hm, hlen, hE, hC, hT, q⟩ := h
    have hu65 : (A.deeper (envOfC "dual" (defScope sDual) s.heap.objs.size f cdv)).units + 65 < cLine := by
      have := hr.un
      omega
    refine ⟨_, pss_cons (ps_set (i := 3) scDu.nd rfl (.inl rfl) (pe_make MK GI (hr.mono (by decide)) (by rfl) mB bI .nil pass0 (pa_cons (pv 2) pa_nil)))
      (pss_cons (ps_for PassesOwn.never rfl (pi_list (pv 0)) (pg_name (i := 4) scDu.nd rfl (.inl rfl))
        (pss_one (ps_expr (pe_meth (pv 3) T.cl MA.me MA.ok (hr.mono (by decide)) MA.bd .nil pass0 (pa_cons (pv 4) (pa_cons pe_bl pa_nil))))))
      (pss_cons (ps_for PassesOwn.never rfl (pi_list (pv 1)) (pg_name (i := 5) scDu.nd rfl (.inl rfl))
        (pss_one (ps_expr (pe_meth (pv 3) T.cl MA.me MA.ok (hr.mono (by decide)) MA.bd .nil pass0 (pa_cons (pv 5) (pa_cons pe_bl pa_nil))))))
      (pss_cons (ps_set (i := 6) scDu.nd rfl (.inl rfl) (pe_def DE hr (by decide) (by rfl) (pa_cons (pe_fld (pv 3) rfl) pa_nil)))
      (pss_cons (ps_set (i := 7) scDu.nd rfl (.inl rfl) (pe_lst pa_nil))
      (pss_cons (ps_for PassesOwn.never rfl (pi_list (pe_fld (pv 3) rfl)) (pg_tup rfl (pgs_cons (pg_name (i := 8) scDu.nd rfl (.inl rfl)) (pgs_cons (pg_name (i := 9) scDu.nd rfl (.inl rfl)) pgs_nil)))
        (pss_cons (ps_set (i := 8) scDu.nd rfl (.inl rfl) (pe_def DR hr (by decide) (by rfl) (pa_cons (pv 8) (pa_cons (pv 6) pa_nil))))
        (pss_one (ps_if (pt_cmpR (op_notInD hu65) (pv 8) (pv 7) rfl)
          (pss_one (ps_expr (pe_bm PySem.F.plainAttrs_list PySem.F.slot_list_append PySem.F.type_list_append mt_append (pv 7) (pa_cons (pv 8) pa_nil)))) pss_nil))))
      (pss_one (ps_ret (pe_tup (pa_cons (pv 6) (pa_cons (pe_callB (cr_sortedVs hr.units) (by rfl) mS (by decide +kernel) (pa_cons (pv 7) pa_nil)) pa_nil)))))))))), ?_⟩
    refine ⟨_, rfl, fun x dx nx ndx hne => ⟨m + 1, x, dx, rfl, upd_same, by omega, fun H1 k1 B1 => ⟨rfl, ?_⟩⟩⟩
    have s1 : Same H H1 := Same.made nx ndx k1
    have hsm : ∀ i, ∀ p ∈ consOf (E.take i) ([] : List (Vec (m + 1))), Small (2 ^ 176) p.1 := fun i p hp => by
      rcases mem_consOf.mp hp with ⟨h, _⟩ | ⟨h, _⟩
      · exact hE _ (List.mem_of_mem_take h)
      · cases h
    have hsm2 : ∀ j, ∀ p ∈ consOf E (Cs.take j), Small (2 ^ 176) p.1 := fun i p hp => by
      rcases mem_consOf.mp hp with ⟨h, _⟩ | ⟨h, _⟩
      · exact hE _ h
      · exact hC _ (List.mem_of_mem_take h)
    have hcl : ∀ (X Y : List (Vec (m + 1))), (consOf X Y).length = X.length + Y.length := fun X Y => by unfold consOf; simp
    have stE : ∀ i, StepOk (run (consOf (E.take i) ([] : List (Vec (m + 1))))) ((consOf (E.take i) ([] : List (Vec (m + 1)))).length) := fun i => step_ok hm (by rw [hcl, List.length_take, List.length_nil]; omega) (hsm i)
    have stC : ∀ j, StepOk (run (consOf E (Cs.take j))) ((consOf E (Cs.take j)).length) := fun j => step_ok hm (by rw [hcl, List.length_take]; omega) (hsm2 j)
    have keepX : ∀ {H3 H4 : Hp}, Same H H3 → Kp x H3 H4 → Same H H4 := fun s k b o e => k b o (s b o e) (ne_of_none e nx)
    refine ⟨.ref e, rfl, e, rfl, ⟨_, SqL.of (s1 _ _ hle)⟩, for_list (K := K) (a := e) (xs := es.map V.ref) (fun i σ H3 => (∃ y4 y5 y6 y7 y8 y9 : Option V, σ = [some (.ref e), some (.ref c), some (.int ((m + 1 : Nat) : Int)), some (.ref x), y4, y5, y6, y7, y8, y9]) ∧ Same H H3 ∧ Bld' C H3 x (run (consOf (E.take i) ([] : List (Vec (m + 1))))))
      ⟨⟨none, none, none, none, none, none, rfl⟩, s1, by rw [List.take_zero]; exact B1⟩ (fun i σ H3 _ ⟨_, s3, _⟩ => SqL.of (s3 _ _ hle)) ?_ ?_⟩
    · rintro i z σ H3 hi ⟨⟨y4, y5, y6, y7, y8, y9, rfl⟩, s3, B3⟩
      obtain ⟨va, hva, rfl⟩ := refs_at hi
      obtain ⟨v, hv, hvv⟩ := hes.of hva
      have hvE := hE v (List.mem_of_getElem? hv)
      have so := stE i
      have so' := stE (i + 1)
      have hnext : run (consOf (E.take (i + 1)) ([] : List (Vec (m + 1)))) = add v true (run (consOf (E.take i) ([] : List (Vec (m + 1))))) := by
        rw [run_eq, run_eq, fold_snoc _ _ hv]
        rfl
      rw [hnext] at so' ⊢
      obtain ⟨dx', l, r, ls, ts, B3'⟩ := B3
      have hB3 : Bld' C H3 x (run (consOf (E.take i) ([] : List (Vec (m + 1))))) := ⟨dx', l, r, ls, ts, B3'⟩
      refine ⟨.ref x, rfl, x, dx', _, rfl, B3'.ob, bf_no _ _ _ (by decide +kernel) (by decide +kernel) (by decide +kernel), .ref va, rfl, m, v, _, x, va, true, rfl, hB3, hvv.same s3, by omega, small_200 hvE, so.rw, so.lw, so.rl, so.ll, ?_, so'.rl, fun H4 k4 B4 => ?_⟩
      · rw [so.ct, hcl, List.length_take, List.length_nil]; omega
      · exact ⟨⟨_, _, _, _, _, _, rfl⟩, keepX s3 k4, B4⟩
    rintro σ H3 ⟨⟨y4, y5, y6, y7, y8, y9, rfl⟩, s3, B3⟩
    rw [List.take_of_length_le (by rw [List.length_map, hes.1]; exact Nat.le_refl _)] at B3
    refine ⟨.ref c, rfl, c, rfl, ⟨_, SqL.of (s3 _ _ hlc)⟩, for_list (K := K) (a := c) (xs := cs.map V.ref) (fun i σ H3 => (∃ y4 y5 y6 y7 y8 y9 : Option V, σ = [some (.ref e), some (.ref c), some (.int ((m + 1 : Nat) : Int)), some (.ref x), y4, y5, y6, y7, y8, y9]) ∧ Same H H3 ∧ Bld' C H3 x (run (consOf E (Cs.take i))))
      ⟨⟨_, _, _, _, _, _, rfl⟩, s3, by rw [List.take_zero]; exact B3⟩ (fun i σ H3 _ ⟨_, s3, _⟩ => SqL.of (s3 _ _ hlc)) ?_ ?_⟩
    · rintro i z σ H3 hi ⟨⟨y4, y5, y6, y7, y8, y9, rfl⟩, s3, B3⟩
      obtain ⟨va, hva, rfl⟩ := refs_at hi
      obtain ⟨v, hv, hvv⟩ := hcs.of hva
      have hvC := hC v (List.mem_of_getElem? hv)
      have so := stC i
      have so' := stC (i + 1)
      have hnext : run (consOf E (Cs.take (i + 1))) = add v false (run (consOf E (Cs.take i))) := by
        rw [run_eq, run_eq, fold_snoc _ _ hv]
      rw [hnext] at so' ⊢
      obtain ⟨dx', l, r, ls, ts, B3'⟩ := B3
      have hB3 : Bld' C H3 x (run (consOf E (Cs.take i))) := ⟨dx', l, r, ls, ts, B3'⟩
      refine ⟨.ref x, rfl, x, dx', _, rfl, B3'.ob, bf_no _ _ _ (by decide +kernel) (by decide +kernel) (by decide +kernel), .ref va, rfl, m, v, _, x, va, false, rfl, hB3, hvv.same s3, by omega, small_200 hvC, so.rw, so.lw, so.rl, so.ll, ?_, so'.rl, fun H4 k4 B4 => ?_⟩
      · rw [so.ct, hcl, List.length_take]; omega
      · exact ⟨⟨_, _, _, _, _, _, rfl⟩, keepX s3 k4, B4⟩
    clear B3 s3
    rintro σ H3 ⟨⟨y4, y5, y6, y7, y8, y9, rfl⟩, s3, B3⟩
    rw [List.take_of_length_le (by rw [List.length_map, hcs.1]; exact Nat.le_refl _)] at B3
    have so := stC Cs.length
    rw [List.take_length] at so
    have hEok : EchOk (run (consOf E Cs)).lines := ech_ok' hm (by have := hsm2 Cs.length; rwa [List.take_length] at this)
    have hd1 : (dual E Cs).1 = echelon (run (consOf E Cs)).lines := rfl
    have hd2 : (dual E Cs).2 = sortRays (dedup ((run (consOf E Cs)).rays.map fun r => reduced r.1 (echelon (run (consOf E Cs)).lines))) := rfl
    obtain ⟨hem, hel⟩ := echelon_mem hEok
    generalize run (consOf E Cs) = b at *
    obtain ⟨dx', l, r, ls, ts, B3⟩ := B3
    refine ⟨.ref x, rfl, x, C, dx', _, _, rfl, B3.ob, T.cl, T.nL, bf_lines _ _ _, m, b.lines, l, rfl, ⟨ls, B3.ln, B3.lv⟩, hT.ext s3, by omega, hEok, fun H4 p4 e4 T4 L4 => ?_⟩
    have B4 := B3.ext e4
    have e04 : ExtN H H4 := (ExtN.of s3).trans e4
    refine ⟨Nat.zero_le _, fun D nD => ?_⟩
    have s5 : Same H4 (upd H4 D (.lst [])) := same_upd nD
    have B5 := B4.same s5
    refine ⟨.ref x, rfl, x, C, dx', _, _, rfl, B5.ob, T.cl, T.nR, bf_rays _ _ _, r, rfl, ⟨_, SqL.of B5.rl⟩, for_list (K := K) (a := r) (xs := ts.map V.ref) (fun i σ H5 => (∃ y8 y9 : Option V, σ = [some (.ref e), some (.ref c), some (.int ((m + 1 : Nat) : Int)), some (.ref x), y4, y5, some (.ref p4), some (.ref D), y8, y9]) ∧ Same H4 H5 ∧ LAt H5 D (dedup ((b.rays.map fun r => reduced r.1 (echelon b.lines)).take i)))
      ⟨⟨_, _, rfl⟩, s5, [], upd_same, VecsAt.nil⟩ (fun i σ H3 _ ⟨_, s3, _⟩ => SqL.of (s3 _ _ B4.rl)) ?_ ?_⟩
    · rintro i z σ H5 hi ⟨⟨y8, y9, rfl⟩, s5, ⟨ps, hD, hps⟩⟩
      obtain ⟨t, ht, rfl⟩ := refs_at hi
      obtain ⟨ry, hry, xa, et, va⟩ := B4.rv.of ht
      have hsn : (b.rays.map fun r => reduced r.1 (echelon b.lines))[i]? = some (reduced ry.1 (echelon b.lines)) := by rw [List.getElem?_map, hry]; rfl
      refine ⟨t, _, rfl, SqT.of (s5 _ _ et), rfl, _, _, rfl, _, _, rfl, rfl, ?_⟩
      refine ⟨.ref xa, rfl, .ref p4, rfl, m, ry.1, echelon b.lines, xa, p4, rfl, va.same s5, L4.same s5, so.rw _ (List.mem_of_getElem? hry), hem, hel, by omega, fun H6 p6 s6 hp6 => ?_⟩
      have hD6 := s6 _ _ hD
      have hps6 := hps.same s6
      rw [dedup_snoc hsn]
      have hdl := dedup_len ((b.rays.map fun r => reduced r.1 (echelon b.lines)).take i)
      rw [List.length_take, List.length_map] at hdl
      have hrl := so.rl
      generalize dedup ((b.rays.map fun r => reduced r.1 (echelon b.lines)).take i) = acc at *
      refine ⟨.ref p6, rfl, .ref D, rfl, vecD (reduced ry.1 (echelon b.lines)), acc.map vecD, hp6.dp, LAt.dp ⟨ps, hD6, hps6⟩, vecD_shaped _, vecDs_shaped _, _, rfl, ?_⟩
      rw [any_vec]
      by_cases hmem : reduced ry.1 (echelon b.lines) ∈ acc
      · rw [if_pos hmem, decide_eq_true hmem]
        exact ite2 (fun z => by cases z) fun _ => ⟨⟨_, _, rfl⟩, s5.trans s6, ps, hD6, hps6⟩
      · rw [if_neg hmem, decide_eq_false hmem]
        refine iteT ?_
        refine ⟨.ref D, rfl, .inl ⟨rfl, _, SqL.of hD6⟩, .ref p6, rfl, D, _, .ref p6, rfl, rfl, hD6, ?_, ?_⟩
        · rw [List.length_map, hps.1]
          omega
        · refine ⟨⟨_, _, rfl⟩, fun b o e => ?_, ps ++ [p6], ?_, ?_⟩
          · rw [upd_ne (ne_of_none e nD)]
            exact s6 _ _ (s5 _ _ e)
          · rw [upd_same, List.map_append]; rfl
          · refine (hps6.append (VecsAt.one hp6)).mono fun p _ w hw => ?_
            show upd H6 D _ p = _
            rw [upd_ne (vec_ne_list hw hD6)]
            exact hw
    · rintro σ H5 ⟨⟨y8, y9, rfl⟩, s5, L5⟩
      rw [List.take_of_length_le (by rw [List.length_map, List.length_map, B4.rv.1]; exact Nat.le_refl _)] at L5
      refine ⟨.ref p4, rfl, .ref D, rfl, m + 1, D, _, rfl, L5, fun D2 qs nD2 hqs => ?_⟩
      refine ⟨(show 2 ≤ sizeLine by decide), fun p np => ?_⟩
      have s6 := same_upd (o := HO.lst (qs.map V.ref)) nD2
      have s7 := same_upd (o := HO.tup [.ref p4, .ref D2]) np
      refine q _ p p4 D2 (e04.trans (ExtN.of ((s5.trans s6).trans s7))) (T4.ext ((s5.trans s6).trans s7)) upd_same ?_ ?_
      · rw [hd1]
        exact ((L4.same s5).same s6).same s7
      · rw [hd2]
        exact ⟨qs, s7 _ _ upd_same, (hqs.same s6).same s7⟩
end
end FW
set_option maxRecDepth 100000
set_option maxHeartbeats 4000000
set_option exponentiation.threshold 100000
/-! The law's cells and draws. -/
namespace FW
open PySem PySem.Spec PyProof.Rows L2 Fm LamX
variable {n : Nat}
section
variable {P : Program} {w : World} {K : PySem.W.Frag} {mg : Str → Option Value} {base : Heap}
/-! ### _law_cell -/
abbrev nCl : List Str := ["_law_script", "_law_k"]
theorem scCl : FnScope nCl ["_law_script", "_law_k"] (defScope sCell) := ⟨rfl, rfl, rfl, by decide +kernel, rfl, by decide +kernel, by decide +kernel⟩
theorem ok_cl {f : Addr} {fd : FuncData} (F : Fun K "_law_cell" "_law_cell" sCell f fd) (mL : mg "len" = none) (mI : mg "int" = none) : FnOk P w K mg base CX0 1 f fd ["_law_script", "_law_k"] (spCell K) := by
  refine F.ok scCl (fun vs H Q E h => ?_) (fun cdv A outer s H vs Q E hr h => ?_)
  · obtain ⟨l, ns, j, rfl, _⟩ := h
    rfl
  · obtain ⟨l, ns, j, rfl, hs, q⟩ := h
    refine ⟨_, pss_cons (ps_if (pt_cmpR op_lt (pv 1) (pe_callB call_len_seq (by rfl) mL PySem.boot_len (pa_cons (pv 0) pa_nil)) (nomark _)) (pss_one (ps_ret (pe_callTy call_int1 (by rfl) mI (by decide +kernel) (pa_cons (pe_ix ix_list (pv 0) (pv 1) (fun _ _ => rfl)) pa_nil)))) pss_nil)
      (pss_one (ps_ret pe_int)), ?_⟩
    refine ⟨_, rfl, .ref l, rfl, l, _, rfl, .inl hs, _, _, rfl, rfl, _, rfl, ite2 (fun e => ?_) (fun e => ?_)⟩
    · have hj : j < ns.length := by
        have := of_decide_eq_true e
        rw [List.length_map] at this
        omega
      exact ⟨_, rfl, _, rfl, l, _, _, _, rfl, rfl, hs, atI_cell hj, .inl ⟨_, rfl, q⟩⟩
    · have hj : ¬ j < ns.length := fun z => e (decide_eq_true (by rw [List.length_map]; omega))
      rw [cell_out hj] at q
      exact q
/-! ### _law_draws -/
abbrev nDr : List Str := ["_law_cell_here", "_law_limits", "_law_found", "_law_rest", "_law_state", "_law_free", "_law_limit"]
theorem scDr : FnScope nDr ["_law_cell_here", "_law_limits"] (defScope sDraws) := ⟨rfl, rfl, rfl, by decide +kernel, rfl, by decide +kernel, by decide +kernel⟩
def DrawOk (ds ls : List Int) : Prop := ∀ (i : Nat) (d x : Int), ds[i]? = some d → ls[i]? = some x → 0 ≤ d ∧ d < x
def spDr (K : PySem.W.Frag) : Sp := fun vs H Q _ => ∃ (z : Int) (l : Addr) (ls : List Int), vs = [.int z, .ref l] ∧ H l = some (.lst (ls.map V.int)) ∧ ls.length < 1000 ∧ (∀ x ∈ ls, 0 < x ∧ x < 1000) ∧
  ∀ H' p (ds : List Int), Same H H' → H p = none → H' p = some (.lst (ds.map V.int)) → ds.length = ls.length → DrawOk ds ls → Q (.ref p) H'
theorem ok_dr {f : Addr} {fd : FuncData} (F : Fun K "_law_draws" "_law_draws" sDraws f fd) (mA : mg "abs" = none) (mI : mg "int" = none) : FnOk P w K mg base CX0 1 f fd ["_law_cell_here", "_law_limits"] (spDr K) := by
  refine F.ok scDr (fun vs H Q E h => ?_) (fun cdv A outer s H vs Q E hr h => ?_)
  · obtain ⟨z, l, ls, rfl, _⟩ := h
    rfl
  · obtain ⟨z, l, ls, rfl, hl, hll, hls, q⟩ := h
    refine ⟨_, pss_cons (ps_set (i := 2) scDr.nd rfl (.inl rfl) (pe_lst pa_nil))
      (pss_cons (ps_set (i := 3) scDr.nd rfl (.inl rfl) (pe_callB call_abs (by rfl) mA (by decide +kernel) (pa_cons (pe_callTy call_int1 (by rfl) mI (by decide +kernel) (pa_cons (pv 0) pa_nil)) pa_nil)))
      (pss_cons (ps_set (i := 4) scDr.nd rfl (.inl rfl) (pe_op op_mod (pe_callTy call_int1 (by rfl) mI (by decide +kernel) (pa_cons (pv 3) pa_nil)) pe_int))
      (pss_cons (ps_set (i := 5) scDr.nd rfl (.inl rfl) (pe_or (pe_cmpR op_lt (pv 0) pe_int (nomark _)) (pe_one (pe_cmpR op_ge (pv 0) (pe_op op_pow pe_int pe_int) (nomark _)))))
      (pss_cons (ps_for PassesOwn.never rfl (pi_list (pv 1)) (pg_name (i := 6) scDr.nd rfl (.inl rfl))
        (pss_one (ps_if (PW.pt (pw_and (pt_truth (pv 5) (by intro _; rfl)) (pw_and1 (pt_cmpR op_gt (pv 3) pe_int (nomark _)))))
          (pss_cons (ps_expr (pe_bm PySem.F.plainAttrs_list PySem.F.slot_list_append PySem.F.type_list_append mt_append (pv 2) (pa_cons (pe_op op_mod (pe_callTy call_int1 (by rfl) mI (by decide +kernel) (pa_cons (pv 3) pa_nil)) (pv 6)) pa_nil)))
          (pss_one (ps_set (i := 3) scDr.nd rfl (.inl rfl) (pe_op op_fdivW (pv 3) (pv 6)))))
          (pss_cons (ps_set (i := 4) scDr.nd rfl (.inl rfl) (pe_op op_mod (pe_callTy call_int1 (by rfl) mI (by decide +kernel) (pa_cons (pe_op op_add (pe_op op_mulX (pv 4) pe_int) pe_int) pa_nil)) pe_int))
          (pss_cons (ps_set (i := 4) scDr.nd rfl (.inl rfl) (pe_op op_mod (pe_callTy call_int1 (by rfl) mI (by decide +kernel) (pa_cons (pe_op op_add (pe_op op_mulX (pv 4) pe_int) pe_int) pa_nil)) pe_int))
          (pss_one (ps_expr (pe_bm PySem.F.plainAttrs_list PySem.F.slot_list_append PySem.F.type_list_append mt_append (pv 2) (pa_cons (pe_op op_mod (pe_callTy call_int1 (by rfl) mI (by decide +kernel) (pa_cons (pe_op op_fdivW (pv 4) pe_int) pa_nil)) (pv 6)) pa_nil)))))))))
      (pss_one (ps_ret (pv 2))))))), ?_⟩
    refine ⟨Nat.zero_le _, fun D nD => ?_⟩
    have sD : Same H (upd H D (.lst [])) := same_upd nD
    refine ⟨_, rfl, .inl ⟨_, rfl, z, rfl, ?_⟩⟩
    have h31 : (0 : Int) < 2147483647 := by decide
    generalize (if z < 0 then -z else z) = r0
    refine ⟨_, rfl, .inl ⟨_, rfl, r0, _, rfl, rfl, h31, ?_⟩⟩
    have b0 : 0 ≤ r0 % 2147483647 ∧ r0 % 2147483647 < 2147483647 := ⟨Int.emod_nonneg _ (by omega), Int.emod_lt_of_pos _ h31⟩
    apply joinB (β := Bool) (R := fun H6 _ => H6 = upd H D (.lst [])) (σf := fun fr => [some (.int z), some (.ref l), some (.ref D), some (.int r0), some (.int (r0 % 2147483647)), some (.bl fr), none])
    case main =>
      intro tail
      refine ⟨_, rfl, _, _, rfl, rfl, _, rfl, ite2 (fun _ => tail _ true rfl) (fun _ => ?_)⟩
      exact ⟨_, rfl, _, _, rfl, rfl, ⟨by decide, by decide, by decide⟩, _, _, rfl, rfl, tail _ _ rfl⟩
    case tail =>
      rintro _ fr rfl
      have hz31 : ∀ x : Int, 0 ≤ x → x < 2147483647 → x.natAbs < 2 ^ 31 := fun x h1 h2 => by omega
      refine ⟨.ref l, rfl, l, rfl, ⟨_, SqL.of (sD _ _ hl)⟩, for_list (K := K) (a := l) (xs := ls.map V.int) (fun i σ H3 => ∃ (r s : Int) (y6 : Option V) (ds : List Int), σ = [some (.int z), some (.ref l), some (.ref D), some (.int r), some (.int s), some (.bl fr), y6] ∧ Same H H3 ∧ H3 D = some (.lst (ds.map V.int)) ∧ ds.length = i ∧ DrawOk ds ls ∧ 0 ≤ s ∧ s < 2147483647)
        ⟨r0, _, none, [], rfl, sD, upd_same, rfl, fun i d x h => by simp at h, b0.1, b0.2⟩ (fun i σ H3 _ ⟨_, _, _, _, _, s3, _⟩ => SqL.of (s3 _ _ hl)) ?_ ?_⟩
      · rintro i x σ H3 hi ⟨r, s, y6, ds, rfl, s3, hD, hlen, hds, hs1, hs2⟩
        obtain ⟨lim, hlim, rfl⟩ : ∃ lim, ls[i]? = some lim ∧ x = V.int lim := by
          rw [List.getElem?_map] at hi
          cases e : ls[i]? with
          | none => rw [e] at hi; cases hi
          | some y => rw [e] at hi; exact ⟨y, rfl, (Option.some.inj hi).symm⟩
        obtain ⟨hp1, hp2⟩ := hls lim (List.mem_of_getElem? hlim)
        have hil : i < ls.length := (List.getElem?_eq_some_iff.mp hlim).1
        have nxt : ∀ d : Int, 0 ≤ d ∧ d < lim → (ds ++ [d]).length = i + 1 ∧ DrawOk (ds ++ [d]) ls := fun d hd => by
          refine ⟨by rw [List.length_append, hlen]; rfl, fun j e x h1 h2 => ?_⟩
          by_cases hj : j < ds.length
          · rw [List.getElem?_append_left hj] at h1
            exact hds j e x h1 h2
          · rw [List.getElem?_append_right (by omega)] at h1
            have ej : j = ds.length := by
              have := (List.getElem?_eq_some_iff.mp h1).1
              simp at this
              omega
            subst ej
            simp at h1
            subst h1
            rw [hlen, hlim] at h2
            cases h2
            exact hd
        have hlt : (ds.map V.int).length < sizeLine := by
          rw [List.length_map, hlen]
          exact Nat.lt_trans (show i < 1000 by omega) (by decide)
        have sU : ∀ o, Same H (upd H3 D o) := fun o b u e => by
          rw [upd_ne (ne_of_none e nD)]
          exact s3 _ _ e
        have anyc : ∀ (k : Bool → Hp → Prop), k true H3 → k false H3 → tAnd (fun σ H Q => tVar 5 σ H fun x H' => ∃ k, TruV K x H' k ∧ Q k H') (tTest (tOp (rI0 fun i j => V.bl (decide (j < i))) (tVar 3) (tC (.int 1)))) [some (.int z), some (.ref l), some (.ref D), some (.int r), some (.int s), some (.bl fr), some (.int lim)] H3 k := fun k k1 k2 => by
          refine ⟨.bl fr, rfl, fr, rfl, ?_⟩
          cases fr with
          | true =>
            refine iteT ⟨_, rfl, _, _, rfl, rfl, _, rfl, ?_⟩
            cases decide ((1 : Int) < r) with
            | true => exact k1
            | false => exact k2
          | false => exact ite2 (fun e => by cases e) fun _ => k2
        refine anyc _ (iteT ?_) (ite2 (fun e => by cases e) fun _ => ?_)
        · refine ⟨.ref D, rfl, .inl ⟨rfl, _, SqL.of hD⟩, _, rfl, .inl ⟨_, rfl, _, rfl, _, _, rfl, rfl, hp1, D, _, _, rfl, rfl, hD, hlt, ?_⟩⟩
          refine ⟨_, rfl, _, rfl, _, _, rfl, rfl, wide_div (b := 20) hp1 (by omega) (by decide) (by decide), ?_⟩
          obtain ⟨n1, n2⟩ := nxt (r % lim) ⟨Int.emod_nonneg _ (by omega), Int.emod_lt_of_pos _ hp1⟩
          exact ⟨_, _, _, ds ++ [r % lim], rfl, sU _, by rw [upd_same, List.map_append]; rfl, n1, n2, hs1, hs2⟩
        · refine ⟨_, rfl, _, _, rfl, rfl, mulx_ok (a := 31) (b := 20) (hz31 s hs1 hs2) (by decide) (by decide), _, _, rfl, rfl, .inl ⟨_, rfl, _, _, rfl, rfl, h31, ?_⟩⟩
          have c1 : 0 ≤ (s * 48271 + 11) % 2147483647 ∧ (s * 48271 + 11) % 2147483647 < 2147483647 := ⟨Int.emod_nonneg _ (by omega), Int.emod_lt_of_pos _ h31⟩
          show tSeq _ _ _ ([some (.int z), some (.ref l), some (.ref D), some (.int r), some (.int ((s * 48271 + 11) % 2147483647)), some (.bl fr), some (.int lim)]) H3
          generalize (s * 48271 + 11) % 2147483647 = s1 at *
          refine ⟨_, rfl, _, _, rfl, rfl, mulx_ok (a := 31) (b := 20) (hz31 s1 c1.1 c1.2) (by decide) (by decide), _, _, rfl, rfl, .inl ⟨_, rfl, _, _, rfl, rfl, h31, ?_⟩⟩
          have c2 : 0 ≤ (s1 * 69621 + 7) % 2147483647 ∧ (s1 * 69621 + 7) % 2147483647 < 2147483647 := ⟨Int.emod_nonneg _ (by omega), Int.emod_lt_of_pos _ h31⟩
          refine ⟨.ref D, rfl, .inl ⟨rfl, _, SqL.of hD⟩, _, rfl, _, _, rfl, rfl, wide_div (b := 20) (by decide) (by decide) (by decide) (by decide), .inl ⟨_, rfl, _, rfl, _, _, rfl, rfl, hp1, D, _, _, rfl, rfl, hD, hlt, ?_⟩⟩
          obtain ⟨n1, n2⟩ := nxt ((s1 * 69621 + 7) % 2147483647 / 13 % lim) ⟨Int.emod_nonneg _ (by omega), Int.emod_lt_of_pos _ hp1⟩
          exact ⟨_, _, _, ds ++ [(s1 * 69621 + 7) % 2147483647 / 13 % lim], rfl, sU _, by rw [upd_same, List.map_append]; rfl, n1, n2, c2.1, c2.2⟩
      · rintro σ H3 ⟨r, s, y6, ds, rfl, s3, hD, hlen, hds, hs1, hs2⟩
        exact ⟨_, rfl, q H3 D ds s3 nD hD (hlen.trans (List.length_map _)) hds⟩
end
end FW
set_option maxRecDepth 100000
set_option maxHeartbeats 4000000
set_option exponentiation.threshold 100000
/-! The law's vectors. -/
namespace FW
open PySem PySem.Spec PyProof.Rows L2 Fm LamX
variable {n : Nat}
theorem ixL {X : Cx} {K : PySem.W.Frag} (h : X.K = K) : IxR X (rIxL K) := h ▸ ix_list
theorem flat_rep (k : Nat) (x : V) : (List.replicate k [x]).flatten = List.replicate k x := by
  induction k with
  | zero => rfl
  | succ k ih => rw [List.replicate_succ, List.flatten_cons, ih, List.replicate_succ]; rfl
theorem rep_ints (k : Nat) (x : Int) : List.replicate k (V.int x) = (List.replicate k x).map V.int := by rw [List.map_replicate]
section
variable {P : Program} {w : World} {K : PySem.W.Frag} {mg : Str → Option Value} {base : Heap}
/-! ### _law_dot -/
abbrev nLD : List Str := ["_law_first", "_law_second", "_law_k"]
theorem scLD : FnScope nLD ["_law_first", "_law_second"] (defScope sLDot) := ⟨rfl, rfl, rfl, by decide +kernel, rfl, by decide +kernel, by decide +kernel⟩
theorem ok_ld {f : Addr} {fd : FuncData} (F : Fun K "_law_dot" "_law_dot" sLDot f fd) (mS : mg "sum" = none) (mR : mg "range" = none) (mL : mg "len" = none) : FnOk P w K mg base CX0 1 f fd ["_law_first", "_law_second"] (spDot K) := by
  refine F.ok scLD (fun vs H Q E h => ?_) (fun cdv A outer s H vs Q E hr h => ?_)
  · obtain ⟨n, u, v, a, b, rfl, _⟩ := h
    rfl
  · obtain ⟨n, u, v, a, b, rfl, hA, hB, hu, hv, hn, q⟩ := h
    refine ⟨_, pss_one (ps_ret (pe_callB (cr_sum rfl) (by rfl) mS (by decide +kernel) (pa_cons (pe_lc (own := [("_law_k", 2)]) (g := gName 2) (tt := tYes) rfl scLD.nd (pi_range1 (by rfl) mR (pa_cons (pe_callB call_len_seq (by rfl) mL PySem.boot_len (pa_cons (pv 0) pa_nil)) pa_nil))
      (blkOk_by (N := nLD) (sc := defScope sLDot) (by decide +kernel)) (fun _ _ _ _ _ => pg_name (i := 2) scLD.nd rfl (Or.inl rfl)) (fun _ _ _ _ _ => pts_nil) (fun _ _ _ _ _ => pe_op op_mulX (pe_ix (ixL (K := K) rfl) (pv 0) (pv 2) (fun _ _ => rfl)) (pe_ix (ixL (K := K) rfl) (pv 1) (pv 2) (fun _ _ => rfl)))) pa_nil))), ?_⟩
    refine ⟨_, rfl, a, _, rfl, .inl (SqL.of hA), ((il u).length : Nat), rfl, by rw [il_len]; omega, by rw [il_len]; omega, fun D nD => ?_⟩
    rw [Int.toNat_natCast, il_len]
    refine lc_mk (walk_range (lo := 0) (n := n)) (fun i y _ => ∃ h : i < n, y = .int (u ⟨i, h⟩ * v ⟨i, h⟩)) (fun i y H H' _ r => r) (fun _ _ => trivial) nD (Nat.le_trans hn (by decide)) ?_ (mono_name 2) ?_
    · rintro i x H1 H' Nx hi s1 _ ⟨rfl, rfl⟩ cont
      refine ⟨rfl, _, rfl, _, rfl, a, _, _, _, rfl, rfl, SqL.of (s1 _ _ hA), at_of (j := i) (by omega) (il_get u ⟨i, hi⟩), _, rfl, _, rfl, b, _, _, _, rfl, rfl, SqL.of (s1 _ _ hB), at_of (j := i) (by omega) (il_get v ⟨i, hi⟩), _, _, rfl, rfl, mulx_ok (hu _) (hv _) (by decide), ?_⟩
      exact cont _ _ (Same.refl _) ⟨hi, rfl⟩
    · intro H2 ys s2 hD hl hr
      refine ⟨D, List.ofFn (fun i => u i * v i), rfl, SqL.of ?_, ?_⟩
      · rw [hD, il_of (v := fun i => u i * v i) hl hr]
        rfl
      · rw [← sumF_list]
        exact q H2 s2
/-! ### _law_sum -/
abbrev nLS : List Str := ["_law_first", "_law_vector", "_law_second", "_law_other", "_law_k"]
theorem scLS : FnScope nLS ["_law_first", "_law_vector", "_law_second", "_law_other"] (defScope sLSum) := ⟨rfl, rfl, rfl, by decide +kernel, rfl, by decide +kernel, by decide +kernel⟩
theorem ok_ls {f : Addr} {fd : FuncData} (F : Fun K "_law_sum" "_law_sum" sLSum f fd) (mR : mg "range" = none) (mL : mg "len" = none) : FnOk P w K mg base CX0 1 f fd ["_law_first", "_law_vector", "_law_second", "_law_other"] (spComb K) := by
  refine F.ok scLS (fun vs H Q E h => ?_) (fun cdv A outer s H vs Q E hr h => ?_)
  · obtain ⟨n, x, y, u, v, a, b, rfl, _⟩ := h
    rfl
  · obtain ⟨n, x, y, u, v, a, b, rfl, hA, hB, hx, hy, hu, hv, hn, q⟩ := h
    refine ⟨_, pss_one (ps_ret (pe_lc (own := [("_law_k", 4)]) (g := gName 4) (tt := tYes) rfl scLS.nd (pi_range1 (by rfl) mR (pa_cons (pe_callB call_len_seq (by rfl) mL PySem.boot_len (pa_cons (pv 1) pa_nil)) pa_nil))
      (blkOk_by (N := nLS) (sc := defScope sLSum) (by decide +kernel)) (fun _ _ _ _ _ => pg_name (i := 4) scLS.nd rfl (Or.inl rfl)) (fun _ _ _ _ _ => pts_nil)
      (fun _ _ _ _ _ => pe_op op_add (pe_op op_mulX (pv 0) (pe_ix (ixL (K := K) rfl) (pv 1) (pv 4) (fun _ _ => rfl))) (pe_op op_mulX (pv 2) (pe_ix (ixL (K := K) rfl) (pv 3) (pv 4) (fun _ _ => rfl)))))), ?_⟩
    refine ⟨_, rfl, a, _, rfl, .inl (SqL.of hA), ((il u).length : Nat), rfl, by rw [il_len]; omega, by rw [il_len]; omega, fun D nD => ?_⟩
    rw [Int.toNat_natCast, il_len]
    refine lc_mk (walk_range (lo := 0) (n := n)) (fun i z _ => ∃ h : i < n, z = .int (comb x u y v ⟨i, h⟩)) (fun i y H H' _ r => r) (fun _ _ => trivial) nD (Nat.le_trans hn (by decide)) ?_ (mono_name 4) ?_
    · rintro i z H1 H' Nx hi s1 _ ⟨rfl, rfl⟩ cont
      refine ⟨rfl, _, rfl, _, rfl, _, rfl, a, _, _, _, rfl, rfl, SqL.of (s1 _ _ hA), at_of (j := i) (by omega) (il_get u ⟨i, hi⟩), _, _, rfl, rfl, mulx_ok hx (hu _) (by decide), _, rfl, _, rfl, _, rfl, b, _, _, _, rfl, rfl, SqL.of (s1 _ _ hB), at_of (j := i) (by omega) (il_get v ⟨i, hi⟩), _, _, rfl, rfl, mulx_ok hy (hv _) (by decide), _, _, rfl, rfl, ?_⟩
      exact cont _ _ (Same.refl _) ⟨hi, rfl⟩
    · intro H2 ys s2 hD hl hr
      refine q H2 D s2 nD ?_
      show H2 D = some (.lst (il (comb x u y v)))
      rw [hD, il_of hl hr]
/-! ### _law_in -/
def innB (E C : List (Vec n)) (v : Vec n) : Bool := (E.all fun e => decide (dot e v = 0)) && (C.all fun c => decide (0 ≤ dot c v))
theorem innB_iff {E C : List (Vec n)} {v : Vec n} : innB E C v = true ↔ Inn E C v := by
  unfold innB Inn
  rw [Bool.and_eq_true, List.all_eq_true, List.all_eq_true]
  simp only [decide_eq_true_eq]
abbrev nIn : List Str := ["_law_equations", "_law_conditions", "_law_vector", "_law_zero", "_law_equation", "_law_condition"]
theorem scIn : FnScope nIn ["_law_equations", "_law_conditions", "_law_vector"] (defScope sIn) := ⟨rfl, rfl, rfl, by decide +kernel, rfl, by decide +kernel, by decide +kernel⟩
def spIn : Sp := fun vs H Q _ => ∃ (n : Nat) (E C : List (Vec n)) (v : Vec n) (e c a : Addr), vs = [.ref e, .ref c, .ref a] ∧ LAt H e E ∧ LAt H c C ∧ VecAt H a v ∧ (∀ x ∈ E, Wd 100000 x) ∧ (∀ x ∈ C, Wd 100000 x) ∧ Wd 100000 v ∧ n ≤ 100 ∧ E.length ≤ 1000 ∧ C.length ≤ 1000 ∧ ∀ H', Same H H' → Q (.bl (innB E C v)) H'
theorem bls_of {bs : List Bool} {ys : List V} (hl : ys.length = bs.length) (hr : ∀ (i : Nat) (y : V), ys[i]? = some y → ∃ b, bs[i]? = some b ∧ y = .bl b) : ys = bs.map V.bl := by
  refine List.ext_getElem? fun i => ?_
  by_cases hi : i < ys.length
  · obtain ⟨b, e1, e2⟩ := hr i ys[i] (List.getElem?_eq_getElem hi)
    rw [List.getElem?_eq_getElem hi, e2, List.getElem?_map, e1]
    rfl
  · rw [List.getElem?_eq_none (by omega), List.getElem?_eq_none (by rw [List.length_map]; omega)]
theorem ok_in {f fD : Addr} {fd fdD : FuncData} (F : Fun K "_law_in" "_law_in" sIn f fd) (DD : DefAt P w K mg base 1 "_law_dot" ["_law_first", "_law_second"] (spDot K) fD fdD) (mA : mg "all" = none) : FnOk P w K mg base CX0 2 f fd ["_law_equations", "_law_conditions", "_law_vector"] spIn := by
  refine F.ok scIn (fun vs H Q E h => ?_) (fun cdv A outer s H vs Q E hr h => ?_)
  · obtain ⟨n, E, C, v, e, c, a, rfl, _⟩ := h
    rfl
  · obtain ⟨n, E, C, v, e, c, a, rfl, ⟨es, hle, hes⟩, ⟨cs, hlc, hcs⟩, hv, hEw, hCw, hvw, hn, hEl, hCl, q⟩ := h
    refine ⟨_, pss_cons (ps_set (i := 3) scIn.nd rfl (.inl rfl) (pe_callB (cr_all rfl) (by rfl) mA (by decide +kernel) (pa_cons (pe_lc (own := [("_law_equation", 4)]) (g := gName 4) (tt := tYes) rfl scIn.nd (pi_list (pv 0)) (blkOk_by (N := nIn) (sc := defScope sIn) (by decide +kernel))
        (fun _ _ _ _ _ => pg_name (i := 4) scIn.nd rfl (Or.inl rfl)) (fun _ _ _ _ _ => pts_nil) (fun _ _ _ _ _ => pe_cmpR op_eq (pe_def DD hr (by decide) (by rfl) (pa_cons (pv 4) (pa_cons (pv 2) pa_nil))) pe_int (nomark _))) pa_nil)))
      (pss_one (ps_ret (pe_and (pv 3) (pe_one (pe_callB (cr_all rfl) (by rfl) mA (by decide +kernel) (pa_cons (pe_lc (own := [("_law_condition", 5)]) (g := gName 5) (tt := tYes) rfl scIn.nd (pi_list (pv 1)) (blkOk_by (N := nIn) (sc := defScope sIn) (by decide +kernel))
        (fun _ _ _ _ _ => pg_name (i := 5) scIn.nd rfl (Or.inl rfl)) (fun _ _ _ _ _ => pts_nil) (fun _ _ _ _ _ => pe_cmpR op_ge (pe_def DD hr (by decide) (by rfl) (pa_cons (pv 5) (pa_cons (pv 2) pa_nil))) pe_int (nomark _))) pa_nil)))))), ?_⟩
    refine ⟨.ref e, rfl, e, rfl, ⟨_, SqL.of hle⟩, fun D nD => ?_⟩
    refine lc_mk (walk_list (xs := es.map V.ref)) (fun i y _ => ∃ b, (E.map fun x => decide (dot x v = 0))[i]? = some b ∧ y = .bl b) (fun i y H H' _ r => r) (fun H' s' => SqL.of (s' _ _ hle)) nD (by rw [List.length_map, hes.1]; exact Nat.le_trans hEl (by decide)) ?_ (mono_name 4) ?_
    · rintro i z H1 H' Nx hi s1 _ ⟨rfl, hx⟩ cont
      obtain ⟨xa, hxa, rfl⟩ := refs_at hx
      obtain ⟨x, hxx, hxv⟩ := hes.of hxa
      refine ⟨rfl, _, rfl, _, rfl, n, x, v, xa, a, rfl, hxv.same s1, hv.same s1, hEw x (List.mem_of_getElem? hxx), hvw, hn, fun H2 s2 => ⟨rfl, cont _ _ s2 ⟨decide (dot x v = 0), by rw [List.getElem?_map, hxx]; rfl, ?_⟩⟩⟩
      exact congrArg V.bl (by rw [Bool.eq_iff_iff, decide_eq_true_iff, decide_eq_true_iff]; exact ⟨fun z => by injection z, fun z => by rw [z]⟩)
    · intro H2 ys s2 hD hl hr
      refine ⟨D, E.map fun x => decide (dot x v = 0), rfl, SqL.of ?_, ?_⟩
      · rw [hD, bls_of (by rw [hl, List.length_map, List.length_map, hes.1]) hr]
      have hall : (E.map fun x => decide (dot x v = 0)).all id = E.all fun x => decide (dot x v = 0) := by rw [List.all_map]; rfl
      rw [hall]
      refine ⟨_, rfl, _, rfl, ite2 (fun h1 => ?_) (fun h1 => ?_)⟩
      · refine ⟨.ref c, rfl, c, rfl, ⟨_, SqL.of (s2 _ _ hlc)⟩, fun D2 nD2 => ?_⟩
        refine lc_mk (walk_list (xs := cs.map V.ref)) (fun i y _ => ∃ b, (C.map fun x => decide (0 ≤ dot x v))[i]? = some b ∧ y = .bl b) (fun i y H H' _ r => r) (fun H' s' => SqL.of (s' _ _ (s2 _ _ hlc))) nD2 (by rw [List.length_map, hcs.1]; exact Nat.le_trans hCl (by decide)) ?_ (mono_name 5) ?_
        · rintro i z H1 H' Nx hi s1 _ ⟨rfl, hx⟩ cont
          obtain ⟨xa, hxa, rfl⟩ := refs_at hx
          obtain ⟨x, hxx, hxv⟩ := hcs.of hxa
          exact ⟨rfl, _, rfl, _, rfl, n, x, v, xa, a, rfl, (hxv.same s2).same s1, (hv.same s2).same s1, hCw x (List.mem_of_getElem? hxx), hvw, hn, fun H2 s2 => ⟨_, _, rfl, rfl, cont _ _ s2 ⟨decide (0 ≤ dot x v), by rw [List.getElem?_map, hxx]; rfl, rfl⟩⟩⟩
        · intro H3 ys3 s3 hD3 hl3 hr3
          refine ⟨D2, C.map fun x => decide (0 ≤ dot x v), rfl, SqL.of ?_, ?_⟩
          · rw [hD3, bls_of (by rw [hl3, List.length_map, List.length_map, hcs.1]) hr3]
          have hall2 : (C.map fun x => decide (0 ≤ dot x v)).all id = C.all fun x => decide (0 ≤ dot x v) := by rw [List.all_map]; rfl
          rw [hall2]
          have := q H3 (s2.trans s3)
          unfold innB at this
          rw [h1, Bool.true_and] at this
          exact this
      · have := q H2 s2
        unfold innB at this
        rw [Bool.eq_false_iff.mpr h1, Bool.false_and] at this
        exact this
end
end FW
set_option maxRecDepth 100000
set_option maxHeartbeats 4000000
set_option exponentiation.threshold 100000
/-! The law's drawn vectors. -/
namespace FW
open PySem PySem.Spec PyProof.Rows L2 Fm LamX
variable {n : Nat}
section
variable {P : Program} {w : World} {K : PySem.W.Frag} {mg : Str → Option Value} {base : Heap}
/-! ### _law_small -/
abbrev nSm : List Str := ["_law_cell_here", "_law_size", "_law_draws_here", "_law_k"]
theorem scSm : FnScope nSm ["_law_cell_here", "_law_size"] (defScope sSmall) := ⟨rfl, rfl, rfl, by decide +kernel, rfl, by decide +kernel, by decide +kernel⟩
def spSm : Sp := fun vs H Q _ => ∃ (z : Int) (n : Nat), vs = [.int z, .int (n : Int)] ∧ 1 ≤ n ∧ n ≤ 100 ∧ ∀ H' p (v : Vec n), Same H H' → H p = none → VecAt H' p v → Small 20 v → Q (.ref p) H'
theorem draws_at {ds ls : List Int} (h : DrawOk ds ls) (hl : ds.length = ls.length) {j : Nat} {x : Int} (e : ls[j]? = some x) : ∃ d, ds[j]? = some d ∧ 0 ≤ d ∧ d < x := by
  have hj : j < ds.length := by rw [hl]; exact (List.getElem?_eq_some_iff.mp e).1
  exact ⟨ds[j], List.getElem?_eq_getElem hj, h j _ x (List.getElem?_eq_getElem hj) e⟩
def spike (n : Nat) (d1 : Int) : Vec n := fun k : Fin n => (if decide (V.int ((0 : Int) + (k.val : Nat)) = V.int (d1 % (n : Int))) = true then (1 : Int) else 0) * (d1 - 3)
def smLim (n : Nat) : List Int := ([5] ++ List.replicate n 7) ++ List.replicate n 41
theorem smLim_0 (n : Nat) : (smLim n)[0]? = some 5 := by unfold smLim; simp
theorem smLim_1 {n k : Nat} (h : k < n) : (smLim n)[1 + k]? = some 7 := by
  unfold smLim
  rw [List.getElem?_append_left (by simp; omega), List.getElem?_append_right (by simp)]
  simp [h]
theorem smLim_2 {n k : Nat} (h : k < n) : (smLim n)[1 + n + k]? = some 41 := by
  unfold smLim
  rw [List.getElem?_append_right (by simp; omega)]
  have e : 1 + n + k - ([5] ++ List.replicate n (7 : Int)).length = k := by simp; omega
  rw [e]
  simp [h]
theorem ok_sm {f fD : Addr} {fd fdD : FuncData} (F : Fun K "_law_small" "_law_small" sSmall f fd) (DD : DefAt P w K mg base 1 "_law_draws" ["_law_cell_here", "_law_limits"] (spDr K) fD fdD) (mR : mg "range" = none) (mI : mg "int" = none) : FnOk P w K mg base CX0 2 f fd ["_law_cell_here", "_law_size"] spSm := by
  refine F.ok scSm (fun vs H Q E h => ?_) (fun cdv A outer s H vs Q E hr h => ?_)
  · obtain ⟨z, n, rfl, _⟩ := h
    rfl
  · obtain ⟨z, n, rfl, hn1, hn, q⟩ := h
    refine ⟨_, pss_cons (ps_set (i := 2) scSm.nd rfl (.inr rfl) (pe_def DD hr (by decide) (by rfl) (pa_cons (pv 0) (pa_cons (pe_op op_cat (pe_op op_cat (pe_lst (pa_cons pe_int pa_nil)) (pe_op op_rep (pe_lst (pa_cons pe_int pa_nil)) (pv 1))) (pe_op op_rep (pe_lst (pa_cons pe_int pa_nil)) (pv 1))) pa_nil))))
      (pss_cons (ps_if (pt_cmpR op_eq (pe_ix ix_list (pv 2) pe_int (fun _ _ => rfl)) pe_int (nomark _))
        (pss_one (ps_ret (pe_lc (own := [("_law_k", 3)]) (g := gName 3) (tt := tYes) rfl scSm.nd (pi_range1 (by rfl) mR (pa_cons (pv 1) pa_nil)) (blkOk_by (N := nSm) (sc := defScope sSmall) (by decide +kernel)) (fun _ _ _ _ _ => pg_name (i := 3) scSm.nd rfl (Or.inl rfl)) (fun _ _ _ _ _ => pts_nil)
          (fun _ _ _ _ _ => pe_op op_sub (pe_ix (ixL (K := K) rfl) (pv 2) (pe_op op_add (pe_op op_add pe_int (pv 1)) (pv 3)) (fun _ _ => rfl)) pe_int)))) pss_nil)
      (pss_cons (ps_if (pt_cmpR op_eq (pe_ix ix_list (pv 2) pe_int (fun _ _ => rfl)) pe_int (nomark _))
        (pss_one (ps_ret (pe_lc (own := [("_law_k", 3)]) (g := gName 3) (tt := tYes) rfl scSm.nd (pi_range1 (by rfl) mR (pa_cons (pv 1) pa_nil)) (blkOk_by (N := nSm) (sc := defScope sSmall) (by decide +kernel)) (fun _ _ _ _ _ => pg_name (i := 3) scSm.nd rfl (Or.inl rfl)) (fun _ _ _ _ _ => pts_nil)
          (fun _ _ _ _ _ => pe_op op_mul (pe_callTy call_int1 (by rfl) mI (by decide +kernel) (pa_cons (pe_cmpR op_eq (pv 3) (pe_op op_mod (pe_ix (ixL (K := K) rfl) (pv 2) pe_int (fun _ _ => rfl)) (pv 1)) (nomark _)) pa_nil)) (pe_op op_sub (pe_ix (ixL (K := K) rfl) (pv 2) pe_int (fun _ _ => rfl)) pe_int))))) pss_nil)
      (pss_one (ps_ret (pe_lc (own := [("_law_k", 3)]) (g := gName 3) (tt := tYes) rfl scSm.nd (pi_range1 (by rfl) mR (pa_cons (pv 1) pa_nil)) (blkOk_by (N := nSm) (sc := defScope sSmall) (by decide +kernel)) (fun _ _ _ _ _ => pg_name (i := 3) scSm.nd rfl (Or.inl rfl)) (fun _ _ _ _ _ => pts_nil)
          (fun _ _ _ _ _ => pe_op op_sub (pe_ix (ixL (K := K) rfl) (pv 2) (pe_op op_add pe_int (pv 3)) (fun _ _ => rfl)) pe_int)))))), ?_⟩
    have big : n ≤ sizeLine := Nat.le_trans hn (by decide)
    have one : ∀ x : V, [x].length ≤ sizeLine := fun _ => (show 1 ≤ sizeLine by decide)
    refine ⟨_, rfl, one _, fun p1 n1 => ⟨one _, fun p2 n2 => ⟨_, rfl, p2, (n : Int), _, rfl, rfl, upd_same, by omega, by omega, by rw [Int.toNat_natCast, List.length_singleton, Nat.one_mul]; exact big, fun p3 n3 => ?_⟩⟩⟩
    have er : ∀ x : Int, (List.replicate ((n : Int)).toNat [V.int x]).flatten = (List.replicate n x).map V.int := fun x => by rw [Int.toNat_natCast, flat_rep, rep_ints]
    have el : ∀ x : Int, ((List.replicate ((n : Int)).toNat [V.int x]).flatten).length = n := fun x => by rw [er, List.length_map, List.length_replicate]
    have s1 := same_upd (o := HO.lst [V.int 5]) n1
    have s2 := same_upd (o := HO.lst [V.int 7]) n2
    have s3 := same_upd (o := HO.lst ((List.replicate ((n : Int)).toNat [V.int 7]).flatten)) n3
    refine ⟨p1, p3, _, _, rfl, rfl, s3 _ _ (s2 _ _ upd_same), upd_same, ?_, fun p4 n4 => ⟨one _, fun p5 n5 => ⟨_, rfl, p5, (n : Int), _, rfl, rfl, upd_same, by omega, by omega, by rw [Int.toNat_natCast, List.length_singleton, Nat.one_mul]; exact big, fun p6 n6 => ?_⟩⟩⟩
    · rw [el, List.length_singleton]
      exact Nat.le_trans (show 1 + n ≤ 101 by omega) (by decide)
    have s4 := same_upd (o := HO.lst ([V.int 5] ++ (List.replicate ((n : Int)).toNat [V.int 7]).flatten)) n4
    have s5 := same_upd (o := HO.lst [V.int 41]) n5
    have s6 := same_upd (o := HO.lst ((List.replicate ((n : Int)).toNat [V.int 41]).flatten)) n6
    refine ⟨p4, p6, _, _, rfl, rfl, s6 _ _ (s5 _ _ upd_same), upd_same, ?_, fun p7 n7 => ?_⟩
    · rw [List.length_append, el, el, List.length_singleton]
      exact Nat.le_trans (show 1 + n + n ≤ 201 by omega) (by decide)
    have s7 := same_upd (o := HO.lst (([V.int 5] ++ (List.replicate ((n : Int)).toNat [V.int 7]).flatten) ++ (List.replicate ((n : Int)).toNat [V.int 41]).flatten)) n7
    have sA : Same H _ := ((((((s1.trans s2).trans s3).trans s4).trans s5).trans s6).trans s7)
    have smlen : (smLim n).length = 1 + n + n := by unfold smLim; simp; omega
    refine ⟨z, p7, smLim n, rfl, ?_, by rw [smlen]; omega, ?_, fun H1 p ds s8 np hp hlen hds => ?_⟩
    · rw [upd_same, er, er]
      unfold smLim
      rw [List.map_append, List.map_append]
      rfl
    · intro x hx
      unfold smLim at hx
      simp only [List.mem_append, List.mem_singleton, List.mem_replicate] at hx
      omega
    have sB : Same H H1 := sA.trans s8
    have npH : H p = none := same_none sA np
    clear s8 sA s1 s2 s3 s4 s5 s6 s7 np
    have hs : ∀ {H'}, Same H1 H' → SqL K H' p (ds.map V.int) := fun s => SqL.of (s _ _ hp)
    have at' : ∀ {j : Nat} {d : Int}, ds[j]? = some d → (ds.map V.int)[j]? = some (V.int d) := fun e => by rw [List.getElem?_map, e]; rfl
    obtain ⟨d0, hd0, _, _⟩ := draws_at hds hlen (smLim_0 n)
    obtain ⟨d1, hd1, hd1a, hd1b⟩ := draws_at hds hlen (smLim_1 (n := n) (k := 0) hn1)
    refine ⟨_, rfl, p, _, _, _, rfl, rfl, hs (Same.refl _), at_of (j := 0) rfl (at' hd0), rfl, _, rfl, ite2 (fun _ => ?_) (fun _ => ?_)⟩
    · refine ⟨_, rfl, (n : Int), rfl, by omega, by omega, fun D nD => ?_⟩
      rw [Int.toNat_natCast]
      have hv : ∀ k : Fin n, ∃ d, ds[1 + n + k.val]? = some d ∧ 0 ≤ d ∧ d < 41 := fun k => draws_at hds hlen (smLim_2 k.isLt)
      refine lc_mk (walk_range (lo := 0) (n := n)) (fun i y _ => ∃ h : i < n, y = .int (Classical.choose (hv ⟨i, h⟩) - 20)) (fun i y H H' _ r => r) (fun _ _ => trivial) nD big ?_ (mono_name 3) ?_
      · rintro i x Ha H' Nx hi sa _ ⟨rfl, rfl⟩ cont
        have hc := Classical.choose_spec (hv ⟨i, hi⟩)
        refine ⟨rfl, _, rfl, _, rfl, _, _, rfl, rfl, _, rfl, _, _, rfl, rfl, p, _, _, _, rfl, rfl, hs sa, at_of (j := 1 + n + i) (by omega) (at' hc.1), _, _, rfl, rfl, ?_⟩
        exact cont _ _ (Same.refl _) ⟨hi, rfl⟩
      · intro H2 ys sb hD hl hr
        refine q H2 D (fun i => Classical.choose (hv i) - 20) (sB.trans sb) (same_none sB nD) ?_ fun i => ?_
        · show H2 D = some (.lst (il _))
          rw [hD, il_of (v := fun i => Classical.choose (hv i) - 20) hl hr]
        · have := (Classical.choose_spec (hv i)).2
          show (Classical.choose (hv i) - 20).natAbs ≤ 20
          omega
    refine ⟨_, rfl, p, _, _, _, rfl, rfl, hs (Same.refl _), at_of (j := 0) rfl (at' hd0), rfl, _, rfl, ite2 (fun _ => ?_) (fun _ => ?_)⟩
    · refine ⟨_, rfl, (n : Int), rfl, by omega, by omega, fun D nD => ?_⟩
      rw [Int.toNat_natCast]
      refine lc_mk (walk_range (lo := 0) (n := n)) (fun i y _ => ∃ h : i < n, y = .int (spike n d1 ⟨i, h⟩)) (fun i y H H' _ r => r) (fun _ _ => trivial) nD big ?_ (mono_name 3) ?_
      · rintro i x Ha H' Nx hi sa _ ⟨rfl, rfl⟩ cont
        refine ⟨rfl, _, rfl, _, rfl, p, _, _, _, rfl, rfl, hs sa, at_of (j := 1) rfl (at' hd1), _, rfl, _, _, rfl, rfl, by omega, rfl, .inr ⟨_, rfl, _, rfl, p, _, _, _, rfl, rfl, hs sa, at_of (j := 1) rfl (at' hd1), _, _, rfl, rfl, _, _, rfl, rfl, .inr ⟨by omega, by omega⟩, ?_⟩⟩
        exact cont _ _ (Same.refl _) ⟨hi, rfl⟩
      · intro H2 ys sb hD hl hr
        refine q H2 D (spike n d1) (sB.trans sb) (same_none sB nD) ?_ fun i => ?_
        · show H2 D = some (.lst (il _))
          rw [hD, il_of (v := spike n d1) hl hr]
        · show ((if decide (V.int ((0 : Int) + (i.val : Nat)) = V.int (d1 % (n : Int))) = true then (1 : Int) else 0) * (d1 - 3)).natAbs ≤ 20
          split <;> omega
    · refine ⟨_, rfl, (n : Int), rfl, by omega, by omega, fun D nD => ?_⟩
      rw [Int.toNat_natCast]
      have hv : ∀ k : Fin n, ∃ d, ds[1 + k.val]? = some d ∧ 0 ≤ d ∧ d < 7 := fun k => draws_at hds hlen (smLim_1 k.isLt)
      refine lc_mk (walk_range (lo := 0) (n := n)) (fun i y _ => ∃ h : i < n, y = .int (Classical.choose (hv ⟨i, h⟩) - 3)) (fun i y H H' _ r => r) (fun _ _ => trivial) nD big ?_ (mono_name 3) ?_
      · rintro i x Ha H' Nx hi sa _ ⟨rfl, rfl⟩ cont
        have hc := Classical.choose_spec (hv ⟨i, hi⟩)
        refine ⟨rfl, _, rfl, _, rfl, _, _, rfl, rfl, p, _, _, _, rfl, rfl, hs sa, at_of (j := 1 + i) (by omega) (at' hc.1), _, _, rfl, rfl, ?_⟩
        exact cont _ _ (Same.refl _) ⟨hi, rfl⟩
      · intro H2 ys sb hD hl hr
        refine q H2 D (fun i => Classical.choose (hv i) - 3) (sB.trans sb) (same_none sB nD) ?_ fun i => ?_
        · show H2 D = some (.lst (il _))
          rw [hD, il_of (v := fun i => Classical.choose (hv i) - 3) hl hr]
        · have := (Classical.choose_spec (hv i)).2
          show (Classical.choose (hv i) - 3).natAbs ≤ 20
          omega
/-! ### _law_rows -/
abbrev nRw : List Str := ["_law_cells", "_law_first", "_law_size", "_law_most", "_law_count", "_law_k"]
theorem scRw : FnScope nRw ["_law_cells", "_law_first", "_law_size", "_law_most"] (defScope sRows) := ⟨rfl, rfl, rfl, by decide +kernel, rfl, by decide +kernel, by decide +kernel⟩
def spRw (K : PySem.W.Frag) : Sp := fun vs H Q _ => ∃ (a : Addr) (ns : List Int) (first n most : Nat), vs = [.ref a, .int (first : Int), .int (n : Int), .int (most : Int)] ∧ (∀ H', Same H H' → SqL K H' a (ns.map V.int)) ∧ 1 ≤ n ∧ n ≤ 100 ∧ most ≤ 100 ∧ ∀ H' p (E : List (Vec n)), Same H H' → LAt H' p E → E.length ≤ most → (∀ v ∈ E, Small 20 v) → Q (.ref p) H'
theorem ok_rw {f fC fS : Addr} {fd fdC fdS : FuncData} (F : Fun K "_law_rows" "_law_rows" sRows f fd) (DC : DefAt P w K mg base 1 "_law_cell" ["_law_script", "_law_k"] (spCell K) fC fdC) (DS : DefAt P w K mg base 2 "_law_small" ["_law_cell_here", "_law_size"] spSm fS fdS) (mR : mg "range" = none) (mI : mg "int" = none) :
    FnOk P w K mg base CX0 3 f fd ["_law_cells", "_law_first", "_law_size", "_law_most"] (spRw K) := by
  refine F.ok scRw (fun vs H Q E h => ?_) (fun cdv A outer s H vs Q E hr h => ?_)
  · obtain ⟨a, ns, first, n, most, rfl, _⟩ := h
    rfl
  · obtain ⟨a, ns, first, n, most, rfl, hS, hn1, hn, hmost, q⟩ := h
    refine ⟨_, pss_cons (ps_set (i := 4) scRw.nd rfl (.inl rfl) (pe_op op_mod (pe_callTy call_int1 (by rfl) mI (by decide +kernel) (pa_cons (pe_def DC hr (by decide) (by rfl) (pa_cons (pv 0) (pa_cons (pv 1) pa_nil))) pa_nil)) (pe_op op_add (pv 3) pe_int)))
      (pss_one (ps_ret (pe_lc (own := [("_law_k", 5)]) (g := gName 5) (tt := tYes) rfl scRw.nd (pi_range1 (by rfl) mR (pa_cons (pv 4) pa_nil)) (blkOk_by (N := nRw) (sc := defScope sRows) (by decide +kernel)) (fun _ _ _ _ _ => pg_name (i := 5) scRw.nd rfl (Or.inl rfl)) (fun _ _ _ _ _ => pts_nil)
        (fun _ _ _ _ _ => pe_def DS hr (by decide) (by rfl) (pa_cons (pe_def DC hr (by decide) (by rfl) (pa_cons (pv 0) (pa_cons (pe_op op_add (pe_op op_add (pv 1) pe_int) (pv 5)) pa_nil))) (pa_cons (pv 2) pa_nil)))))), ?_⟩
    refine ⟨_, rfl, _, rfl, a, ns, first, rfl, hS H (Same.refl _), .inl ⟨_, rfl, _, rfl, _, _, rfl, rfl, _, _, rfl, rfl, by omega, ?_⟩⟩
    have hc1 : 0 ≤ cellOf ns first % ((most : Int) + 1) := Int.emod_nonneg _ (by omega)
    have hc2 : cellOf ns first % ((most : Int) + 1) < (most : Int) + 1 := Int.emod_lt_of_pos _ (by omega)
    obtain ⟨cnt, hcnt⟩ := Int.eq_ofNat_of_zero_le hc1
    refine ⟨_, rfl, (cnt : Int), congrArg (fun t => [V.int t]) hcnt, by omega, by omega, fun D nD => ?_⟩
    rw [Int.toNat_natCast]
    refine lc_mk (walk_range (lo := 0) (n := cnt)) (fun i y H => ∃ p, ∃ v : Vec n, y = V.ref p ∧ p ≠ D ∧ VecAt H p v ∧ Small 20 v) (fun i y H H' k ⟨p, v, e1, e2, e3, e4⟩ => ⟨p, v, e1, e2, k _ _ e3 e2, e4⟩) (fun _ _ => trivial) nD (Nat.le_trans (show cnt ≤ 100 by omega) (by decide)) ?_ (mono_name 5) ?_
    · rintro i x H1 H' Nx hi s1 ⟨o, hDo⟩ ⟨rfl, rfl⟩ cont
      refine ⟨rfl, _, rfl, _, rfl, _, _, rfl, rfl, _, rfl, _, _, rfl, rfl, a, ns, first + 1 + i, ?_, hS _ s1, _, rfl, _, n, rfl, hn1, hn, fun H2 p v s2 np hv hsm => cont _ _ s2 ⟨p, v, rfl, (ne_of_none hDo np).symm, hv, hsm⟩⟩
      exact congrArg (fun t => [V.ref a, V.int t]) (by omega)
    · intro H1 ys s1 hD hl hr
      have hv : ∀ i : Fin cnt, ∃ (p : Addr) (v : Vec n), ys[i.val]? = some (V.ref p) ∧ VecAt H1 p v ∧ Small 20 v := fun i => by
        have hi : i.val < ys.length := by rw [hl]; exact i.isLt
        obtain ⟨p, v, e1, _, e3, e4⟩ := hr i.val ys[i.val] (List.getElem?_eq_getElem hi)
        exact ⟨p, v, by rw [List.getElem?_eq_getElem hi, e1], e3, e4⟩
      obtain ⟨ps, rfl, hps⟩ := vecs_of (H := H1) (vs := List.ofFn fun i : Fin cnt => Classical.choose (Classical.choose_spec (hv i))) (ys := ys) (by rw [hl, List.length_ofFn]) (fun i y e => by
        have hi : i < cnt := by rw [← hl]; exact (List.getElem?_eq_some_iff.mp e).1
        have hc := Classical.choose_spec (Classical.choose_spec (hv ⟨i, hi⟩))
        refine ⟨Classical.choose (hv ⟨i, hi⟩), Classical.choose (Classical.choose_spec (hv ⟨i, hi⟩)), Option.some.inj (e.symm.trans hc.1), ?_, hc.2.1⟩
        rw [List.getElem?_ofFn, dif_pos hi])
      refine q H1 D _ s1 ⟨ps, hD, hps⟩ (by rw [List.length_ofFn]; omega) fun v hv' => ?_
      obtain ⟨i, hi⟩ := List.mem_ofFn.mp hv'
      rw [← hi]
      exact (Classical.choose_spec (Classical.choose_spec (hv i))).2.2
/-! ### _law_mixed -/
abbrev nMx : List Str := ["_law_cell_here", "_law_lines", "_law_rays", "_law_size", "_law_draws_here", "_law_vector", "_law_k"]
theorem scMx : FnScope nMx ["_law_cell_here", "_law_lines", "_law_rays", "_law_size"] (defScope sMixed) := ⟨rfl, rfl, rfl, by decide +kernel, rfl, by decide +kernel, by decide +kernel⟩
def spMx : Sp := fun vs H Q _ => ∃ (z : Int) (n M : Nat) (L R : List (Vec n)) (l r : Addr), vs = [.int z, .ref l, .ref r, .int (n : Int)] ∧ LAt H l L ∧ LAt H r R ∧ (∀ v ∈ L, Small M v) ∧ (∀ v ∈ R, Small M v) ∧ M ≤ 2 ^ 1000 ∧ L.length ≤ 100 ∧ R.length ≤ 100 ∧ n ≤ 100 ∧
  ∀ H' p (v : Vec n), Same H H' → H p = none → VecAt H' p v → Mixed L R v → Small ((3 * L.length + 4 * R.length) * M) v → Q (.ref p) H'
theorem ok_mx {f fD fS : Addr} {fd fdD fdS : FuncData} (F : Fun K "_law_mixed" "_law_mixed" sMixed f fd) (DD : DefAt P w K mg base 1 "_law_draws" ["_law_cell_here", "_law_limits"] (spDr K) fD fdD) (DS : DefAt P w K mg base 1 "_law_sum" ["_law_first", "_law_vector", "_law_second", "_law_other"] (spComb K) fS fdS)
    (mR : mg "range" = none) (mL : mg "len" = none) (mM : mg "max" = none) : FnOk P w K mg base CX0 2 f fd ["_law_cell_here", "_law_lines", "_law_rays", "_law_size"] spMx := by
  refine F.ok scMx (fun vs H Q E h => ?_) (fun cdv A outer s H vs Q E hr h => ?_)
  · obtain ⟨z, n, M, L, R, l, r, rfl, _⟩ := h
    rfl
  · obtain ⟨z, n, M, L, R, l, r, rfl, ⟨ls, hll, hls⟩, ⟨rs, hlr, hrs⟩, hL, hR, hM, hLl, hRl, hn, q⟩ := h
    refine ⟨_, pss_cons (ps_set (i := 4) scMx.nd rfl (.inl rfl) (pe_def DD hr (by decide) (by rfl) (pa_cons (pv 0) (pa_cons (pe_op op_rep (pe_lst (pa_cons pe_int pa_nil)) (pe_op op_add (pe_callB call_len_seq (by rfl) mL PySem.boot_len (pa_cons (pv 1) pa_nil)) (pe_callB call_len_seq (by rfl) mL PySem.boot_len (pa_cons (pv 2) pa_nil)))) pa_nil))))
      (pss_cons (ps_set (i := 5) scMx.nd rfl (.inl rfl) (pe_op op_rep (pe_lst (pa_cons pe_int pa_nil)) (pv 3)))
      (pss_cons (ps_for PassesOwn.never rfl (pi_range1 (by rfl) mR (pa_cons (pe_callB call_len_seq (by rfl) mL PySem.boot_len (pa_cons (pv 1) pa_nil)) pa_nil)) (pg_name (i := 6) scMx.nd rfl (.inl rfl))
        (pss_one (ps_set (i := 5) scMx.nd rfl (.inl rfl) (pe_def DS hr (by decide) (by rfl) (pa_cons pe_int (pa_cons (pv 5) (pa_cons (pe_op op_sub (pe_ix ix_list (pv 4) (pv 6) (fun _ _ => rfl)) pe_int) (pa_cons (pe_ix ix_list (pv 1) (pv 6) (fun _ _ => rfl)) pa_nil))))))))
      (pss_cons (ps_for PassesOwn.never rfl (pi_range1 (by rfl) mR (pa_cons (pe_callB call_len_seq (by rfl) mL PySem.boot_len (pa_cons (pv 2) pa_nil)) pa_nil)) (pg_name (i := 6) scMx.nd rfl (.inl rfl))
        (pss_one (ps_set (i := 5) scMx.nd rfl (.inl rfl) (pe_def DS hr (by decide) (by rfl) (pa_cons pe_int (pa_cons (pv 5) (pa_cons (pe_callB (call_max2 rfl) (by rfl) mM (by decide +kernel) (pa_cons pe_int (pa_cons (pe_op op_sub (pe_ix ix_list (pv 4) (pe_op op_add (pe_callB call_len_seq (by rfl) mL PySem.boot_len (pa_cons (pv 1) pa_nil)) (pv 6)) (fun _ _ => rfl)) pe_int) pa_nil))) (pa_cons (pe_ix ix_list (pv 2) (pv 6) (fun _ _ => rfl)) pa_nil))))))))
      (pss_one (ps_ret (pv 5)))))), ?_⟩
    have hTot : (V.int (((L.length + R.length : Nat) : Int))) = V.int (((L.length : Nat) : Int) + ((R.length : Nat) : Int)) := by rw [Int.natCast_add]
    have one : ∀ x : V, [x].length ≤ sizeLine := fun _ => (show 1 ≤ sizeLine by decide)
    have hlen2 : (ls.map V.ref).length = L.length := by rw [List.length_map, hls.1]
    have hlen3 : (rs.map V.ref).length = R.length := by rw [List.length_map, hrs.1]
    refine ⟨_, rfl, one _, fun p1 n1 => ?_⟩
    have s1 := same_upd (o := HO.lst [V.int 7]) n1
    have ecast : (((ls.map V.ref).length : Nat) : Int) + (((rs.map V.ref).length : Nat) : Int) = ((L.length + R.length : Nat) : Int) := by rw [hlen2, hlen3]; omega
    refine ⟨_, rfl, l, _, rfl, .inl (SqL.of (s1 _ _ hll)), _, rfl, r, _, rfl, .inl (SqL.of (s1 _ _ hlr)), _, _, rfl, rfl, p1, ((L.length + R.length : Nat) : Int), _, rfl, congrArg V.int ecast, upd_same, by omega, by omega, by
      rw [Int.toNat_natCast, List.length_singleton, Nat.one_mul]
      exact Nat.le_trans (show _ ≤ 200 by omega) (by decide), fun p2 n2 => ?_⟩
    have er : (List.replicate (((L.length + R.length : Nat) : Int)).toNat [V.int 7]).flatten = (List.replicate (L.length + R.length) 7).map V.int := by rw [Int.toNat_natCast, flat_rep, rep_ints]
    have s2 := same_upd (o := HO.lst ((List.replicate (((L.length + R.length : Nat) : Int)).toNat [V.int 7]).flatten)) n2
    refine ⟨z, p2, List.replicate (L.length + R.length) 7, rfl, by rw [upd_same, er], by rw [List.length_replicate]; omega, fun x hx => by
      rw [List.mem_replicate] at hx
      omega, fun H1 p3 ds s3 np3 hp3 hlen hds => ?_⟩
    have sA : Same H H1 := (s1.trans s2).trans s3
    clear s1 s2 s3
    have hd7 : ∀ j, j < L.length + R.length → ∃ d, ds[j]? = some d ∧ 0 ≤ d ∧ d < 7 := fun j hj => draws_at hds hlen (x := 7) (by rw [List.getElem?_replicate, if_pos hj])
    refine ⟨one _, fun p4 n4 => ⟨_, rfl, p4, (n : Int), _, rfl, rfl, upd_same, by omega, by omega, by
      rw [Int.toNat_natCast, List.length_singleton, Nat.one_mul]
      exact Nat.le_trans hn (by decide), fun p5 n5 => ?_⟩⟩
    have s4 := same_upd (o := HO.lst [V.int 0]) n4
    have s5 := same_upd (o := HO.lst ((List.replicate ((n : Int)).toNat [V.int 0]).flatten)) n5
    have hz : VecAt (upd (upd H1 p4 (.lst [V.int 0])) p5 (HO.lst ((List.replicate ((n : Int)).toNat [V.int 0]).flatten))) p5 (zero : Vec n) := by
      show upd _ _ _ p5 = some (.lst (il zero))
      rw [upd_same, Int.toNat_natCast, flat_rep]
      have : il (zero : Vec n) = List.replicate n (V.int 0) := by
        unfold il
        have e : List.ofFn (zero : Vec n) = List.replicate n 0 := by
          refine List.ext_getElem? fun i => ?_
          rw [List.getElem?_ofFn, List.getElem?_replicate]
          by_cases hi : i < n
          · rw [dif_pos hi, if_pos hi]; rfl
          · rw [dif_neg hi, if_neg hi]
        rw [e, List.map_replicate]
      rw [this]
    have np5 : H p5 = none := same_none (sA.trans s4) n5
    have s6 : Same H1 _ := s4.trans s5
    generalize upd (upd H1 p4 (.lst [V.int 0])) p5 _ = H2 at *
    have at' : ∀ {j : Nat} {d : Int}, ds[j]? = some d → (ds.map V.int)[j]? = some (V.int d) := fun e => by rw [List.getElem?_map, e]; rfl
    have big : ∀ (k : Nat) (v : Vec n), k ≤ 700 → Small (k * M) v → Wd 100000 v := fun k v hk h i => by
      have h1 := h i
      have h2 : k * M ≤ 700 * 2 ^ 1000 := Nat.mul_le_mul hk hM
      exact Nat.lt_of_le_of_lt (Nat.le_trans h1 h2) (by decide +kernel)
    have step : ∀ (k j : Nat) (x : Int) (u v : Vec n), Small (k * M) u → Small M v → x.natAbs ≤ j → Small ((k + j) * M) (comb 1 u x v) := fun k j x u v hu hv hx i => by
      have h1 := hu i
      have h2 := hv i
      show (1 * u i + x * v i).natAbs ≤ _
      have h3 : (x * v i).natAbs ≤ j * M := by
        rw [Int.natAbs_mul]
        exact Nat.mul_le_mul hx h2
      have h4 := Int.natAbs_add_le (1 * u i) (x * v i)
      rw [Int.one_mul] at *
      rw [Nat.add_mul]
      omega
    refine ⟨_, rfl, l, _, rfl, .inl (SqL.of (s6 _ _ (sA _ _ hll))), (((ls.map V.ref).length : Nat) : Int), rfl, by omega, by omega, ?_⟩
    rw [Int.toNat_natCast, hlen2]
    refine for_range (lo := 0) (n := L.length) (fun i σ H3 => ∃ (y6 : Option V) (a : Addr) (v : Vec n), σ = [some (.int z), some (.ref l), some (.ref r), some (.int (n : Int)), some (.ref p3), some (.ref a), y6] ∧ Same H1 H3 ∧ H a = none ∧ VecAt H3 a v ∧ Mixed L R v ∧ Small ((3 * i) * M) v)
      ⟨none, p5, zero, rfl, s6, np5, hz, mixed_zero L R, fun i => by show (0 : Int).natAbs ≤ _; exact Nat.zero_le _⟩ ?_ ?_
    · rintro i σ H3 hi ⟨y6, a, v, rfl, s3, na, hv, mv, sv⟩
      obtain ⟨d, hd, hd1, hd2⟩ := hd7 i (by omega)
      have hLi : L[i]? = some L[i] := List.getElem?_eq_getElem hi
      obtain ⟨la, hla, hlv⟩ := hls.at hLi
      have hmem := List.mem_of_getElem? hLi
      have hx3 : (d - 3).natAbs ≤ 3 := by omega
      refine ⟨_, rfl, _, rfl, _, rfl, p3, _, _, _, rfl, rfl, SqL.of (s3 _ _ hp3), at_of (j := i) (by omega) (at' hd), _, _, rfl, rfl, _, rfl, _, rfl, l, _, _, _, rfl, rfl, SqL.of (s3 _ _ (sA _ _ hll)), at_of (j := i) (v := V.ref la) (by omega) (by rw [List.getElem?_map, hla]; rfl), ?_⟩
      refine ⟨n, 1, d - 3, v, L[i], a, la, rfl, hv, (hlv.same sA).same s3, by decide +kernel, Nat.lt_of_le_of_lt hx3 (by decide +kernel), big _ _ (by omega) sv, big 1 _ (by omega) (by rw [Nat.one_mul]; exact hL _ hmem), hn, fun H4 p s4 np hp => ?_⟩
      refine ⟨_, p, _, rfl, s3.trans s4, same_none (sA.trans s3) np, hp, mv.line hmem _, ?_⟩
      have := step _ 3 _ v L[i] sv (hL _ hmem) hx3
      rw [show 3 * (i + 1) = 3 * i + 3 by omega]
      exact this
    · rintro σ H3 ⟨y6, a, v, rfl, s3, na, hv, mv, sv⟩
      refine ⟨_, rfl, r, _, rfl, .inl (SqL.of (s3 _ _ (sA _ _ hlr))), (((rs.map V.ref).length : Nat) : Int), rfl, by omega, by omega, ?_⟩
      rw [Int.toNat_natCast, hlen3]
      refine for_range (lo := 0) (n := R.length) (fun i σ H3 => ∃ (y6 : Option V) (a : Addr) (v : Vec n), σ = [some (.int z), some (.ref l), some (.ref r), some (.int (n : Int)), some (.ref p3), some (.ref a), y6] ∧ Same H1 H3 ∧ H a = none ∧ VecAt H3 a v ∧ Mixed L R v ∧ Small ((3 * L.length + 4 * i) * M) v)
        ⟨y6, a, v, rfl, s3, na, hv, mv, sv⟩ ?_ ?_
      · clear hv mv sv na s3
        rintro i σ H3 hi ⟨y6, a, v, rfl, s3, na, hv, mv, sv⟩
        obtain ⟨d, hd, hd1, hd2⟩ := hd7 (L.length + i) (by omega)
        have hRi : R[i]? = some R[i] := List.getElem?_eq_getElem hi
        obtain ⟨ra, hra, hrv⟩ := hrs.at hRi
        have hmem := List.mem_of_getElem? hRi
        have hx0 : 0 ≤ (if d - 2 > 0 then d - 2 else 0) := by split <;> omega
        have hx4 : (if d - 2 > 0 then d - 2 else 0).natAbs ≤ 4 := by split <;> omega
        refine ⟨_, rfl, _, rfl, _, rfl, l, _, rfl, .inl (SqL.of (s3 _ _ (sA _ _ hll))), _, rfl, _, _, rfl, rfl, p3, _, _, _, rfl, rfl, SqL.of (s3 _ _ hp3), at_of (j := L.length + i) (by rw [hlen2]; omega) (at' hd), _, _, rfl, rfl, _, _, rfl, _, rfl, _, rfl, r, _, _, _, rfl, rfl, SqL.of (s3 _ _ (sA _ _ hlr)), at_of (j := i) (v := V.ref ra) (by omega) (by rw [List.getElem?_map, hra]; rfl), ?_⟩
        generalize (if d - 2 > 0 then d - 2 else 0) = x at *
        refine ⟨n, 1, x, v, R[i], a, ra, rfl, hv, (hrv.same sA).same s3, by decide +kernel, Nat.lt_of_le_of_lt hx4 (by decide +kernel), big _ _ (by omega) sv, big 1 _ (by omega) (by rw [Nat.one_mul]; exact hR _ hmem), hn, fun H4 p s4 np hp => ?_⟩
        refine ⟨_, p, _, rfl, s3.trans s4, same_none (sA.trans s3) np, hp, mv.ray hmem hx0, ?_⟩
        have := step _ 4 _ v R[i] sv (hR _ hmem) hx4
        rw [show 3 * L.length + 4 * (i + 1) = 3 * L.length + 4 * i + 4 by omega]
        exact this
      · rintro σ H3 ⟨y6, a, v, rfl, s3, na, hv, mv, sv⟩
        exact ⟨_, rfl, q H3 a v (sA.trans s3) na hv mv sv⟩
end
end FW
set_option maxRecDepth 100000
set_option maxHeartbeats 8000000
set_option exponentiation.threshold 100000
/-! The law. -/
namespace FW
open PySem PySem.Spec PyProof.Rows L2 Fm LamX
variable {n : Nat}
theorem pi_listK {X : Cx} {K : PySem.W.Frag} {tg e : Expr} {te : TE} (h : X.K = K) (he : PE X e te) : PI X tg e (iList K te) := h ▸ pi_list he
theorem vecs_eqv : ∀ vs : List (Vec n), PyData.eqvAll (vs.map vecD) (vs.map vecD) = true
  | [] => by simp [PyData.eqvAll]
  | v :: vs => by simp [PyData.eqvAll, vecD_eqv, vecs_eqv vs]
def pairD (us vs : List (Vec n)) : PyData := .tuple [.list (us.map vecD), .list (vs.map vecD)]
theorem pairD_eqv (us vs : List (Vec n)) : PyData.eqv (pairD us vs) (pairD us vs) = true := by
  simp [pairD, PyData.eqv, PyData.eqvAll, vecs_eqv]
def PairAt (H : Hp) (p : Addr) (F G : List (Vec n)) : Prop := ∃ f g, H p = some (.tup [.ref f, .ref g]) ∧ LAt H f F ∧ LAt H g G
theorem PairAt.dp {K : PySem.W.Frag} {H : Hp} {p : Addr} {F G : List (Vec n)} (h : PairAt H p F G) : Dp K H (.ref p) (pairD F G) := let ⟨f, g, a, b, c⟩ := h; .tup (SqT.of a) (.cons b.dp (.cons c.dp .nil))
theorem op_incN {X : Cx} : OpR X (binaryOp .Add) (fun x y H Q => ∃ j : Nat, x = .int 1 ∧ y = .int (j : Int) ∧ Q (.int ((j + 1 : Nat) : Int)) H) := by
  intro pins s σ H x y v u Q I rx ry h
  obtain ⟨j, rfl, rfl, q⟩ := h
  have e : ((j + 1 : Nat) : Int) = 1 + (j : Int) := by omega
  rw [e] at q
  exact op_add pins s σ H _ _ v u Q I rx ry ⟨_, _, rfl, rfl, q⟩
theorem ne_pair {K : PySem.W.Frag} {H : Hp} {p q : Addr} {F G : List (Vec n)} {Q : VK} (h1 : PairAt H p F G) (h2 : PairAt H q F G) (k : Q (.bl false) H) : rNeD K (.ref p) (.ref q) H Q :=
  ⟨pairD F G, pairD F G, h1.dp, h2.dp, pairD_shaped _ _, pairD_shaped _ _, by rw [pairD_eqv]; exact k⟩
theorem eq_pair {K : PySem.W.Frag} {H : Hp} {p q : Addr} {F G : List (Vec n)} {Q : VK} (h1 : PairAt H p F G) (h2 : PairAt H q F G) (k : Q (.bl true) H) : rEqD K (.ref p) (.ref q) H Q :=
  ⟨pairD F G, pairD F G, h1.dp, h2.dp, pairD_shaped _ _, pairD_shaped _ _, by rw [pairD_eqv]; exact k⟩
theorem PairAt.same {H H' : Hp} {p : Addr} {F G : List (Vec n)} (h : PairAt H p F G) (s : Same H H') : PairAt H' p F G := let ⟨f, g, a, b, c⟩ := h; ⟨f, g, s _ _ a, b.same s, c.same s⟩
theorem PairAt.ext {H H' : Hp} {p : Addr} {F G : List (Vec n)} (h : PairAt H p F G) (s : ExtN H H') : PairAt H' p F G := let ⟨f, g, a, b, c⟩ := h; ⟨f, g, s _ _ a (fun ps z => by cases z), b.ext s, c.ext s⟩
theorem any_ne {v : Vec n} (h : v ≠ zero) : (List.ofFn v).any (· != 0) = true := by
  rw [List.any_eq_true]
  refine Classical.byContradiction fun z => h (funext fun i => Classical.byContradiction fun q => z ⟨v i, List.mem_ofFn.mpr ⟨i, rfl⟩, ?_⟩)
  simpa [zero] using q
theorem VecsAt.reverse {H : Hp} {ps : List Addr} {vs : List (Vec n)} (h : VecsAt H ps vs) : VecsAt H ps.reverse vs.reverse := by
  refine ⟨by rw [List.length_reverse, List.length_reverse, h.1], fun i p v e1 e2 => ?_⟩
  have h1 : i < ps.length := by
    have := (List.getElem?_eq_some_iff.mp e1).1
    rwa [List.length_reverse] at this
  rw [List.getElem?_reverse h1] at e1
  rw [List.getElem?_reverse (by rw [← h.1]; exact h1), ← h.1] at e2
  exact h.2 _ p v e1 e2
theorem bnd_20 : ∀ m, m ≤ 4 → bnd (m + 1) 20 ≤ 2 ^ 31
  | 0, _ => by decide +kernel
  | 1, _ => by decide +kernel
  | 2, _ => by decide +kernel
  | 3, _ => by decide +kernel
  | 4, _ => by decide +kernel
  | m + 5, h => absurd h (by omega)
theorem bnd_31 : ∀ m, m ≤ 4 → bnd (m + 1) (2 ^ 31) ≤ 2 ^ 140
  | 0, _ => by decide +kernel
  | 1, _ => by decide +kernel
  | 2, _ => by decide +kernel
  | 3, _ => by decide +kernel
  | 4, _ => by decide +kernel
  | m + 5, h => absurd h (by omega)
theorem sm_mono {v : Vec n} {M N : Nat} (h : Small M v) (hM : M ≤ N) : Small N v := fun i => Nat.le_trans (h i) hM
theorem small_big {v : Vec n} {M : Nat} (h : Small M v) (hM : M ≤ 2 ^ 176) : Wd 100000 v := fun i => Nat.lt_of_le_of_lt (Nat.le_trans (h i) hM) (Nat.pow_lt_pow_right (by decide) (by decide))
/-- what stands while the law runs -/
structure LawAt (K : PySem.W.Frag) (Ts : List (Addr × Str)) (a : Addr) (ns : List Int) (e c f g pf : Addr) (E C : List (Vec n)) (H : Hp) : Prop where
  sc : SqL K H a (ns.map V.int)
  tb : Tabs Ts H
  le : LAt H e E
  lc : LAt H c C
  lf : LAt H f (dual E C).1
  lg : LAt H g (dual E C).2
  pr : PairAt H pf (dual (dual E C).1 (dual E C).2).1 (dual (dual E C).1 (dual E C).2).2
theorem LawAt.ext {K : PySem.W.Frag} {Ts : List (Addr × Str)} {a : Addr} {ns : List Int} {e c f g pf : Addr} {E C : List (Vec n)} {H H' : Hp} (h : LawAt K Ts a ns e c f g pf E C H) (x : ExtN H H') (t : Tabs Ts H') : LawAt K Ts a ns e c f g pf E C H' :=
  ⟨ExtN.seq x h.sc, t, h.le.ext x, h.lc.ext x, h.lf.ext x, h.lg.ext x, h.pr.ext x⟩
theorem LawAt.same {K : PySem.W.Frag} {Ts : List (Addr × Str)} {a : Addr} {ns : List Int} {e c f g pf : Addr} {E C : List (Vec n)} {H H' : Hp} (h : LawAt K Ts a ns e c f g pf E C H) (x : Same H H') : LawAt K Ts a ns e c f g pf E C H' := h.ext (ExtN.of x) (h.tb.ext x)
section
variable {P : Program} {w : World} {K : PySem.W.Frag} {mg : Str → Option Value} {base : Heap}
abbrev nLaw : List Str := ["_law_script", "_law_size", "_law_equations", "_law_conditions", "_law_lines", "_law_rays", "_law_vector", "_law_faces", "_law_cell_here", "_law_more", "_law_follows", "_law_line", "_law_item"]
theorem scLaw : FnScope nLaw ["_law_script"] (defScope sLaw) := ⟨rfl, rfl, rfl, by decide +kernel, rfl, by decide +kernel, by decide +kernel⟩
def spLaw (K : PySem.W.Frag) (T : List (Addr × Str)) : Sp := fun vs H Q _ => ∃ (a : Addr) (ns : List Int), vs = [.ref a] ∧ SqL K H a (ns.map V.int) ∧ ns.length ≤ 63 ∧ Tabs T H ∧ ∀ H', Q (.bl true) H'
theorem ok_law {f fC fR fD fI fS fM : Addr} {fd fdC fdR fdD fdI fdS fdM : FuncData} (F : Fun K "law" "law" sLaw f fd) (Ts : List (Addr × Str)) (mI : mg "int" = none) (mA : mg "any" = none) (mL : mg "list" = none) (mRv : mg "reversed" = none)
    (DC : DefAt P w K mg base 1 "_law_cell" ["_law_script", "_law_k"] (spCell K) fC fdC) (DR : DefAt P w K mg base 3 "_law_rows" ["_law_cells", "_law_first", "_law_size", "_law_most"] (spRw K) fR fdR) (DD : DefAt P w K mg base 10 "dual" ["equations", "conditions", "size"] (spDu Ts) fD fdD)
    (DI : DefAt P w K mg base 2 "_law_in" ["_law_equations", "_law_conditions", "_law_vector"] spIn fI fdI) (DS : DefAt P w K mg base 2 "_law_small" ["_law_cell_here", "_law_size"] spSm fS fdS) (DM : DefAt P w K mg base 2 "_law_mixed" ["_law_cell_here", "_law_lines", "_law_rays", "_law_size"] spMx fM fdM) :
    FnOk P w K mg base CX0 11 f fd ["_law_script"] (spLaw K Ts) := by
  refine F.ok scLaw (fun vs H Q E h => ?_) (fun cdv A outer s H vs Q E hr h => ?_)
  · obtain ⟨a, ns, rfl, _⟩ := h
    rfl
  · obtain ⟨a, ns, rfl, hS, hns, hT, q⟩ := h
    refine ⟨_, pss_cons (ps_set (i := 1) scLaw.nd rfl (.inl rfl) (pe_op op_incN pe_int (pe_op op_mod (pe_callTy call_int1 (by rfl) mI (by decide +kernel) (pa_cons (pe_def DC hr (by decide) (by rfl) (pa_cons (pv 0) (pa_cons pe_int pa_nil))) pa_nil)) pe_int)))
      (pss_cons (ps_set (i := 2) scLaw.nd rfl (.inl rfl) (pe_def DR hr (by decide) (by rfl) (pa_cons (pv 0) (pa_cons pe_int (pa_cons (pv 1) (pa_cons pe_int pa_nil))))))
      (pss_cons (ps_set (i := 3) scLaw.nd rfl (.inl rfl) (pe_def DR hr (by decide) (by rfl) (pa_cons (pv 0) (pa_cons pe_int (pa_cons (pv 1) (pa_cons pe_int pa_nil))))))
      (pss_cons (ps_asg (pe_def DD hr (by decide) (by rfl) (pa_cons (pv 2) (pa_cons (pv 3) (pa_cons (pv 1) pa_nil)))) (pg_tup rfl (pgs_cons (pg_name (i := 4) scLaw.nd rfl (.inl rfl)) (pgs_cons (pg_name (i := 5) scLaw.nd rfl (.inl rfl)) pgs_nil))))
      (pss_cons (ps_for PassesOwn.never rfl (pi_list (pe_op op_cat (pe_op op_cat (pv 5) (pv 4)) (pe_lc (own := [("_law_line", 11)]) (g := gName 11) (tt := tYes) rfl scLaw.nd (pi_list (pv 4)) (blkOk_by (N := nLaw) (sc := defScope sLaw) (by decide +kernel))
            (fun _ _ _ _ _ => pg_name (i := 11) scLaw.nd rfl (Or.inl rfl)) (fun _ _ _ _ _ => pts_nil)
            (fun _ _ _ _ _ => pe_lc (own := [("_law_item", 12)]) (g := gName 12) (tt := tYes) rfl scLaw.nd (pi_listK (K := K) rfl (pv 11)) (blkOk_by (N := nLaw) (sc := ⟨.function, [(".0", .local), ("_law_line", .local)], false, false, []⟩) (by decide +kernel))
              (fun _ _ _ _ _ => pg_name (i := 12) scLaw.nd rfl (Or.inl rfl)) (fun _ _ _ _ _ => pts_nil) (fun _ _ _ _ _ => pe_un un_neg (pv 12)))))) (pg_name (i := 6) scLaw.nd rfl (.inl rfl))
        (pss_one (ps_if (PW.pt (pw_or (pt_not (pt_truth (pe_def DI hr (by decide) (by rfl) (pa_cons (pv 2) (pa_cons (pv 3) (pa_cons (pv 6) pa_nil)))) (by intro _; rfl))) (pw_or1 (pt_not (pt_truth (pe_callB (cr_anyI rfl) (by rfl) mA (by decide +kernel) (pa_cons (pv 6) pa_nil)) (by intro _; rfl))))))
          (pss_one (ps_ret pe_bl)) pss_nil)))
      (pss_cons (ps_set (i := 7) scLaw.nd rfl (.inl rfl) (pe_def DD hr (by decide) (by rfl) (pa_cons (pv 4) (pa_cons (pv 5) (pa_cons (pv 1) pa_nil)))))
      (pss_cons (ps_if (PW.pt (pw_or (pt_cmpR (op_neD hr.units) (pe_def DD hr (by decide) (by rfl) (pa_cons (pe_ix ix_tup (pv 7) pe_int (fun _ _ => rfl)) (pa_cons (pe_ix ix_tup (pv 7) pe_int (fun _ _ => rfl)) (pa_cons (pv 1) pa_nil)))) (pe_tup (pa_cons (pv 4) (pa_cons (pv 5) pa_nil))) (nomark _))
          (pw_or1 (pt_cmpR (op_neD hr.units) (pe_def DD hr (by decide) (by rfl) (pa_cons (pv 4) (pa_cons (pv 5) (pa_cons (pv 1) pa_nil)))) (pv 7) (nomark _)))))
        (pss_one (ps_ret pe_bl)) pss_nil)
      (pss_cons (ps_for PassesOwn.never rfl (pi_list (pe_op op_cat (pe_lst (pa_cons pe_int (pa_cons pe_int pa_nil))) (pe_slice sl_list (pv 0) (po_some pe_int) (po_some pe_int)))) (pg_name (i := 8) scLaw.nd rfl (.inl rfl))
        (pss_cons (ps_set (i := 6) scLaw.nd rfl (.inl rfl) (pe_def DS hr (by decide) (by rfl) (pa_cons (pv 8) (pa_cons (pv 1) pa_nil))))
        (pss_cons (ps_if (pt_cmpR op_ne (pe_def DI hr (by decide) (by rfl) (pa_cons (pe_ix ix_tup (pv 7) pe_int (fun _ _ => rfl)) (pa_cons (pe_ix ix_tup (pv 7) pe_int (fun _ _ => rfl)) (pa_cons (pv 6) pa_nil)))) (pe_def DI hr (by decide) (by rfl) (pa_cons (pv 2) (pa_cons (pv 3) (pa_cons (pv 6) pa_nil)))) (nomark _)) (pss_one (ps_ret pe_bl)) pss_nil)
        (pss_cons (ps_set (i := 6) scLaw.nd rfl (.inl rfl) (pe_def DM hr (by decide) (by rfl) (pa_cons (pv 8) (pa_cons (pv 4) (pa_cons (pv 5) (pa_cons (pv 1) pa_nil))))))
        (pss_one (ps_if (PW.pt (pw_or (pt_not (pt_truth (pe_def DI hr (by decide) (by rfl) (pa_cons (pv 2) (pa_cons (pv 3) (pa_cons (pv 6) pa_nil)))) (by intro _; rfl)))
            (pw_or1 (pt_not (pt_truth (pe_def DI hr (by decide) (by rfl) (pa_cons (pe_ix ix_tup (pv 7) pe_int (fun _ _ => rfl)) (pa_cons (pe_ix ix_tup (pv 7) pe_int (fun _ _ => rfl)) (pa_cons (pv 6) pa_nil)))) (by intro _; rfl)))))) (pss_one (ps_ret pe_bl)) pss_nil))))))
      (pss_cons (ps_set (i := 9) scLaw.nd rfl (.inl rfl) (pe_def DM hr (by decide) (by rfl) (pa_cons (pe_def DC hr (by decide) (by rfl) (pa_cons (pv 0) (pa_cons pe_int pa_nil))) (pa_cons (pv 4) (pa_cons (pv 5) (pa_cons (pv 1) pa_nil))))))
      (pss_cons (ps_set (i := 10) scLaw.nd rfl (.inl rfl) (pe_def DM hr (by decide) (by rfl) (pa_cons (pe_def DC hr (by decide) (by rfl) (pa_cons (pv 0) (pa_cons pe_int pa_nil))) (pa_cons (pe_ix ix_tup (pv 7) pe_int (fun _ _ => rfl)) (pa_cons (pe_ix ix_tup (pv 7) pe_int (fun _ _ => rfl)) (pa_cons (pv 1) pa_nil))))))
      (pss_cons (ps_if (PW.pt (pw_or (pt_cmpR (op_neD hr.units) (pe_def DD hr (by decide) (by rfl) (pa_cons (pv 4) (pa_cons (pe_op op_cat (pv 5) (pe_lst (pa_cons (pv 9) pa_nil))) (pa_cons (pv 1) pa_nil)))) (pv 7) (nomark _))
          (pw_or1 (pt_cmpR (op_neD hr.units) (pe_def DD hr (by decide) (by rfl) (pa_cons (pv 2) (pa_cons (pe_op op_cat (pe_lst (pa_cons (pv 10) pa_nil)) (pv 3)) (pa_cons (pv 1) pa_nil)))) (pe_tup (pa_cons (pv 4) (pa_cons (pv 5) pa_nil))) (nomark _)))))
        (pss_one (ps_ret pe_bl)) pss_nil)
      (pss_one (ps_ret (pe_cmpR (op_eqD hr.units) (pe_def DD hr (by decide) (by rfl) (pa_cons (pe_ix ix_tup (pv 7) pe_int (fun _ _ => rfl)) (pa_cons (pe_lstRev rfl (by rfl) mL (by rfl) mRv (pe_ix ix_tup (pv 7) pe_int (fun _ _ => rfl))) (pa_cons (pv 1) pa_nil)))) (pe_tup (pa_cons (pv 4) (pa_cons (pv 5) pa_nil))) (nomark _)))))))))))))), ?_⟩
    obtain ⟨m, hm⟩ := Int.eq_ofNat_of_zero_le (show 0 ≤ cellOf ns 0 % 5 from Int.emod_nonneg _ (by omega))
    have hm4 : m ≤ 4 := by
      have := Int.emod_lt_of_pos (cellOf ns 0) (show (0 : Int) < 5 by omega)
      omega
    refine ⟨_, rfl, a, ns, 0, rfl, hS, .inl ⟨_, rfl, _, _, rfl, rfl, by omega, m, rfl, congrArg V.int hm, ?_⟩⟩
    have hS1 : ∀ H', Same H H' → SqL K H' a (ns.map V.int) := fun H' s => ExtN.seq (ExtN.of s) hS
    refine ⟨_, rfl, _, rfl, a, ns, 1, m + 1, 2, rfl, hS1, by omega, by omega, by omega, fun H1 e E s1 LE lE smE => ?_⟩
    refine ⟨_, rfl, _, rfl, a, ns, 4, m + 1, 7, rfl, fun H' s => hS1 H' (s1.trans s), by omega, by omega, by omega, fun H2 c C s2 LC lC smC => ?_⟩
    have p20 : 20 ≤ 2 ^ 176 := by decide
    refine ⟨_, rfl, _, rfl, _, rfl, m, E, C, e, c, rfl, LE.same s2, LC, hm4, by omega, fun v hv => sm_mono (smE v hv) p20, fun v hv => sm_mono (smC v hv) p20, hT.ext (s1.trans s2), fun H3 p f g e3 T3 hp LF LG => ?_⟩
    refine ⟨p, _, rfl, SqT.of hp, rfl, _, _, rfl, _, _, rfl, rfl, ?_⟩
    -- the plain facts
    have hLl : (dual E C).1.length ≤ m + 1 := dual_lines E C
    have hRl : (dual E C).2.length ≤ 42 := dual_rays E C (by omega) lC
    have hGl : (dual (dual E C).1 (dual E C).2).2.length ≤ 7 := Nat.le_trans (dual_facets E C) lC
    have hFl : (dual (dual E C).1 (dual E C).2).1.length ≤ m + 1 := dual_lines _ _
    have hsm := dual_small E C (M := 20) ⟨smE, smC⟩ (by decide)
    have smL : ∀ v ∈ (dual E C).1, Small (2 ^ 31) v := fun v hv => sm_mono (hsm.1 v hv) (bnd_20 m hm4)
    have smR : ∀ v ∈ (dual E C).2, Small (2 ^ 31) v := fun v hv => sm_mono (hsm.2 v hv) (bnd_20 m hm4)
    have hsm2 := dual_small (dual E C).1 (dual E C).2 (M := 2 ^ 31) ⟨smL, smR⟩ (by decide)
    have smF : ∀ v ∈ (dual (dual E C).1 (dual E C).2).1, Small (2 ^ 140) v := fun v hv => sm_mono (hsm2.1 v hv) (bnd_31 m hm4)
    have smG : ∀ v ∈ (dual (dual E C).1 (dual E C).2).2, Small (2 ^ 140) v := fun v hv => sm_mono (hsm2.2 v hv) (bnd_31 m hm4)
    have p31 : (2 : Nat) ^ 31 ≤ 2 ^ 176 := by decide
    have p140 : (2 : Nat) ^ 140 ≤ 2 ^ 176 := by decide
    have lawG := law_gens E C
    have law2 := law_dual2 E C
    have lawS := law_same E C
    have lawM := fun v => law_mixed E C (v := v)
    have lawMo := fun v => law_more E C (v := v)
    have lawFo := fun v => law_follows E C (v := v)
    have lawR := law_reversed E C
    have hSq3 : SqL K H3 a (ns.map V.int) := ExtN.seq e3 (hS1 H2 (s1.trans s2))
    have LE3 : LAt H3 e E := (LE.same s2).ext e3
    have LC3 : LAt H3 c C := LC.ext e3
    -- the generators
    obtain ⟨fs, hf, hfs⟩ := LF
    obtain ⟨gs, hg, hgs⟩ := LG
    have lgs : (gs.map V.ref).length = (dual E C).2.length := by rw [List.length_map, hgs.1]
    have lfs : (fs.map V.ref).length = (dual E C).1.length := by rw [List.length_map, hfs.1]
    refine ⟨_, rfl, _, rfl, g, f, _, _, rfl, rfl, hg, hf, by rw [lgs, lfs]; exact Nat.le_trans (show _ ≤ 100 by omega) (by decide), fun p1 n1 => ?_⟩
    have t1 := same_upd (o := HO.lst (gs.map V.ref ++ fs.map V.ref)) n1
    have hp1 : upd H3 p1 (HO.lst (gs.map V.ref ++ fs.map V.ref)) p1 = some (.lst ((gs ++ fs).map V.ref)) := by rw [upd_same, List.map_append]
    generalize upd H3 p1 _ = H4 at *
    refine ⟨.ref f, rfl, f, rfl, ⟨_, SqL.of (t1 _ _ hf)⟩, fun D nD => ?_⟩
    refine lc_mk (walk_list (xs := fs.map V.ref)) (fun i y H => ∃ p v, y = V.ref p ∧ (dual E C).1[i]? = some v ∧ p ≠ D ∧ VecAt H p (neg v)) (fun i y H H' k ⟨p, v, e1, e2, e3, e4⟩ => ⟨p, v, e1, e2, e3, k _ _ e4 e3⟩) (fun H' s' => SqL.of (s' _ _ (t1 _ _ hf))) nD (by rw [lfs]; exact Nat.le_trans (show _ ≤ 100 by omega) (by decide)) ?_ (mono_name 11) ?_
    · rintro i x Ha H' Nx hi sa ⟨o, hDo⟩ ⟨rfl, hx⟩ cont
      obtain ⟨la, hla, rfl⟩ := refs_at hx
      obtain ⟨v, hv, hva⟩ := hfs.of hla
      refine ⟨rfl, _, rfl, la, rfl, ⟨_, SqL.of ((hva.same t1).same sa)⟩, fun D2 nD2 => ?_⟩
      refine lc_mk (walk_list (xs := il v)) (fun j y _ => ∃ h : j < m + 1, y = .int (neg v ⟨j, h⟩)) (fun i y H H' _ r => r) (fun H' s' => SqL.of (s' _ _ ((hva.same t1).same sa))) nD2 (by rw [il_len]; exact Nat.le_trans (show m + 1 ≤ 16 by omega) (by decide)) ?_ (mono_name 12) ?_
      · rintro j x Hb H'' Nx2 hj sb _ ⟨rfl, hx⟩ cont2
        obtain ⟨hj', rfl⟩ := il_at hx
        exact ⟨rfl, _, rfl, _, rfl, cont2 _ _ (Same.refl _) ⟨hj', rfl⟩⟩
      · intro Hc ys sc hD2 hl hr
        refine cont _ _ sc ⟨D2, v, rfl, hv, (ne_of_none hDo nD2).symm, ?_⟩
        show Hc D2 = some (.lst (il (neg v)))
        rw [hD2, il_of (v := neg v) (hl.trans (il_len _)) hr]
    intro H5 ys s5 hD hlen hr
    obtain ⟨ms, rfl, hms⟩ := vecs_of (H := H5) (vs := (dual E C).1.map neg) (ys := ys) (by rw [hlen, lfs, List.length_map]) (fun i y e => by
      obtain ⟨p, v, rfl, e2, _, e4⟩ := hr i y e
      exact ⟨p, neg v, rfl, by rw [List.getElem?_map, e2]; rfl, e4⟩)
    have lms : (ms.map V.ref).length = (dual E C).1.length := by rw [List.length_map, hms.1, List.length_map]
    refine ⟨p1, D, _, _, rfl, rfl, s5 _ _ hp1, hD, by rw [lms, List.length_map, List.length_append, hgs.1, hfs.1]; exact Nat.le_trans (show _ ≤ 100 by omega) (by decide), fun p2 n2 => ?_⟩
    have t2 := same_upd (o := HO.lst ((gs ++ fs).map V.ref ++ ms.map V.ref)) n2
    have hp2 : upd H5 p2 (HO.lst ((gs ++ fs).map V.ref ++ ms.map V.ref)) p2 = some (.lst (((gs ++ fs) ++ ms).map V.ref)) := by rw [upd_same, ← List.map_append]
    generalize upd H5 p2 _ = H6 at *
    have s36 : Same H3 H6 := (t1.trans s5).trans t2
    have hall : VecsAt H6 ((gs ++ fs) ++ ms) (((dual E C).2 ++ (dual E C).1) ++ (dual E C).1.map neg) := (((hgs.append hfs).same (t1.trans s5)).append hms).same t2
    have hallL : ∀ v ∈ (((dual E C).2 ++ (dual E C).1) ++ (dual E C).1.map neg), innB E C v = true ∧ (List.ofFn v).any (· != 0) = true ∧ Small (2 ^ 31) v := fun v hv => by
      have hs : Small (2 ^ 31) v := by
        rcases List.mem_append.mp hv with h | h
        · rcases List.mem_append.mp h with h | h
          · exact smR v h
          · exact smL v h
        · obtain ⟨l, hl, rfl⟩ := List.mem_map.mp h
          intro i
          show (-(l i)).natAbs ≤ _
          rw [Int.natAbs_neg]
          exact smL l hl i
      have := lawG v (by
        rcases List.mem_append.mp hv with h | h
        · rcases List.mem_append.mp h with h | h
          · exact .inl h
          · exact .inr (.inl h)
        · obtain ⟨l, hl, rfl⟩ := List.mem_map.mp h
          exact .inr (.inr ⟨l, hl, rfl⟩))
      exact ⟨innB_iff.mpr this.1, any_ne this.2, hs⟩
    generalize hW : (((dual E C).2 ++ (dual E C).1) ++ (dual E C).1.map neg) = W at *
    generalize (gs ++ fs) ++ ms = ws at *
    have wE : ∀ x ∈ E, Wd 100000 x := fun x hx => small_big (smE x hx) p20
    have wC : ∀ x ∈ C, Wd 100000 x := fun x hx => small_big (smC x hx) p20
    have LE6 := LE3.same s36
    have LC6 := LC3.same s36
    refine ⟨p2, rfl, ⟨_, SqL.of hp2⟩, for_list (K := K) (a := p2) (xs := ws.map V.ref) (fun i σ H7 => (∃ y6 y7 y8 y9 y10 y11 y12 : Option V, σ = [some (.ref a), some (.int ((m + 1 : Nat) : Int)), some (.ref e), some (.ref c), some (.ref f), some (.ref g), y6, y7, y8, y9, y10, y11, y12]) ∧ Same H6 H7)
      ⟨⟨_, _, _, _, _, _, _, rfl⟩, Same.refl _⟩ (fun i σ H3 _ ⟨_, s3⟩ => SqL.of (s3 _ _ hp2)) ?_ ?_⟩
    · rintro i x σ H7 hi ⟨⟨y6, y7, y8, y9, y10, y11, y12, rfl⟩, s7⟩
      obtain ⟨va, hva, rfl⟩ := refs_at hi
      obtain ⟨v, hv, hvv⟩ := hall.of hva
      obtain ⟨g1, g2, g3⟩ := hallL v (List.mem_of_getElem? hv)
      have hv7 := hvv.same s7
      refine ⟨_, rfl, _, rfl, _, rfl, m + 1, E, C, v, e, c, va, rfl, LE6.same s7, LC6.same s7, hv7, wE, wC, small_big g3 p31, by omega, by omega, by omega, fun H8 s8 => ⟨true, g1.symm, ite2 (fun z => by cases z) (fun _ => ?_)⟩⟩
      exact ⟨_, rfl, va, List.ofFn v, rfl, SqL.of (hv7.same s8), true, g2.symm, ite2 (fun z => by cases z) fun _ => ⟨⟨_, _, _, _, _, _, _, rfl⟩, s7.trans s8⟩⟩
    rintro σ H7 ⟨⟨y6, y7, y8, y9, y10, y11, y12, rfl⟩, s7⟩
    have s37 : Same H3 H7 := s36.trans s7
    -- the faces
    refine ⟨_, rfl, _, rfl, _, rfl, m, (dual E C).1, (dual E C).2, f, g, rfl, LAt.same ⟨fs, hf, hfs⟩ s37, LAt.same ⟨gs, hg, hgs⟩ s37, hm4, by omega, fun v hv => sm_mono (smL v hv) p31, fun v hv => sm_mono (smR v hv) p31, T3.ext s37, fun H8 pf f' g' e8 T8 hpf LF' LG' => ?_⟩
    have L8 : LawAt K Ts a ns e c f g pf E C H8 := ⟨ExtN.seq ((ExtN.of s37).trans e8) hSq3, T8, (LE3.same s37).ext e8, (LC3.same s37).ext e8, LAt.ext (LAt.same ⟨fs, hf, hfs⟩ s37) e8, LAt.ext (LAt.same ⟨gs, hg, hgs⟩ s37) e8, f', g', hpf, LF', LG'⟩
    clear hall hallL hW hgs hfs hms hr hlen hD
    have two : ∀ x y : V, [x, y].length ≤ sizeLine := fun _ _ => (show 2 ≤ sizeLine by decide)
    have at0 : ∀ x y : V, atI [x, y] 0 = some x := fun x y => at_of (j := 0) rfl rfl
    have at1 : ∀ x y : V, atI [x, y] 1 = some y := fun x y => at_of (j := 1) rfl rfl
    have pe : ∀ (X Y : List (Vec (m + 1))), PairAt H8 pf X Y → True := fun _ _ _ => trivial
    -- dual of the faces
    refine ⟨_, rfl, pf, _, _, _, rfl, rfl, SqT.of hpf, at0 _ _, _, rfl, pf, _, _, _, rfl, rfl, SqT.of hpf, at1 _ _, _, rfl, m, (dual (dual E C).1 (dual E C).2).1, (dual (dual E C).1 (dual E C).2).2, f', g', rfl, LF', LG', hm4, by omega, fun v hv => sm_mono (smF v hv) p140, fun v hv => sm_mono (smG v hv) p140, T8, fun H9 p9 f9 g9 e9 T9 hp9 LF9 LG9 => ?_⟩
    have L9 := L8.ext e9 T9
    have P9 : PairAt H9 p9 (dual E C).1 (dual E C).2 := by
      rw [law2] at LF9 LG9
      exact ⟨f9, g9, hp9, LF9, LG9⟩
    refine ⟨_, rfl, _, rfl, two _ _, fun t9 nt9 => ne_pair (P9.same (same_upd nt9)) ⟨f, g, upd_same, L9.lf.same (same_upd nt9), L9.lg.same (same_upd nt9)⟩ ⟨_, rfl, ite2 (fun z => by cases z) fun _ => ?_⟩⟩
    have L10 := L9.same (same_upd (o := HO.tup [.ref f, .ref g]) nt9)
    generalize upd H9 t9 _ = H10 at *
    have smLb : ∀ v ∈ (dual E C).1, Small (2 ^ 176) v := fun v hv => sm_mono (smL v hv) p31
    have smRb : ∀ v ∈ (dual E C).2, Small (2 ^ 176) v := fun v hv => sm_mono (smR v hv) p31
    have wF : ∀ x ∈ (dual (dual E C).1 (dual E C).2).1, Wd 100000 x := fun x hx => small_big (smF x hx) p140
    have wG : ∀ x ∈ (dual (dual E C).1 (dual E C).2).2, Wd 100000 x := fun x hx => small_big (smG x hx) p140
    have mixB : ∀ u : Vec (m + 1), Small ((3 * (dual E C).1.length + 4 * (dual E C).2.length) * 2 ^ 31) u → Small (2 ^ 176) u := fun u h => sm_mono h (Nat.le_trans (Nat.mul_le_mul_right _ (show _ ≤ 183 by omega)) (by decide))
    have mixF : ∀ u : Vec (m + 1), Small ((3 * (dual (dual E C).1 (dual E C).2).1.length + 4 * (dual (dual E C).1 (dual E C).2).2.length) * 2 ^ 140) u → Small (2 ^ 176) u := fun u h => sm_mono h (Nat.le_trans (Nat.mul_le_mul_right _ (show _ ≤ 43 by omega)) (by decide))
    have m31 : (2 : Nat) ^ 31 ≤ 2 ^ 1000 := Nat.pow_le_pow_right (by decide) (by decide)
    have m140 : (2 : Nat) ^ 140 ≤ 2 ^ 1000 := Nat.pow_le_pow_right (by decide) (by decide)
    refine ⟨_, rfl, _, rfl, _, rfl, m, (dual E C).1, (dual E C).2, f, g, rfl, L10.lf, L10.lg, hm4, by omega, smLb, smRb, L10.tb, fun H11 p11 f11 g11 e11 T11 hp11 LF11 LG11 => ⟨_, rfl, ne_pair ⟨f11, g11, hp11, LF11, LG11⟩ (L10.pr.ext e11) ⟨_, rfl, ite2 (fun z => by cases z) fun _ => ?_⟩⟩⟩
    have L11 := L10.ext e11 T11
    -- the cells
    refine ⟨two _ _, fun pa npa => ⟨_, rfl, _, rfl, _, rfl, a, _, rfl, (L11.same (same_upd npa)).sc, fun pb npb => ⟨pa, pb, _, _, rfl, rfl, same_upd npb _ _ upd_same, upd_same, ?_, fun pc npc => ⟨pc, rfl, ⟨_, SqL.of upd_same⟩, ?_⟩⟩⟩⟩
    · have := cutV_length (ns.map V.int) (some 12) (some 40)
      rw [List.length_map] at this
      exact Nat.le_trans (show _ ≤ 2 + 63 from Nat.add_le_add (Nat.le_refl 2) (Nat.le_trans this hns)) (by decide)
    have L12 := ((L11.same (same_upd (o := HO.lst [V.int 1, V.int 5]) npa)).same (same_upd (o := HO.lst (cutV (ns.map V.int) (some 12) (some 40))) npb)).same (same_upd (o := HO.lst ([V.int 1, V.int 5] ++ cutV (ns.map V.int) (some 12) (some 40))) npc)
    have hpc : upd (upd (upd H11 pa (HO.lst [V.int 1, V.int 5])) pb (HO.lst (cutV (ns.map V.int) (some 12) (some 40)))) pc (HO.lst ([V.int 1, V.int 5] ++ cutV (ns.map V.int) (some 12) (some 40))) pc = some (HO.lst ([V.int 1, V.int 5] ++ cutV (ns.map V.int) (some 12) (some 40))) := upd_same
    generalize upd (upd (upd H11 pa (HO.lst [V.int 1, V.int 5])) pb (HO.lst (cutV (ns.map V.int) (some 12) (some 40)))) pc (HO.lst ([V.int 1, V.int 5] ++ cutV (ns.map V.int) (some 12) (some 40))) = H12 at *
    have hint : ∀ x ∈ [V.int 1, V.int 5] ++ cutV (ns.map V.int) (some 12) (some 40), ∃ z, x = V.int z := fun x hx => by
      rcases List.mem_append.mp hx with h | h
      · rcases List.mem_cons.mp h with h | h
        · exact ⟨_, h⟩
        · exact ⟨_, List.mem_singleton.mp h⟩
      · unfold cutV at h
        obtain ⟨z, _, hz⟩ := List.mem_map.mp (List.mem_of_mem_drop (List.mem_of_mem_take h))
        exact ⟨z, hz.symm⟩
    generalize [V.int 1, V.int 5] ++ cutV (ns.map V.int) (some 12) (some 40) = xs at *
    refine for_list (K := K) (a := pc) (xs := xs) (fun i σ H7 => (∃ y6 y8 y9 y10 y11 y12 : Option V, σ = [some (.ref a), some (.int ((m + 1 : Nat) : Int)), some (.ref e), some (.ref c), some (.ref f), some (.ref g), y6, some (.ref pf), y8, y9, y10, y11, y12]) ∧ Same H12 H7)
      ⟨⟨_, _, _, _, _, _, rfl⟩, Same.refl _⟩ (fun i σ H3 _ ⟨_, s3⟩ => SqL.of (s3 _ _ hpc)) ?_ ?_
    · rintro i x σ H13 hi ⟨⟨y6, y8, y9, y10, y11, y12, rfl⟩, s13⟩
      obtain ⟨z, rfl⟩ := hint x (List.mem_of_getElem? hi)
      refine ⟨_, rfl, _, rfl, z, m + 1, rfl, by omega, by omega, fun H14 pv v s14 nv hv sv => ?_⟩
      have s1' := s13.trans s14
      have L14 := L12.same s1'
      have vw : Wd 100000 v := small_big sv p20
      obtain ⟨f', g', hpf, LF', LG'⟩ := L14.pr
      refine ⟨_, rfl, pf, _, _, _, rfl, rfl, SqT.of hpf, at0 _ _, _, rfl, pf, _, _, _, rfl, rfl, SqT.of hpf, at1 _ _, _, rfl, m + 1, _, _, v, f', g', pv, rfl, LF', LG', hv, wF, wG, vw, by omega, by omega, by omega, fun H15 s15 => ?_⟩
      refine ⟨_, rfl, _, rfl, _, rfl, m + 1, E, C, v, e, c, pv, rfl, L14.le.same s15, L14.lc.same s15, hv.same s15, wE, wC, vw, by omega, by omega, by omega, fun H16 s16 => ⟨rfl, _, rfl, ite2 (fun z => ?_) (fun _ => ?_)⟩⟩
      · have hs : innB (dual (dual E C).1 (dual E C).2).1 (dual (dual E C).1 (dual E C).2).2 v = innB E C v := by
          rw [Bool.eq_iff_iff, innB_iff, innB_iff]
          exact lawS v
        rw [hs] at z
        simp at z
      have s2' := (s1'.trans s15).trans s16
      have L16 := L12.same s2'
      refine ⟨_, rfl, _, rfl, _, rfl, _, rfl, z, m + 1, 2 ^ 31, _, _, f, g, rfl, L16.lf, L16.lg, smL, smR, m31, by omega, by omega, by omega, fun H17 pu u s17 nu hu mu su => ?_⟩
      have uw : Wd 100000 u := small_big (mixB u su) (Nat.le_refl _)
      obtain ⟨lm1, lm2⟩ := lawM u mu
      have s3' := s2'.trans s17
      have L17 := L12.same s3'
      refine ⟨_, rfl, _, rfl, _, rfl, m + 1, E, C, u, e, c, pu, rfl, L17.le, L17.lc, hu, wE, wC, uw, by omega, by omega, by omega, fun H18 s18 => ⟨true, (innB_iff.mpr lm1).symm, ite2 (fun z => by cases z) (fun _ => ?_)⟩⟩
      have L18 := L17.same s18
      obtain ⟨f', g', hpf, LF', LG'⟩ := L18.pr
      exact ⟨_, rfl, pf, _, _, _, rfl, rfl, SqT.of hpf, at0 _ _, _, rfl, pf, _, _, _, rfl, rfl, SqT.of hpf, at1 _ _, _, rfl, m + 1, _, _, u, f', g', pu, rfl, LF', LG', hu.same s18, wF, wG, uw, by omega, by omega, by omega, fun H19 s19 => ⟨true, (innB_iff.mpr lm2).symm, ite2 (fun z => by cases z) (fun _ => ⟨⟨_, _, _, _, _, _, rfl⟩, (s3'.trans s18).trans s19⟩)⟩⟩
    rintro σ H13 ⟨⟨y6, y8, y9, y10, y11, y12, rfl⟩, s13⟩
    have L13 := L12.same s13
    -- a sum more
    refine ⟨_, rfl, a, ns, 40, rfl, L13.sc, _, rfl, _, rfl, _, rfl, cellOf ns 40, m + 1, 2 ^ 31, _, _, f, g, rfl, L13.lf, L13.lg, smL, smR, m31, by omega, by omega, by omega, fun H14 pm um s14 nm hum mum sum' => ?_⟩
    have L14 := L13.same s14
    obtain ⟨f', g', hpf, LF', LG'⟩ := L14.pr
    refine ⟨_, rfl, a, ns, 41, rfl, L14.sc, _, rfl, pf, _, _, _, rfl, rfl, SqT.of hpf, at0 _ _, _, rfl, pf, _, _, _, rfl, rfl, SqT.of hpf, at1 _ _, _, rfl, cellOf ns 41, m + 1, 2 ^ 140, _, _, f', g', rfl, LF', LG', smF, smG, m140, by omega, by omega, by omega, fun H15 pw uw s15 nw huw muw suw => ?_⟩
    have L15 := L14.same s15
    have hum15 := hum.same s15
    have one : ∀ x : V, [x].length ≤ sizeLine := fun _ => (show 1 ≤ sizeLine by decide)
    -- dual with a sum more
    obtain ⟨gs, hg, hgs⟩ := L15.lg
    refine ⟨_, rfl, _, rfl, _, rfl, one _, fun pd npd => ?_⟩
    have sd := same_upd (o := HO.lst [V.ref pm]) npd
    refine ⟨g, pd, _, _, rfl, rfl, sd _ _ hg, upd_same, ?_, fun pe npe => ?_⟩
    · rw [List.length_map, hgs.1]
      exact Nat.le_trans (show _ + 1 ≤ 43 by omega) (by decide)
    have se := same_upd (o := HO.lst (gs.map V.ref ++ [V.ref pm])) npe
    have hpe : upd (upd H15 pd (HO.lst [V.ref pm])) pe (HO.lst (gs.map V.ref ++ [V.ref pm])) pe = some (.lst ((gs ++ [pm]).map V.ref)) := by rw [upd_same, List.map_append]; rfl
    generalize upd (upd H15 pd (HO.lst [V.ref pm])) pe (HO.lst (gs.map V.ref ++ [V.ref pm])) = H16 at *
    have s16 : Same H15 H16 := sd.trans se
    have L16 := L15.same s16
    refine ⟨_, rfl, m, (dual E C).1, (dual E C).2 ++ [um], f, pe, rfl, L16.lf, ⟨gs ++ [pm], hpe, (hgs.append (VecsAt.one hum15)).same s16⟩, hm4, by rw [List.length_append, List.length_singleton]; omega, smLb, fun v hv => ?_, L16.tb, fun H17 p17 f17 g17 e17 T17 hp17 LF17 LG17 => ?_⟩
    · rcases List.mem_append.mp hv with h | h
      · exact smRb v h
      · rw [List.mem_singleton.mp h]
        exact mixB um sum'
    have P17 : PairAt H17 p17 (dual (dual E C).1 (dual E C).2).1 (dual (dual E C).1 (dual E C).2).2 := by
      rw [lawMo um mum] at LF17 LG17
      exact ⟨f17, g17, hp17, LF17, LG17⟩
    have L17 := L16.ext e17 T17
    have huw17 : VecAt H17 pw uw := (huw.same s16).ext e17
    refine ⟨_, rfl, ne_pair P17 L17.pr ⟨_, rfl, ite2 (fun z => by cases z) fun _ => ?_⟩⟩
    -- dual with what follows
    obtain ⟨cs, hc, hcs⟩ := L17.lc
    refine ⟨_, rfl, _, rfl, one _, fun pd2 npd2 => ?_⟩
    have sd2 := same_upd (o := HO.lst [V.ref pw]) npd2
    refine ⟨_, rfl, pd2, c, _, _, rfl, rfl, upd_same, sd2 _ _ hc, ?_, fun pe2 npe2 => ?_⟩
    · rw [List.length_map, hcs.1]
      exact Nat.le_trans (show 1 + _ ≤ 8 by omega) (by decide)
    have se2 := same_upd (o := HO.lst ([V.ref pw] ++ cs.map V.ref)) npe2
    have hpe2 : upd (upd H17 pd2 (HO.lst [V.ref pw])) pe2 (HO.lst ([V.ref pw] ++ cs.map V.ref)) pe2 = some (.lst ((pw :: cs).map V.ref)) := by rw [upd_same]; rfl
    generalize upd (upd H17 pd2 (HO.lst [V.ref pw])) pe2 (HO.lst ([V.ref pw] ++ cs.map V.ref)) = H18 at *
    have s18 : Same H17 H18 := sd2.trans se2
    have L18 := L17.same s18
    refine ⟨_, rfl, m, E, uw :: C, e, pe2, rfl, L18.le, ⟨pw :: cs, hpe2, ((VecsAt.one huw17).append hcs).same s18⟩, hm4, by rw [List.length_cons]; omega, fun v hv => sm_mono (smE v hv) p20, fun v hv => ?_, L18.tb, fun H19 p19 f19 g19 e19 T19 hp19 LF19 LG19 => ?_⟩
    · rcases List.mem_cons.mp hv with h | h
      · rw [h]
        exact mixF uw suw
      · exact sm_mono (smC v h) p20
    have P19 : PairAt H19 p19 (dual E C).1 (dual E C).2 := by
      rw [lawFo uw muw] at LF19 LG19
      exact ⟨f19, g19, hp19, LF19, LG19⟩
    have L19 := L18.ext e19 T19
    refine ⟨_, rfl, _, rfl, two _ _, fun t19 nt19 => ne_pair (P19.same (same_upd nt19)) ⟨f, g, upd_same, L19.lf.same (same_upd nt19), L19.lg.same (same_upd nt19)⟩ ⟨_, rfl, ite2 (fun z => by cases z) fun _ => ?_⟩⟩
    have L20 := L19.same (same_upd (o := HO.tup [.ref f, .ref g]) nt19)
    generalize upd H19 t19 _ = H20 at *
    -- the faces in any order
    obtain ⟨f', g', hpf, LF', gs', hg', hgs'⟩ := L20.pr
    refine ⟨_, rfl, pf, _, _, _, rfl, rfl, SqT.of hpf, at0 _ _, _, rfl, pf, _, _, _, rfl, rfl, SqT.of hpf, at1 _ _, g', _, rfl, SqL.of hg', fun pr npr => ?_⟩
    have sr := same_upd (o := HO.lst (gs'.map V.ref).reverse) npr
    have hpr : upd H20 pr (HO.lst (gs'.map V.ref).reverse) pr = some (.lst (gs'.reverse.map V.ref)) := by rw [upd_same, List.map_reverse]
    have L21 := L20.same sr
    generalize upd H20 pr (HO.lst (gs'.map V.ref).reverse) = H21 at *
    refine ⟨_, rfl, m, (dual (dual E C).1 (dual E C).2).1, (dual (dual E C).1 (dual E C).2).2.reverse, f', pr, rfl, LF'.same sr, ⟨gs'.reverse, hpr, hgs'.reverse.same sr⟩, hm4, by rw [List.length_reverse]; omega, fun v hv => sm_mono (smF v hv) p140, fun v hv => sm_mono (smG v (List.mem_reverse.mp hv)) p140, L21.tb, fun H22 p22 f22 g22 e22 T22 hp22 LF22 LG22 => ?_⟩
    have L22 := L21.ext e22 T22
    have P22 : PairAt H22 p22 (dual E C).1 (dual E C).2 := by
      rw [lawR] at LF22 LG22
      exact ⟨f22, g22, hp22, LF22, LG22⟩
    exact ⟨_, rfl, _, rfl, two _ _, fun t22 nt22 => eq_pair (P22.same (same_upd nt22)) ⟨f, g, upd_same, L22.lf.same (same_upd nt22), L22.lg.same (same_upd nt22)⟩ (q _)⟩
end
end FW
set_option maxRecDepth 100000
set_option maxHeartbeats 4000000
/-! What the top has written; the end. -/
namespace FW
open PySem PySem.Spec PyProof.Rows L2 Fm LamX
structure DefRow (K : PySem.W.Frag) (x : Str) (st : Stmt) (f : Addr) (fd : FuncData) : Prop where
  gl : PySem.W.nsIn K mainGlobals x = some (some (.ref f))
  fn : Fun K x x st f fd
structure MetRow (K : PySem.W.Frag) (C : Addr) (x qual : Str) (st : Stmt) (f : Addr) (fd : FuncData) : Prop where
  at_ : PySem.W.findIn K (.ref C) x = some (some (.ref f))
  is : PySem.W.isFn K (.ref f) = true
  fn : Fun K x qual st f fd
/-- the names of the top -/
structure NameRow (K : PySem.W.Frag) : Prop where
  len : PySem.W.nsIn K mainGlobals "len" = some none
  range : PySem.W.nsIn K mainGlobals "range" = some none
  sum : PySem.W.nsIn K mainGlobals "sum" = some none
  zip : PySem.W.nsIn K mainGlobals "zip" = some none
  list : PySem.W.nsIn K mainGlobals "list" = some none
  sorted : PySem.W.nsIn K mainGlobals "sorted" = some none
  enumerate : PySem.W.nsIn K mainGlobals "enumerate" = some none
  int : PySem.W.nsIn K mainGlobals "int" = some none
  abs : PySem.W.nsIn K mainGlobals "abs" = some none
  all : PySem.W.nsIn K mainGlobals "all" = some none
  any : PySem.W.nsIn K mainGlobals "any" = some none
  max : PySem.W.nsIn K mainGlobals "max" = some none
  reversed : PySem.W.nsIn K mainGlobals "reversed" = some none
  gcd : PySem.W.nsIn K mainGlobals "gcd" = some (some (.builtin "math.gcd"))
/-- echelon, its code, its table -/
structure EchRow (K : PySem.W.Frag) (f c Pt : Addr) (oc kV0 doc pm ct : Value) (od an : Option Addr) (osl : Array (Option Value)) : Prop where
  gl : PySem.W.nsIn K mainGlobals "echelon" = some (some (.ref f))
  lk : K.lookup f = some ⟨oc, od, .func (PySem.W.fnOf "echelon" "echelon" (defArgs sEch) (defBody sEch) (defScope sEch) .none kV0 doc pm an (.ref c) ct), osl⟩
  cd : PySem.W.codeIn K (.ref c) "echelon" = true
  kp : PySem.W.keepIn K (.ref f) = true
  hd : PySem.W.codeHdIn K c Pt = true
  no : K.lookup Pt = none
section
variable {w : World} {K : PySem.W.Frag} {mg : Str → Option Value} {h : Heap} {l : PySem.W.OpenLaw} {fa C : Addr}
theorem DefRow.to {P : Program} {base : Heap} {k : Nat} {x : Str} {st : Stmt} {f : Addr} {fd : FuncData} {ps : List Str} {sp : Sp} (d : DefRow K x st f fd) (X : K.In h) (G : h.Ns mainGlobals mg) (b : Binds K fd ps []) (ok : FnOk P w K mg base CX0 k f fd ps sp) : DefAt P w K mg base k x ps sp f fd :=
  ⟨d.fn.kp, b, PySem.W.mg_of X G d.gl, ok⟩
theorem MetRow.to {P : Program} {base : Heap} {k : Nat} {x qual : Str} {st : Stmt} {f : Addr} {fd : FuncData} {ps : List Str} {sp : Sp} (d : MetRow K C x qual st f fd) (b : Binds K fd ps []) (ok : FnOk P w K mg base CX0 k f fd ps sp) : MetAt P w K mg base k C x ps sp f fd :=
  ⟨⟨d.at_, d.is, d.fn.kp⟩, b, ok⟩
theorem all_mk (X : K.In h) (G : h.Ns mainGlobals mg) (hfa : mg "law" = some (.ref fa)) (N : NameRow K)
    (d2 : ∃ f fd, DefRow K "common_divisor" sGcd f fd) (d3 : ∃ f fd, DefRow K "primitive" sPrim f fd) (d4 : ∃ f fd, DefRow K "dot" sDot f fd) (d5 : ∃ f fd, DefRow K "combined" sComb f fd) (d6 : ∃ f fd, DefRow K "pivot_of" sPiv f fd)
    (d7 : ∃ f fd, DefRow K "cleared" sClr f fd) (d8 : ∃ f c Pt oc kV0 doc pm ct od an osl, EchRow K f c Pt oc kV0 doc pm ct od an osl ∧ h.get? Pt = some { cls := .none, data := .fields #[] }) (d9 : ∃ f fd, DefRow K "reduced" sRed f fd)
    (d11 : ∃ C, TxtB K C ∧ PySem.W.nsIn K mainGlobals "Builder" = some (some (.ref C)) ∧ PySem.W.makesIn K C = true ∧ PySem.W.keepIn K (.ref C) = true ∧ (∃ f fd, MetRow K C "__init__" "Builder.__init__" sInit f fd) ∧ (∃ f fd, MetRow K C "turn_line" "Builder.turn_line" sTurn f fd) ∧
      (∃ f fd, MetRow K C "add" "Builder.add" sAdd f fd) ∧ (∃ f fd, MetRow K C "joined" "Builder.joined" sJoin f fd) ∧ ∃ f fd, MetRow K C "are_neighbours" "Builder.are_neighbours" sNb f fd)
    (d12 : ∃ f fd, DefRow K "dual" sDual f fd) (d14 : ∃ f fd, DefRow K "_law_cell" sCell f fd) (d15 : ∃ f fd, DefRow K "_law_draws" sDraws f fd) (d18 : ∃ f fd, DefRow K "_law_dot" sLDot f fd) (d19 : ∃ f fd, DefRow K "_law_sum" sLSum f fd)
    (d21 : ∃ f fd, DefRow K "_law_small" sSmall f fd) (d22 : ∃ f fd, DefRow K "_law_rows" sRows f fd) (d23 : ∃ f fd, DefRow K "_law_in" sIn f fd) (d24 : ∃ f fd, DefRow K "_law_mixed" sMixed f fd) (d25 : ∃ f fd, DefRow K "law" sLaw f fd) :
    LawAtS l w K CX0 11 63 "_law_script" mg fa h := by
  obtain ⟨f2, fd2, d2⟩ := d2
  obtain ⟨f3, fd3, d3⟩ := d3
  obtain ⟨f4, fd4, d4⟩ := d4
  obtain ⟨f5, fd5, d5⟩ := d5
  obtain ⟨f6, fd6, d6⟩ := d6
  obtain ⟨f7, fd7, d7⟩ := d7
  obtain ⟨f8, c, Pt, oc, kV0, doc, pm, ct, od, an, osl, d8, hPt⟩ := d8
  obtain ⟨f9, fd9, d9⟩ := d9
  obtain ⟨C, TB, mB, mk, kC, ⟨g0, gd0, m0⟩, ⟨g1, gd1, m1⟩, ⟨g2, gd2, m2⟩, ⟨g3, gd3, m3⟩, ⟨g4, gd4, m4⟩⟩ := d11
  obtain ⟨f12, fd12, d12⟩ := d12
  obtain ⟨f14, fd14, d14⟩ := d14
  obtain ⟨f15, fd15, d15⟩ := d15
  obtain ⟨f18, fd18, d18⟩ := d18
  obtain ⟨f19, fd19, d19⟩ := d19
  obtain ⟨f21, fd21, d21⟩ := d21
  obtain ⟨f22, fd22, d22⟩ := d22
  obtain ⟨f23, fd23, d23⟩ := d23
  obtain ⟨f24, fd24, d24⟩ := d24
  obtain ⟨f25, fd25, d25⟩ := d25
  have e := hfa.symm.trans (PySem.W.mg_of X G d25.gl)
  cases e
  have none_of : ∀ {x : Str}, PySem.W.nsIn K mainGlobals x = some none → mg x = none := fun z => PySem.W.mg_none_of X G z
  have b2 := d2.fn.binds (ps := ["vector"]) fun _ _ _ _ _ _ us hl => match us, hl with | [_], _ => rfl
  have b3 := d3.fn.binds (ps := ["vector"]) fun _ _ _ _ _ _ us hl => match us, hl with | [_], _ => rfl
  have b4 := d4.fn.binds (ps := ["first", "second"]) fun _ _ _ _ _ _ us hl => match us, hl with | [_, _], _ => rfl
  have b5 := d5.fn.binds (ps := ["first", "vector", "second", "other"]) fun _ _ _ _ _ _ us hl => match us, hl with | [_, _, _, _], _ => rfl
  have b6 := d6.fn.binds (ps := ["vector"]) fun _ _ _ _ _ _ us hl => match us, hl with | [_], _ => rfl
  have b7 := d7.fn.binds (ps := ["vector", "row", "column"]) fun _ _ _ _ _ _ us hl => match us, hl with | [_, _, _], _ => rfl
  have b8 := (fun_mk (st := sEch) d8.lk d8.cd d8.kp).binds (ps := ["rows"]) fun _ _ _ _ _ _ us hl => match us, hl with | [_], _ => rfl
  have b9 := d9.fn.binds (ps := ["vector", "rows"]) fun _ _ _ _ _ _ us hl => match us, hl with | [_, _], _ => rfl
  have c0 := m0.fn.binds (ps := ["self", "size"]) fun _ _ _ _ _ _ us hl => match us, hl with | [_, _], _ => rfl
  have c1 := m1.fn.binds (ps := ["self", "condition"]) fun _ _ _ _ _ _ us hl => match us, hl with | [_, _], _ => rfl
  have c2 := m2.fn.binds (ps := ["self", "condition", "exact"]) fun _ _ _ _ _ _ us hl => match us, hl with | [_, _, _], _ => rfl
  have c3 := m3.fn.binds (ps := ["self", "positive", "negative", "bit"]) fun _ _ _ _ _ _ us hl => match us, hl with | [_, _, _, _], _ => rfl
  have c4 := m4.fn.binds (ps := ["self", "one", "other", "shared"]) fun _ _ _ _ _ _ us hl => match us, hl with | [_, _, _, _], _ => rfl
  have b12 := d12.fn.binds (ps := ["equations", "conditions", "size"]) fun _ _ _ _ _ _ us hl => match us, hl with | [_, _, _], _ => rfl
  have b14 := d14.fn.binds (ps := ["_law_script", "_law_k"]) fun _ _ _ _ _ _ us hl => match us, hl with | [_, _], _ => rfl
  have b15 := d15.fn.binds (ps := ["_law_cell_here", "_law_limits"]) fun _ _ _ _ _ _ us hl => match us, hl with | [_, _], _ => rfl
  have b18 := d18.fn.binds (ps := ["_law_first", "_law_second"]) fun _ _ _ _ _ _ us hl => match us, hl with | [_, _], _ => rfl
  have b19 := d19.fn.binds (ps := ["_law_first", "_law_vector", "_law_second", "_law_other"]) fun _ _ _ _ _ _ us hl => match us, hl with | [_, _, _, _], _ => rfl
  have b21 := d21.fn.binds (ps := ["_law_cell_here", "_law_size"]) fun _ _ _ _ _ _ us hl => match us, hl with | [_, _], _ => rfl
  have b22 := d22.fn.binds (ps := ["_law_cells", "_law_first", "_law_size", "_law_most"]) fun _ _ _ _ _ _ us hl => match us, hl with | [_, _, _, _], _ => rfl
  have b23 := d23.fn.binds (ps := ["_law_equations", "_law_conditions", "_law_vector"]) fun _ _ _ _ _ _ us hl => match us, hl with | [_, _, _], _ => rfl
  have b24 := d24.fn.binds (ps := ["_law_cell_here", "_law_lines", "_law_rays", "_law_size"]) fun _ _ _ _ _ _ us hl => match us, hl with | [_, _, _, _], _ => rfl
  have hbind : ∀ (s : Shared) (u : Value), BindsTo s fd25 ⟨[u], []⟩ [("_law_script", u)] := fun s u => by
    obtain ⟨oc, od, kV, doc, pm, an, cdv, ct, osl, rfl, _, _⟩ := d25.fn.ex
    exact .of_eq rfl
  refine ⟨fd25, [(c, Pt)], spLaw K [(Pt, qLam)], fun p hp => ?_, fun p hp => ?_, fun p hp => ?_, hbind, fun H a ns hl _ hH hS => ⟨a, ns, rfl, hS, hl, fun p hp => ?_, fun _ => rfl⟩, fun base _ _ hTB => ?_⟩
  · obtain rfl := List.mem_singleton.mp hp
    exact hPt
  · obtain rfl := List.mem_singleton.mp hp
    exact d8.no
  · obtain rfl := List.mem_singleton.mp hp
    exact PySem.W.codeHd_of_K X d8.hd
  · obtain rfl := List.mem_singleton.mp hp
    exact TabS.nil (hH (c, Pt) List.mem_cons_self)
  · have TBe : TabB base mg c Pt := hTB (c, Pt) List.mem_cons_self
    have D3 : DefAt l.prog w K mg base 2 "primitive" ["vector"] (spPrim K) f3 fd3 := d3.to X G b3 (ok_prim d3.fn d2.fn b2 (PySem.W.mg_of X G d2.gl) (PySem.W.mg_of X G N.gcd) (none_of N.list))
    have D4 : DefAt l.prog w K mg base 1 "dot" ["first", "second"] (spDot K) f4 fd4 := d4.to X G b4 (ok_dot d4.fn (none_of N.sum) (none_of N.zip))
    have D5 : DefAt l.prog w K mg base 1 "combined" ["first", "vector", "second", "other"] (spComb K) f5 fd5 := d5.to X G b5 (ok_comb d5.fn (none_of N.zip))
    have D6 : DefAt l.prog w K mg base 1 "pivot_of" ["vector"] (spPiv K) f6 fd6 := d6.to X G b6 (ok_piv d6.fn (none_of N.range) (none_of N.len))
    have D7 : DefAt l.prog w K mg base 3 "cleared" ["vector", "row", "column"] (spClr K) f7 fd7 := d7.to X G b7 (ok_clr d7.fn D3.kp D3.bd D3.gl D3.ok D5.kp D5.bd D5.gl D5.ok)
    have D8 : DefAt l.prog w K mg base 9 "echelon" ["rows"] (spEch K [(Pt, qLam)]) f8 _ := ⟨d8.kp, b8, PySem.W.mg_of X G d8.gl, ok_ech d8.lk d8.cd TBe _ rfl (none_of N.sorted) (none_of N.list) (none_of N.len) D3.kp D3.bd D3.gl D3.ok D7.kp D7.bd D7.gl D7.ok D6.kp D6.bd D6.gl D6.ok⟩
    have D9 : DefAt l.prog w K mg base 4 "reduced" ["vector", "rows"] (spRed K) f9 fd9 := d9.to X G b9 (ok_red d9.fn D3.kp D3.bd D3.gl D3.ok D7.kp D7.bd D7.gl D7.ok D6.kp D6.bd D6.gl D6.ok)
    have M4 : MetAt l.prog w K mg base 1 C "are_neighbours" ["self", "one", "other", "shared"] (spNb C) g4 gd4 := m4.to c4 (ok_nb m4.fn TB)
    have M3 : MetAt l.prog w K mg base 3 C "joined" ["self", "positive", "negative", "bit"] (spJn C) g3 gd3 := m3.to c3 (ok_jn m3.fn TB M4 D3 D5)
    have M1 : MetAt l.prog w K mg base 3 C "turn_line" ["self", "condition"] (spTl C) g1 gd1 := m1.to c1 (ok_tl m1.fn TB (none_of N.enumerate) D4 D3 D5)
    have M2 : MetAt l.prog w K mg base 4 C "add" ["self", "condition", "exact"] (spAdd C) g2 gd2 := m2.to c2 (ok_add m2.fn TB M1 M3 D4)
    have MI : FnOk l.prog w K mg base CX0 1 g0 gd0 ["self", "size"] (spIni C) := ok_ini m0.fn TB (none_of N.range)
    have D12 : DefAt l.prog w K mg base 10 "dual" ["equations", "conditions", "size"] (spDu [(Pt, qLam)]) f12 fd12 := d12.to X G b12 (ok_du d12.fn TB _ ⟨mk, m0.at_, m0.is, kC⟩ (PySem.W.mg_of X G mB) c0 MI M2 D8 D9 (none_of N.sorted))
    have D14 : DefAt l.prog w K mg base 1 "_law_cell" ["_law_script", "_law_k"] (spCell K) f14 fd14 := d14.to X G b14 (ok_cl d14.fn (none_of N.len) (none_of N.int))
    have D15 : DefAt l.prog w K mg base 1 "_law_draws" ["_law_cell_here", "_law_limits"] (spDr K) f15 fd15 := d15.to X G b15 (ok_dr d15.fn (none_of N.abs) (none_of N.int))
    have D18 : DefAt l.prog w K mg base 1 "_law_dot" ["_law_first", "_law_second"] (spDot K) f18 fd18 := d18.to X G b18 (ok_ld d18.fn (none_of N.sum) (none_of N.range) (none_of N.len))
    have D19 : DefAt l.prog w K mg base 1 "_law_sum" ["_law_first", "_law_vector", "_law_second", "_law_other"] (spComb K) f19 fd19 := d19.to X G b19 (ok_ls d19.fn (none_of N.range) (none_of N.len))
    have D21 : DefAt l.prog w K mg base 2 "_law_small" ["_law_cell_here", "_law_size"] spSm f21 fd21 := d21.to X G b21 (ok_sm d21.fn D15 (none_of N.range) (none_of N.int))
    have D22 : DefAt l.prog w K mg base 3 "_law_rows" ["_law_cells", "_law_first", "_law_size", "_law_most"] (spRw K) f22 fd22 := d22.to X G b22 (ok_rw d22.fn D14 D21 (none_of N.range) (none_of N.int))
    have D23 : DefAt l.prog w K mg base 2 "_law_in" ["_law_equations", "_law_conditions", "_law_vector"] spIn f23 fd23 := d23.to X G b23 (ok_in d23.fn D18 (none_of N.all))
    have D24 : DefAt l.prog w K mg base 2 "_law_mixed" ["_law_cell_here", "_law_lines", "_law_rays", "_law_size"] spMx f24 fd24 := d24.to X G b24 (ok_mx d24.fn D15 D19 (none_of N.range) (none_of N.len) (none_of N.max))
    exact ok_law d25.fn _ (none_of N.int) (none_of N.any) (none_of N.list) (none_of N.reversed) D14 D22 D12 D23 D21 D24
end
end FW
set_option maxRecDepth 100000
namespace FW
open PySem PySem.Spec PyProof.Rows L2
theorem ech_mk {K : PySem.W.Frag} {h : Heap} {f c Pt : Addr} {oc kV0 doc pm ct occ : Value} {od an odc : Option Addr} {osl slc : Array (Option Value)} {vc : Array Value} (gl : PySem.W.nsIn K mainGlobals "echelon" = some (some (.ref f)))
    (lk : K.lookup f = some ⟨oc, od, .func (PySem.W.fnOf "echelon" "echelon" (defArgs sEch) (defBody sEch) (defScope sEch) .none kV0 doc pm an (.ref c) ct), osl⟩) (cd : PySem.W.codeIn K (.ref c) "echelon" = true) (kp : PySem.W.keepIn K (.ref f) = true)
    (lc : K.lookup c = some ⟨occ, odc, .fields vc, slc⟩) (hp : vc[11]? = some (.ref Pt)) (hd : PySem.W.codeHdIn K c Pt = true) (no : K.lookup Pt = none) (tab : h.get? Pt = some { cls := .none, data := .fields #[] }) :
    ∃ f c Pt oc kV0 doc pm ct od an osl, EchRow K f c Pt oc kV0 doc pm ct od an osl ∧ h.get? Pt = some { cls := .none, data := .fields #[] } :=
  ⟨f, c, Pt, oc, kV0, doc, pm, ct, od, an, osl, ⟨gl, lk, cd, kp, hd, no⟩, tab⟩
theorem def_mk {K : PySem.W.Frag} {x : Str} {st : Stmt} {f : Addr} {oc : Value} {od an : Option Addr} {osl : Array (Option Value)} {kV doc pm cdv ct : Value} (a : PySem.W.nsIn K mainGlobals x = some (some (.ref f))) (l : K.lookup f = some ⟨oc, od, .func (PySem.W.fnOf x x (defArgs st) (defBody st) (defScope st) .none kV doc pm an cdv ct), osl⟩)
    (c : PySem.W.codeIn K cdv x = true) (k : PySem.W.keepIn K (.ref f) = true) : ∃ f fd, DefRow K x st f fd := ⟨f, _, a, fun_mk l c k⟩
theorem met_mk {K : PySem.W.Frag} {C : Addr} {x qual : Str} {st : Stmt} {f : Addr} {oc : Value} {od an : Option Addr} {osl : Array (Option Value)} {kV doc pm cdv ct : Value} (a : PySem.W.findIn K (.ref C) x = some (some (.ref f))) (i : PySem.W.isFn K (.ref f) = true) (l : K.lookup f = some ⟨oc, od, .func (PySem.W.fnOf x qual (defArgs st) (defBody st) (defScope st) .none kV doc pm an cdv ct), osl⟩)
    (c : PySem.W.codeIn K cdv qual = true) (k : PySem.W.keepIn K (.ref f) = true) : ∃ f fd, MetRow K C x qual st f fd := ⟨f, _, a, i, fun_mk l c k⟩
theorem txt_mk {K : PySem.W.Frag} {C : Addr} (pg : PySem.W.plainGet K C Str.empty = true) (hd : PySem.W.hasDictIn K C = true) (po : PySem.W.plainOver K C = true) (sa : PySem.W.findIn K (.ref C) "__setattr__" = some (some (.builtin "object.__setattr__")))
    (nL : PySem.W.findIn K (.ref C) "lines" = some none) (nR : PySem.W.findIn K (.ref C) "rays" = some none) (nC : PySem.W.findIn K (.ref C) "count" = some none) : TxtB K C := ⟨⟨pg, hd, po, sa⟩, nL, nR, nC⟩
end FW
open PySem PySem.W PyProof.Rows in
set_option maxRecDepth 100000 in
set_option maxHeartbeats 0 in
theorem PySem.Challenge.cw_floodmark_k06_whole_cones_and_their_dual_holds : PySem.Challenge.rw_floodmark_k06_whole_cones_and_their_dual.Holds := by
  w_on; o_law; k_head; (case hw => w_witness2)
  k_fill
  refine LamX.walk_ofTs (l := PySem.Challenge.rw_floodmark_k06_whole_cones_and_their_dual) (n := 63) (k := 11) (x := "_law_script") (CX := fun _ => L2.CX0) rfl (by decide) rfl ⟨rfl, by decide, by decide⟩ (fun w h Y => km_in_of Y) ?F (fun _ _ _ _ _ z => z)
  case F =>
    intro w mg fa h Y KX G hmg
    have hT8 := km_tabs_of Y
    refine FW.all_mk KX G hmg ?N ?d2 ?d3 ?d4 ?d5 ?d6 ?d7 ?d8 ?d9 ?d11 ?d12 ?d14 ?d15 ?d18 ?d19 ?d21 ?d22 ?d23 ?d24 ?d25
    (case N => refine ⟨?a1, ?a2, ?a3, ?a4, ?a5, ?a6, ?a7, ?a8, ?a9, ?a10, ?a11, ?a12, ?a13, ?a14⟩ <;> k_is)
    (case d8 =>
      refine' FW.ech_mk ?gl ?lk ?cd ?kp ?lc ?hp ?hd ?no ?tab
      (case gl => k_is)
      (case lk => k_is)
      (case cd => k_is)
      (case kp => k_is)
      (case lc => k_is)
      (case hp => rfl)
      (case hd => kernel_rfl)
      (case no => kernel_rfl)
      (case tab => exact hT8 _ (by k_mem)))
    (case d11 =>
      refine' ⟨_, FW.txt_mk ?pg ?hd ?po ?sa ?nL ?nR ?nC, ?aC, ?mk, ?kc, ?e0, ?e1, ?e2, ?e3, ?e4⟩
      (case aC => k_is)
      (case pg => k_is)
      (case hd => k_is)
      (case po => k_is)
      (case sa => k_is)
      (case nL => k_is)
      (case nR => k_is)
      (case nC => k_is)
      (case mk => k_is)
      (case kc => k_is)
      all_goals
        refine' FW.met_mk ?a ?i ?l ?c ?k
        (case a => k_is)
        (case i => k_is)
        (case l => k_is)
        (case c => k_is)
        (case k => k_is))
    all_goals
      refine' FW.def_mk ?a ?l ?c ?k
      (case a => k_is)
      (case l => k_is)
      (case c => k_is)
      (case k => k_is)
