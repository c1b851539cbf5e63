import PyProof.Rows.All
import Wide.All
import OpenK.AllK
import Wide.FinOn
import KE.GoesZip
import KE.GoesMore
import HandS.ForMost
import HandS.Walk
import PySem.Challenge.RW_oneverdict_k01_whole_least_costs
import HandS.Wide
import HandS.Flow
import HandS.Style
import HandS.TupLe
import PyProof.AssignAttr
import KE.KSuper
import KE.KExcSuper
import HandS.Exc
import HandS.ExcInit
import HandS.WordsExc
import HandS.IsInst
import KE.KExcIs
import PyProof.ReprRoads
import HandS.Ends
import KE.RegKSuper
set_option linter.all false
namespace Sx
/-- the sum of f 0 .. f (m - 1) -/
def sm : Nat → (Nat → Rat) → Rat
  | 0, _ => 0
  | m + 1, f => sm m f + f m
theorem sm_ext {f g : Nat → Rat} : ∀ m, (∀ i, i < m → f i = g i) → sm m f = sm m g
  | 0, _ => rfl
  | m + 1, h => by
    show sm m f + f m = sm m g + g m
    rw [sm_ext m fun i hi => h i (Nat.lt_succ_of_lt hi), h m (Nat.lt_succ_self m)]
theorem sm_add (f g : Nat → Rat) : ∀ m, sm m (fun i => f i + g i) = sm m f + sm m g
  | 0 => by show (0 : Rat) = 0 + 0; grind
  | m + 1 => by
    show sm m (fun i => f i + g i) + (f m + g m) = (sm m f + f m) + (sm m g + g m)
    rw [sm_add f g m]; grind
theorem sm_sub (f g : Nat → Rat) : ∀ m, sm m (fun i => f i - g i) = sm m f - sm m g
  | 0 => by show (0 : Rat) = 0 - 0; grind
  | m + 1 => by
    show sm m (fun i => f i - g i) + (f m - g m) = (sm m f + f m) - (sm m g + g m)
    rw [sm_sub f g m]; grind
theorem sm_mul (c : Rat) (f : Nat → Rat) : ∀ m, sm m (fun i => c * f i) = c * sm m f
  | 0 => by simp [sm]
  | m + 1 => by
    show sm m (fun i => c * f i) + c * f m = c * (sm m f + f m)
    rw [sm_mul c f m]; grind
theorem sm_mulr (c : Rat) (f : Nat → Rat) (m : Nat) : sm m (fun i => f i * c) = sm m f * c := by
  rw [sm_ext m (g := fun i => c * f i) fun i _ => by grind, sm_mul]; grind
theorem sm_zero : ∀ m, sm m (fun _ => 0) = 0
  | 0 => rfl
  | m + 1 => by show sm m (fun _ => 0) + 0 = 0; rw [sm_zero m]; grind
theorem sm_eq0 {f : Nat → Rat} {m : Nat} (h : ∀ i, i < m → f i = 0) : sm m f = 0 := by rw [sm_ext m h, sm_zero]
/-- one that alone is not 0 -/
theorem sm_one {f : Nat → Rat} {k : Nat} : ∀ m, k < m → (∀ i, i < m → i ≠ k → f i = 0) → sm m f = f k
  | 0, h, _ => absurd h (Nat.not_lt_zero _)
  | m + 1, hk, h => by
    show sm m f + f m = f k
    by_cases e : k = m
    · subst e
      rw [sm_eq0 fun i hi => h i (Nat.lt_succ_of_lt hi) (Nat.ne_of_lt hi)]; grind
    · have hk' : k < m := by omega
      rw [sm_one m hk' fun i hi ne => h i (Nat.lt_succ_of_lt hi) ne, h m (Nat.lt_succ_self m) (fun z => e z.symm)]; grind
theorem sm_swap (f : Nat → Nat → Rat) (n : Nat) : ∀ m, sm m (fun i => sm n (fun j => f i j)) = sm n (fun j => sm m (fun i => f i j))
  | 0 => by show (0 : Rat) = _; exact (sm_eq0 fun _ _ => rfl).symm
  | m + 1 => by
    show sm m (fun i => sm n (fun j => f i j)) + sm n (fun j => f m j) = sm n (fun j => sm m (fun i => f i j) + f m j)
    rw [sm_swap f n m, sm_add]
theorem sm_nonneg {f : Nat → Rat} : ∀ m, (∀ i, i < m → 0 ≤ f i) → 0 ≤ sm m f
  | 0, _ => by show (0 : Rat) ≤ 0; grind
  | m + 1, h => by
    have h1 := sm_nonneg m fun i hi => h i (Nat.lt_succ_of_lt hi)
    have h2 := h m (Nat.lt_succ_self m)
    show 0 ≤ sm m f + f m
    grind
theorem sm_le {f g : Nat → Rat} (m : Nat) (h : ∀ i, i < m → f i ≤ g i) : sm m f ≤ sm m g := by
  have := sm_nonneg (f := fun i => g i - f i) m fun i hi => by have := h i hi; grind
  rw [sm_sub] at this; grind
/-- a sum above 0 has a part above 0 -/
theorem sm_pos {f : Nat → Rat} : ∀ m, 0 < sm m f → ∃ i, i < m ∧ 0 < f i
  | 0, h => by
    have : (0 : Rat) < 0 := h
    grind
  | m + 1, h => by
    have h' : 0 < sm m f + f m := h
    by_cases e : 0 < f m
    · exact ⟨m, Nat.lt_succ_self m, e⟩
    · obtain ⟨i, hi, p⟩ := sm_pos m (by grind : 0 < sm m f)
      exact ⟨i, Nat.lt_succ_of_lt hi, p⟩
/-- all parts from 0 on and a sum of 0: each is 0 -/
theorem sm_all0 {f : Nat → Rat} : ∀ m, (∀ i, i < m → 0 ≤ f i) → sm m f = 0 → ∀ i, i < m → f i = 0
  | 0, _, _ => fun i hi => absurd hi (Nat.not_lt_zero _)
  | m + 1, h, e => fun i hi => by
    have e' : sm m f + f m = 0 := e
    have h1 := sm_nonneg m fun i hi => h i (Nat.lt_succ_of_lt hi)
    have h2 := h m (Nat.lt_succ_self m)
    by_cases z : i = m
    · subst z; grind
    · exact sm_all0 m (fun i hi => h i (Nat.lt_succ_of_lt hi)) (by grind) i (by omega)
theorem mul_nn {a b : Rat} (h : 0 ≤ a) (k : 0 ≤ b) : 0 ≤ a * b := Rat.mul_nonneg h k
theorem mul_pp {a b : Rat} (h : 0 < a) (k : 0 < b) : 0 < a * b := Rat.mul_pos h k
end Sx
set_option linter.all false
namespace Sx
/-- rows (the last column the numbers), and the base -/
structure Tb where
  r : Nat → Nat → Rat
  b : Nat → Nat
def piv (T : Tb) (p c : Nat) : Tb where
  r := fun i j => if i = p then T.r p j / T.r p c else T.r i j - T.r i c * (T.r p j / T.r p c)
  b := fun i => if i = p then c else T.b i
theorem piv_rp (T : Tb) (p c j : Nat) : (piv T p c).r p j = T.r p j / T.r p c := by show (if p = p then _ else _) = _; rw [if_pos rfl]
theorem piv_ri (T : Tb) {p i : Nat} (c j : Nat) (h : i ≠ p) : (piv T p c).r i j = T.r i j - T.r i c * (T.r p j / T.r p c) := by show (if i = p then _ else _) = _; rw [if_neg h]
theorem piv_bp (T : Tb) (p c : Nat) : (piv T p c).b p = c := by show (if p = p then _ else _) = _; rw [if_pos rfl]
theorem piv_bi (T : Tb) {p i : Nat} (c : Nat) (h : i ≠ p) : (piv T p c).b i = T.b i := by show (if i = p then _ else _) = _; rw [if_neg h]

/-- equations of m rows, n columns and a helping one for each row, column n + m the numbers: what a tableau keeps -/
structure Val (m n : Nat) (A : Nat → Nat → Rat) (T : Tb) : Prop where
  bl : ∀ i, i < m → T.b i < n + m
  id : ∀ i, i < m → ∀ k, k < m → T.r i (T.b k) = if i = k then 1 else 0
  cm : ∀ i, i < m → ∀ j, j ≤ n + m → T.r i j = sm m fun k => T.r i (n + k) * A k j
  iv : ∀ k, k < m → ∀ j, j ≤ n + m → A k j = sm m fun i => A k (T.b i) * T.r i j
variable {m n : Nat} {A : Nat → Nat → Rat} {T T' : Tb}
theorem Val.inj (V : Val m n A T) {i k : Nat} (hi : i < m) (hk : k < m) (e : T.b i = T.b k) : i = k := by
  have h1 := V.id i hi i hi
  have h2 := V.id i hi k hk
  rw [e] at h1
  rw [h1, if_pos rfl] at h2
  by_cases z : i = k
  · exact z
  · rw [if_neg z] at h2; grind
theorem Val.piv (V : Val m n A T) {p c : Nat} (hp : p < m) (hc : c < n + m) (h0 : T.r p c ≠ 0) : Val m n A (piv T p c) where
  bl := fun i hi => by
    by_cases e : i = p
    · subst e; rw [piv_bp]; exact hc
    · rw [piv_bi T c e]; exact V.bl i hi
  id := fun i hi k hk => by
    by_cases e : i = p
    · subst e
      rw [piv_rp]
      by_cases ek : k = i
      · subst ek; rw [piv_bp, if_pos rfl]; grind
      · rw [piv_bi T c ek, V.id i hi k hk, if_neg (fun z => ek z.symm)]; grind
    · rw [piv_ri T c _ e]
      by_cases ek : k = p
      · subst ek; rw [piv_bp, if_neg e]; grind
      · rw [piv_bi T c ek, V.id i hi k hk, V.id p hp k hk, show (if p = k then (1 : Rat) else 0) = 0 from if_neg (fun z => ek z.symm)]; grind
  cm := fun i hi j hj => by
    have hpj := V.cm p hp j hj
    by_cases e : i = p
    · subst e
      rw [piv_rp, hpj]
      rw [sm_ext m (f := fun k => (Sx.piv T i c).r i (n + k) * A k j) (g := fun k => T.r i (n + k) * A k j * (1 / T.r i c)) fun k hk => by
        rw [piv_rp]; grind]
      rw [sm_mulr]; grind
    · have hij := V.cm i hi j hj
      rw [piv_ri T c j e]
      rw [sm_ext m (f := fun k => (Sx.piv T p c).r i (n + k) * A k j) (g := fun k => T.r i (n + k) * A k j - T.r p (n + k) * A k j * (T.r i c / T.r p c)) fun k hk => by
        rw [piv_ri T c _ e]; grind]
      rw [sm_sub, sm_mulr, ← hpj, ← hij]; grind
  iv := fun k hk j hj => by
    have h1 := V.iv k hk j hj
    have h2 := V.iv k hk c (Nat.le_of_lt hc)
    rw [sm_ext m (f := fun i => A k ((Sx.piv T p c).b i) * (Sx.piv T p c).r i j)
      (g := fun i => (A k (T.b i) * T.r i j - A k (T.b i) * T.r i c * (T.r p j / T.r p c)) + (if i = p then A k c * (T.r p j / T.r p c) else 0)) fun i hi => by
        by_cases e : i = p
        · subst e; rw [piv_rp, piv_bp, if_pos rfl]; grind
        · rw [piv_ri T c _ e, piv_bi T c e, if_neg e]; grind]
    rw [sm_add, sm_sub, sm_mulr, ← h1, ← h2]
    rw [sm_one (k := p) m hp fun i _ ne => by show (if i = p then _ else _) = _; rw [if_neg ne]]
    rw [if_pos rfl]; grind
/-- a base has one tableau alone -/
theorem Val.only (V : Val m n A T) (V' : Val m n A T') (e : ∀ i, i < m → T.b i = T'.b i) : ∀ i, i < m → ∀ j, j ≤ n + m → T.r i j = T'.r i j := fun i hi j hj => by
  rw [V.cm i hi j hj]
  rw [sm_ext m (g := fun k => sm m fun l => T.r i (n + k) * (A k (T'.b l) * T'.r l j)) fun k hk => by rw [V'.iv k hk j hj, sm_mul]]
  rw [sm_swap]
  rw [sm_ext m (g := fun l => (if i = l then 1 else 0) * T'.r l j) fun l hl => by
    have h1 := V.cm i hi (T.b l) (Nat.le_of_lt (V.bl l hl))
    rw [V.id i hi l hl] at h1
    rw [h1, ← sm_mulr, ← e l hl]
    exact sm_ext m fun k hk => by grind]
  rw [sm_one (k := i) m hi fun l _ ne => by show (if i = l then _ else _) * _ = _; rw [if_neg (fun z => ne z.symm)]; grind]
  show (if i = i then _ else _) * _ = _
  rw [if_pos rfl]; grind

/-- costs less what the base pays -/
def line (m : Nat) (c : Nat → Rat) (T : Tb) (j : Nat) : Rat := c j - sm m fun i => c (T.b i) * T.r i j
variable {c : Nat → Rat}
theorem line_base (V : Val m n A T) {k : Nat} (hk : k < m) : line m c T (T.b k) = 0 := by
  unfold line
  rw [sm_one (k := k) m hk fun i hi ne => by rw [V.id i hi k hk, if_neg ne]; grind]
  rw [V.id k hk k hk, if_pos rfl]; grind
theorem line_piv (V : Val m n A T) {p q : Nat} (hp : p < m) (h0 : T.r p q ≠ 0) (j : Nat) : line m c (piv T p q) j = line m c T j - line m c T q * (T.r p j / T.r p q) := by
  unfold line
  rw [sm_ext m (f := fun i => c ((piv T p q).b i) * (piv T p q).r i j)
    (g := fun i => (c (T.b i) * T.r i j - c (T.b i) * T.r i q * (T.r p j / T.r p q)) + (if i = p then c q * (T.r p j / T.r p q) else 0)) fun i hi => by
      by_cases e : i = p
      · subst e; rw [piv_rp, piv_bp, if_pos rfl]; grind
      · rw [piv_ri T q _ e, piv_bi T q e, if_neg e]; grind]
  rw [sm_add, sm_sub, sm_mulr, sm_one (f := fun i => if i = p then c q * (T.r p j / T.r p q) else 0) (k := p) m hp fun i _ ne => by show (if i = p then _ else _) = _; rw [if_neg ne]]
  rw [if_pos rfl]; grind
/-- the factors that show the sum -/
def fac (m n : Nat) (c : Nat → Rat) (T : Tb) (k : Nat) : Rat := sm m fun i => c (T.b i) * T.r i (n + k)
theorem line_fac (V : Val m n A T) {j : Nat} (hj : j ≤ n + m) : line m c T j = c j - sm m fun k => fac m n c T k * A k j := by
  unfold line
  congr 1
  rw [sm_ext m (g := fun i => sm m fun k => c (T.b i) * (T.r i (n + k) * A k j)) fun i hi => by rw [V.cm i hi j hj, sm_mul]]
  rw [sm_swap]
  refine sm_ext m fun k hk => ?_
  unfold fac
  rw [← sm_mulr]
  exact sm_ext m fun i hi => by grind
/-- the line of one tableau by that of another -/
theorem line_two (V : Val m n A T) (V' : Val m n A T') {j : Nat} (hj : j ≤ n + m) : line m c T j = line m c T' j - sm m fun i => line m c T' (T.b i) * T.r i j := by
  rw [line_fac V' hj]
  rw [sm_ext m (f := fun i => line m c T' (T.b i) * T.r i j) (g := fun i => c (T.b i) * T.r i j - sm m fun k => fac m n c T' k * (A k (T.b i) * T.r i j)) fun i hi => by
    rw [line_fac V' (Nat.le_of_lt (V.bl i hi))]
    rw [sm_ext m (f := fun k => fac m n c T' k * (A k (T.b i) * T.r i j)) (g := fun k => (fac m n c T' k * A k (T.b i)) * T.r i j) fun k _ => by grind]
    rw [sm_mulr]; grind]
  rw [sm_sub, sm_swap]
  rw [sm_ext m (f := fun k => sm m fun i => fac m n c T' k * (A k (T.b i) * T.r i j)) (g := fun k => fac m n c T' k * A k j) fun k hk => by
    rw [sm_mul, ← V.iv k hk j hj]]
  unfold line
  grind
end Sx
set_option linter.all false
namespace Sx
variable {m n : Nat} {A : Nat → Nat → Rat} {T T' : Tb} {c : Nat → Rat} {most : Nat}
/-- the numbers of rows are from 0 on -/
def Nn (m N : Nat) (T : Tb) : Prop := ∀ i, i < m → 0 ≤ T.r i N
/-- how a turn is chosen: the first good column, the least share, the least place in the base -/
structure Cho (m N : Nat) (c : Nat → Rat) (most : Nat) (T : Tb) (p q : Nat) : Prop where
  hq : q < most
  neg : line m c T q < 0
  first : ∀ j, j < q → 0 ≤ line m c T j
  hp : p < m
  pos : 0 < T.r p q
  low : ∀ i, i < m → 0 < T.r i q → T.r p N / T.r p q ≤ T.r i N / T.r i q
  tie : ∀ i, i < m → 0 < T.r i q → T.r i N / T.r i q = T.r p N / T.r p q → T.b p ≤ T.b i
theorem div_nn {a b : Rat} (h : 0 ≤ a) (k : 0 < b) : 0 ≤ a / b := by
  rw [Rat.div_def]
  exact Rat.mul_nonneg h (Rat.le_of_lt (Rat.inv_pos.mpr k))
theorem div_pp {a b : Rat} (h : 0 < a) (k : 0 < b) : 0 < a / b := by
  rw [Rat.div_def]
  exact Rat.mul_pos h (Rat.inv_pos.mpr k)
theorem Cho.nn {N p q : Nat} (C : Cho m N c most T p q) (h : Nn m N T) : Nn m N (piv T p q) := fun i hi => by
  by_cases e : i = p
  · subst e; rw [piv_rp]; exact div_nn (h i hi) C.pos
  · rw [piv_ri T q N e]
    have h1 := div_nn (h p C.hp) C.pos
    by_cases z : 0 < T.r i q
    · have h2 := C.low i hi z
      have h3 := mul_nn (Rat.le_of_lt z) (show 0 ≤ T.r i N / T.r i q - T.r p N / T.r p q by grind)
      have h5 : T.r i q * (T.r i N / T.r i q) = T.r i N := by
        have : T.r i q ≠ 0 := by grind
        grind
      generalize T.r p N / T.r p q = u at *
      generalize T.r i N / T.r i q = v at *
      grind
    · have h3 := mul_nn (show 0 ≤ - T.r i q by grind) h1
      have h4 := h i hi
      grind
/-- the value of a column -/
def sol (m N : Nat) (T : Tb) (v : Nat) : Rat := sm m fun i => if T.b i = v then T.r i N else 0
theorem sol_base (V : Val m n A T) {i N : Nat} (hi : i < m) : sol m N T (T.b i) = T.r i N := by
  unfold sol
  rw [sm_one (k := i) m hi fun k hk ne => if_neg fun z => ne (V.inj hk hi z), if_pos rfl]
theorem sol_out {N v : Nat} (h : ∀ i, i < m → T.b i ≠ v) : sol m N T v = 0 := sm_eq0 fun i hi => if_neg (h i hi)
theorem sol_piv {N p q v : Nat} (h0 : T.r p N = 0) : sol m N (piv T p q) v = sol m N T v := by
  refine sm_ext m fun i hi => ?_
  by_cases e : i = p
  · subst e
    rw [piv_rp, h0]
    have : (0 : Rat) / T.r i q = 0 := by grind
    rw [this]
    split <;> split <;> rfl
  · rw [piv_bi T q e, piv_ri T q N e, h0]
    have : T.r i N - T.r i q * (0 / T.r p q) = T.r i N := by grind
    rw [this]

/-- turns, one behind another -/
structure Row (m n : Nat) (A : Nat → Nat → Rat) (c : Nat → Rat) (most : Nat) (S : Nat → Tb) (p q : Nat → Nat) (lo hi : Nat) : Prop where
  val : ∀ s, lo ≤ s → s ≤ hi → Val m n A (S s)
  nn : ∀ s, lo ≤ s → s ≤ hi → Nn m (n + m) (S s)
  cho : ∀ s, lo ≤ s → s < hi → Cho m (n + m) c most (S s) (p s) (q s)
  nxt : ∀ s, lo ≤ s → s < hi → S (s + 1) = piv (S s) (p s) (q s)
variable {S : Nat → Tb} {p q : Nat → Nat} {lo hi : Nat}
theorem Row.mono (R : Row m n A c most S p q lo hi) : ∀ d, lo + d ≤ hi → line m c (S lo) (n + m) ≤ line m c (S (lo + d)) (n + m)
  | 0, _ => Rat.le_refl
  | d + 1, h => by
    have ih := R.mono d (by omega)
    have C := R.cho (lo + d) (by omega) (by omega)
    have e := R.nxt (lo + d) (by omega) (by omega)
    have V := R.val (lo + d) (by omega) (by omega)
    have l := line_piv (c := c) V (q := q (lo + d)) C.hp (by have := C.pos; grind) (n + m)
    rw [← e] at l
    have h1 := div_nn (R.nn (lo + d) (by omega) (by omega) _ C.hp) C.pos
    have h2 := mul_nn (show 0 ≤ - line m c (S (lo + d)) (q (lo + d)) by have := C.neg; grind) h1
    have : lo + (d + 1) = lo + d + 1 := by omega
    rw [this]
    grind
/-- going round, no turn moves anything -/
theorem Row.still (R : Row m n A c most S p q lo hi) (hl : lo < hi) (ring : ∀ i, i < m → (S lo).b i = (S hi).b i) : ∀ s, lo ≤ s → s < hi → (S s).r (p s) (n + m) = 0 := fun s h1 h2 => by
  have V1 := R.val lo (Nat.le_refl _) (by omega)
  have V2 := R.val hi (by omega) (Nat.le_refl _)
  have e : line m c (S lo) (n + m) = line m c (S hi) (n + m) := by
    unfold line
    congr 1
    exact sm_ext m fun i hi' => by rw [V1.only V2 ring i hi' _ (Nat.le_refl _), ring i hi']
  have R1 : Row m n A c most S p q lo s := ⟨fun t a b => R.val t a (by omega), fun t a b => R.nn t a (by omega), fun t a b => R.cho t a (by omega), fun t a b => R.nxt t a (by omega)⟩
  have R2 : Row m n A c most S p q (s + 1) hi := ⟨fun t a b => R.val t (by omega) b, fun t a b => R.nn t (by omega) b, fun t a b => R.cho t (by omega) b, fun t a b => R.nxt t (by omega) b⟩
  have m1 := R1.mono (s - lo) (by omega)
  have m2 := R2.mono (hi - (s + 1)) (by omega)
  rw [show lo + (s - lo) = s by omega] at m1
  rw [show s + 1 + (hi - (s + 1)) = hi by omega] at m2
  have C := R.cho s h1 h2
  have V := R.val s h1 (by omega)
  have l := line_piv (c := c) V (q := q s) C.hp (by have := C.pos; grind) (n + m)
  rw [← R.nxt s h1 h2] at l
  have h3 := R.nn s h1 (by omega) _ C.hp
  by_cases z : (S s).r (p s) (n + m) = 0
  · exact z
  · have h4 := div_pp (show 0 < (S s).r (p s) (n + m) by grind) C.pos
    have h5 := mul_pp (show 0 < - line m c (S s) (q s) by have := C.neg; grind) h4
    grind
theorem Row.sols (R : Row m n A c most S p q lo hi) (still : ∀ s, lo ≤ s → s < hi → (S s).r (p s) (n + m) = 0) (v : Nat) : ∀ d, lo + d ≤ hi → sol m (n + m) (S (lo + d)) v = sol m (n + m) (S lo) v
  | 0, _ => rfl
  | d + 1, h => by
    rw [show lo + (d + 1) = lo + d + 1 by omega, R.nxt (lo + d) (by omega) (by omega), sol_piv (still _ (by omega) (by omega))]
    exact R.sols still v d (by omega)
theorem Row.sol_eq (R : Row m n A c most S p q lo hi) (still : ∀ s, lo ≤ s → s < hi → (S s).r (p s) (n + m) = 0) (v : Nat) {s t : Nat} (h1 : lo ≤ s) (h2 : s ≤ hi) (h3 : lo ≤ t) (h4 : t ≤ hi) : sol m (n + m) (S s) v = sol m (n + m) (S t) v := by
  have a := R.sols still v (s - lo) (by omega)
  have b := R.sols still v (t - lo) (by omega)
  rw [show lo + (s - lo) = s by omega] at a
  rw [show lo + (t - lo) = t by omega] at b
  rw [a, b]
/-- whether a column is in the base -/
def isIn (m : Nat) (T : Tb) (v : Nat) : Prop := ∃ i, i < m ∧ T.b i = v
theorem isIn_piv_out {p q v : Nat} (h1 : isIn m T v) (h2 : ¬ isIn m (piv T p q) v) : T.b p = v := by
  obtain ⟨i, hi, e⟩ := h1
  by_cases z : i = p
  · subst z; exact e
  · exact absurd ⟨i, hi, by rw [piv_bi T q z]; exact e⟩ h2
theorem isIn_piv_in {p q v : Nat} (h1 : ¬ isIn m T v) (h2 : isIn m (piv T p q) v) : q = v := by
  obtain ⟨i, hi, e⟩ := h2
  by_cases z : i = p
  · subst z; rw [piv_bp] at e; exact e
  · rw [piv_bi T q z] at e; exact absurd ⟨i, hi, e⟩ h1
/-- somewhere between it leaves -/
theorem goes_out {Q : Nat → Prop} : ∀ (d a : Nat), Q a → ¬ Q (a + d) → ∃ s, a ≤ s ∧ s < a + d ∧ Q s ∧ ¬ Q (s + 1)
  | 0, a, h, k => absurd h k
  | d + 1, a, h, k => by
    by_cases z : Q (a + d)
    · exact ⟨a + d, by omega, by omega, z, k⟩
    · obtain ⟨s, h1, h2, h3, h4⟩ := goes_out d a h z
      exact ⟨s, h1, by omega, h3, h4⟩
theorem goes_out' {Q : Nat → Prop} {a b : Nat} (hab : a ≤ b) (h : Q a) (k : ¬ Q b) : ∃ s, a ≤ s ∧ s < b ∧ Q s ∧ ¬ Q (s + 1) := by
  obtain ⟨s, h1, h2, h3, h4⟩ := goes_out (b - a) a h (by rw [show a + (b - a) = b by omega]; exact k)
  exact ⟨s, h1, by omega, h3, h4⟩
/-- the greatest of some numbers -/
theorem has_most (f : Nat → Nat) (lo : Nat) : ∀ d, ∃ s, lo ≤ s ∧ s < lo + (d + 1) ∧ ∀ t, lo ≤ t → t < lo + (d + 1) → f t ≤ f s
  | 0 => ⟨lo, by omega, by omega, fun t h1 h2 => by rw [show t = lo by omega]; exact Nat.le_refl _⟩
  | d + 1 => by
    obtain ⟨s, h1, h2, h3⟩ := has_most f lo d
    by_cases z : f s ≤ f (lo + (d + 1))
    · exact ⟨lo + (d + 1), by omega, by omega, fun t a b => by
        by_cases e : t = lo + (d + 1)
        · rw [e]; exact Nat.le_refl _
        · exact Nat.le_trans (h3 t a (by omega)) z⟩
    · exact ⟨s, h1, by omega, fun t a b => by
        by_cases e : t = lo + (d + 1)
        · rw [e]; omega
        · exact h3 t a (by omega)⟩
/-- Bland: no base comes again -/
theorem Row.noRing (R : Row m n A c most S p q lo hi) (hmost : most ≤ n + m) (hl : lo < hi) (ring : ∀ i, i < m → (S lo).b i = (S hi).b i) : False := by
  have still := R.still hl ring
  obtain ⟨g, g1, g2, g3⟩ := has_most q lo (hi - lo - 1)
  rw [show lo + (hi - lo - 1 + 1) = hi by omega] at g2 g3
  have Cg := R.cho g g1 g2
  have Vg := R.val g g1 (by omega)
  have outg : ¬ isIn m (S g) (q g) := fun ⟨i, hi', e⟩ => by
    have := line_base (c := c) Vg hi'
    rw [e] at this
    have := Cg.neg
    grind
  have ing : isIn m (S (g + 1)) (q g) := by
    rw [R.nxt g g1 g2]
    exact ⟨p g, Cg.hp, piv_bp _ _ _⟩
  have ringIn : ∀ v, isIn m (S lo) v ↔ isIn m (S hi) v := fun v =>
    ⟨fun ⟨i, a, b⟩ => ⟨i, a, by rw [← ring i a]; exact b⟩, fun ⟨i, a, b⟩ => ⟨i, a, by rw [ring i a]; exact b⟩⟩
  -- where the greatest leaves
  have leave : ∃ s, lo ≤ s ∧ s < hi ∧ isIn m (S s) (q g) ∧ ¬ isIn m (S (s + 1)) (q g) := by
    by_cases z : isIn m (S lo) (q g)
    · obtain ⟨s, a, b, d, e⟩ := goes_out' (Q := fun s => isIn m (S s) (q g)) g1 z outg
      exact ⟨s, a, by omega, d, e⟩
    · have z' : ¬ isIn m (S hi) (q g) := fun y => z ((ringIn _).mpr y)
      obtain ⟨s, a, b, d, e⟩ := goes_out' (Q := fun s => isIn m (S s) (q g)) (show g + 1 ≤ hi by omega) ing z'
      exact ⟨s, by omega, b, d, e⟩
  obtain ⟨s, s1, s2, ins, outs⟩ := leave
  have Cs := R.cho s s1 s2
  have Vs := R.val s s1 (by omega)
  have bs : (S s).b (p s) = q g := by
    rw [R.nxt s s1 s2] at outs
    exact isIn_piv_out ins outs
  have qs : q s < q g := by
    have h1 := g3 s s1 s2
    refine Nat.lt_of_le_of_ne h1 fun z => ?_
    have h2 := line_base (c := c) Vs Cs.hp
    rw [bs, ← z] at h2
    have := Cs.neg
    grind
  -- the line there by the line where the greatest comes in
  have two := line_two (c := c) Vs Vg (j := q s) (by have := Cs.hq; omega)
  have h1 := Cg.first (q s) qs
  have h2 := Cs.neg
  obtain ⟨i, hi', pos⟩ := sm_pos (f := fun i => line m c (S g) ((S s).b i) * (S s).r i (q s)) m (by grind)
  have pos' : 0 < line m c (S g) ((S s).b i) * (S s).r i (q s) := pos
  have notg : ¬ isIn m (S g) ((S s).b i) := fun ⟨k, hk, e⟩ => by
    have := line_base (c := c) Vg hk
    rw [e] at this
    rw [this] at pos'
    grind
  have inS : isIn m (S s) ((S s).b i) := ⟨i, hi', rfl⟩
  -- it is one of those that come in
  have comes : ∃ t, lo ≤ t ∧ t < hi ∧ q t = (S s).b i := by
    have up : ∀ {a b : Nat}, lo ≤ a → a ≤ b → b ≤ hi → ¬ isIn m (S a) ((S s).b i) → isIn m (S b) ((S s).b i) → ∃ t, lo ≤ t ∧ t < hi ∧ q t = (S s).b i := fun {a b} ha hab hb x y => by
      obtain ⟨t, t1, t2, t3, t4⟩ := goes_out' (Q := fun s' => ¬ isIn m (S s') ((S s).b i)) hab x (fun z => z y)
      have t4' : isIn m (S (t + 1)) ((S s).b i) := Classical.byContradiction t4
      rw [R.nxt t (by omega) (by omega)] at t4'
      exact ⟨t, by omega, by omega, isIn_piv_in t3 t4'⟩
    by_cases z : g ≤ s
    · exact up g1 z (by omega) notg inS
    · by_cases y : isIn m (S lo) ((S s).b i)
      · exact up g1 (show g ≤ hi by omega) (Nat.le_refl _) notg ((ringIn _).mp y)
      · exact up (Nat.le_refl _) s1 (by omega) y inS
  obtain ⟨t, t1, t2, t3⟩ := comes
  have le : (S s).b i ≤ q g := by rw [← t3]; exact g3 t t1 t2
  by_cases same : (S s).b i = q g
  · have ei : i = p s := Vs.inj hi' Cs.hp (by rw [same, bs])
    rw [same, ei] at pos'
    have h5 := mul_pp (show 0 < - line m c (S g) (q g) by have := Cg.neg; grind) Cs.pos
    grind
  · have lt : (S s).b i < q g := by omega
    have h5 := Cg.first _ lt
    have rpos : 0 < (S s).r i (q s) := by
      by_cases z : 0 < (S s).r i (q s)
      · exact z
      · have := mul_nn h5 (show 0 ≤ - (S s).r i (q s) by grind)
        grind
    have e0 : (S s).r i (n + m) = 0 := by
      rw [← sol_base (N := n + m) Vs hi', R.sol_eq still _ s1 (by omega) g1 (by omega)]
      exact sol_out fun k hk z => notg ⟨k, hk, z⟩
    have ep := still s s1 s2
    have := Cs.tie i hi' rpos (by rw [e0, ep]; grind)
    rw [bs] at this
    omega
end Sx
set_option linter.all false
namespace Sx
def det3 (a b c d e f g h i : Rat) : Rat := a * (e * i - f * h) - b * (d * i - f * g) + c * (d * h - e * g)
theorem det3_mul (a b c d e f g h i A B C D E F G H I : Rat) :
    det3 a b c d e f g h i * det3 A B C D E F G H I = det3 (a*A+b*D+c*G) (a*B+b*E+c*H) (a*C+b*F+c*I) (d*A+e*D+f*G) (d*B+e*E+f*H) (d*C+e*F+f*I) (g*A+h*D+i*G) (g*B+h*E+i*H) (g*C+h*F+i*I) := by
  unfold det3; grind
/-- Cramer, three rows: x solves B x = v -/
theorem cramer3 {a b c d e f g h i x y z u v w : Rat} (h1 : u = a*x+b*y+c*z) (h2 : v = d*x+e*y+f*z) (h3 : w = g*x+h*y+i*z) :
    x * det3 a b c d e f g h i = det3 u b c v e f w h i ∧ y * det3 a b c d e f g h i = det3 a u c d v f g w i ∧ z * det3 a b c d e f g h i = det3 a b u d e v g h w := by
  subst h1; subst h2; subst h3
  unfold det3
  refine ⟨?_, ?_, ?_⟩ <;> grind
/-- an integer so great at most -/
def Bd (b : Nat) (q : Rat) : Prop := ∃ z : Int, q = (z : Rat) ∧ z.natAbs ≤ b
theorem Bd.mono {b b' : Nat} {q : Rat} (h : Bd b q) (k : b ≤ b') : Bd b' q := let ⟨z, e, l⟩ := h; ⟨z, e, Nat.le_trans l k⟩
theorem Bd.mul {b b' : Nat} {q r : Rat} (h : Bd b q) (k : Bd b' r) : Bd (b * b') (q * r) := by
  obtain ⟨z, rfl, l⟩ := h
  obtain ⟨y, rfl, l'⟩ := k
  exact ⟨z * y, by rw [Rat.intCast_mul], by rw [Int.natAbs_mul]; exact Nat.mul_le_mul l l'⟩
theorem Bd.add {b b' : Nat} {q r : Rat} (h : Bd b q) (k : Bd b' r) : Bd (b + b') (q + r) := by
  obtain ⟨z, rfl, l⟩ := h
  obtain ⟨y, rfl, l'⟩ := k
  exact ⟨z + y, by rw [Rat.intCast_add], by omega⟩
theorem Bd.sub {b b' : Nat} {q r : Rat} (h : Bd b q) (k : Bd b' r) : Bd (b + b') (q - r) := by
  obtain ⟨z, rfl, l⟩ := h
  obtain ⟨y, rfl, l'⟩ := k
  exact ⟨z - y, by rw [Rat.intCast_sub], by omega⟩
theorem Bd.det3 {B : Nat} {a b c d e f g h i : Rat} (ha : Bd B a) (hb : Bd B b) (hc : Bd B c) (hd : Bd B d) (he : Bd B e) (hf : Bd B f) (hg : Bd B g) (hh : Bd B h) (hi : Bd B i) : Bd (6 * (B * B * B)) (det3 a b c d e f g h i) := by
  have z := ((ha.mul ((he.mul hi).sub (hf.mul hh))).sub (hb.mul ((hd.mul hi).sub (hf.mul hg)))).add (hc.mul ((hd.mul hh).sub (he.mul hg)))
  refine z.mono ?_
  have : B * (B * B + B * B) + B * (B * B + B * B) + B * (B * B + B * B) = 6 * (B * B * B) := by
    rw [Nat.mul_add, ← Nat.mul_assoc]; omega
  omega
/-- top and bottom so great at most -/
def Sz (X : Nat) (q : Rat) : Prop := q.num.natAbs ≤ X ∧ q.den ≤ X
theorem Sz.mono {X Y : Nat} {q : Rat} (h : Sz X q) (k : X ≤ Y) : Sz Y q := ⟨Nat.le_trans h.1 k, Nat.le_trans h.2 k⟩
theorem sz_divInt {X : Nat} {p d : Int} (h0 : d ≠ 0) (hp : p.natAbs ≤ X) (hd : d.natAbs ≤ X) : Sz X (Rat.divInt p d) := by
  constructor
  · rw [Rat.num_divInt]
    have h1 : ((d.sign * p) / (d.gcd p : Int)).natAbs ≤ (d.sign * p).natAbs := by
      rw [Int.natAbs_ediv_of_dvd]
      · exact Nat.div_le_self _ _
      · exact Int.dvd_trans (Int.gcd_dvd_right _ _) (Int.dvd_mul_left _ _)
    have h2 : (d.sign * p).natAbs = p.natAbs := by
      rw [Int.natAbs_mul, Int.natAbs_sign_of_ne_zero h0, Nat.one_mul]
    omega
  · rw [Rat.den_divInt, if_neg h0]
    exact Nat.le_trans (Nat.div_le_self _ _) hd
theorem sz_of {X : Nat} {q p d : Rat} (hp : Bd X p) (hd : Bd X d) (h0 : d ≠ 0) (e : q * d = p) : Sz X q := by
  obtain ⟨a, rfl, la⟩ := hp
  obtain ⟨b, rfl, lb⟩ := hd
  have b0 : b ≠ 0 := fun z => h0 (by rw [z]; rfl)
  have : q = Rat.divInt a b := by
    rw [Rat.divInt_eq_div]
    have : (b : Rat) ≠ 0 := h0
    grind
  rw [this]
  exact sz_divInt b0 la lb
theorem Bd.zero {B : Nat} : Bd B 0 := ⟨0, rfl, Nat.zero_le _⟩
theorem Bd.one {B : Nat} (h : 1 ≤ B) : Bd B 1 := ⟨1, rfl, h⟩
theorem sm1 (f : Nat → Rat) : sm 1 f = f 0 := by show (0 : Rat) + f 0 = f 0; grind
theorem sm2 (f : Nat → Rat) : sm 2 f = f 0 + f 1 := by show (0 : Rat) + f 0 + f 1 = f 0 + f 1; grind
theorem sm3 (f : Nat → Rat) : sm 3 f = f 0 + f 1 + f 2 := by show (0 : Rat) + f 0 + f 1 + f 2 = f 0 + f 1 + f 2; grind
theorem det_ne {a b c d e f g h i A B C D E F G H I : Rat}
    (h1 : a*A+b*D+c*G = 1) (h2 : a*B+b*E+c*H = 0) (h3 : a*C+b*F+c*I = 0) (h4 : d*A+e*D+f*G = 0) (h5 : d*B+e*E+f*H = 1) (h6 : d*C+e*F+f*I = 0)
    (h7 : g*A+h*D+i*G = 0) (h8 : g*B+h*E+i*H = 0) (h9 : g*C+h*F+i*I = 1) {D0 : Rat} (k : D0 ≠ 0) : det3 (A*D0) (B*D0) (C*D0) (D*D0) (E*D0) (F*D0) (G*D0) (H*D0) (I*D0) ≠ 0 := fun z => by
  have m1 := det3_mul a b c d e f g h i A B C D E F G H I
  rw [h1, h2, h3, h4, h5, h6, h7, h8, h9] at m1
  have s : det3 (A*D0) (B*D0) (C*D0) (D*D0) (E*D0) (F*D0) (G*D0) (H*D0) (I*D0) = D0 * D0 * D0 * det3 A B C D E F G H I := by unfold det3; grind
  rw [s] at z
  have one : det3 1 0 0 0 1 0 0 0 1 = 1 := by unfold det3; grind
  rw [one] at m1
  have : det3 A B C D E F G H I = 0 := by grind
  rw [this] at m1
  grind
/-- the entries of a tableau of three rows at most are small where those of the equations are, by a share D -/
theorem Val.sz {m n : Nat} {A : Nat → Nat → Rat} {T : Tb} (V : Val m n A T) (hm : m = 1 ∨ m = 2 ∨ m = 3) {B : Nat} (hB : 1 ≤ B) {D : Rat} (hD : D ≠ 0) (h : ∀ k, k < m → ∀ j, j ≤ n + m → Bd B (A k j * D)) :
    ∀ i, i < m → ∀ j, j ≤ n + m → Sz (6 * (B * B * B)) (T.r i j) := by
  have hBB : B ≤ 6 * (B * B * B) := by
    have : B * 1 ≤ B * B := Nat.mul_le_mul_left B hB
    have h2 : B * B * 1 ≤ B * B * B := Nat.mul_le_mul_left _ hB
    omega
  intro i hi j hj
  have bl : ∀ k, k < m → T.b k ≤ n + m := fun k hk => Nat.le_of_lt (V.bl k hk)
  rcases hm with rfl | rfl | rfl
  · obtain rfl : i = 0 := by omega
    have e := V.iv 0 (by omega) j hj
    rw [sm1] at e
    have k := V.cm 0 (by omega) _ (bl 0 (by omega))
    rw [V.id 0 (by omega) 0 (by omega), if_pos rfl, sm1] at k
    refine (sz_of (h 0 (by omega) j hj) (h 0 (by omega) _ (bl 0 (by omega))) (fun z => ?_) ?_).mono hBB
    · grind
    · grind
  · have e0 := V.iv 0 (by omega) j hj
    have e1 := V.iv 1 (by omega) j hj
    rw [sm2] at e0 e1
    have k00 := V.cm 0 (by omega) _ (bl 0 (by omega))
    have k01 := V.cm 0 (by omega) _ (bl 1 (by omega))
    have k10 := V.cm 1 (by omega) _ (bl 0 (by omega))
    have k11 := V.cm 1 (by omega) _ (bl 1 (by omega))
    rw [V.id 0 (by omega) 0 (by omega), if_pos rfl, sm2] at k00
    rw [V.id 0 (by omega) 1 (by omega), if_neg (by omega), sm2] at k01
    rw [V.id 1 (by omega) 0 (by omega), if_neg (by omega), sm2] at k10
    rw [V.id 1 (by omega) 1 (by omega), if_pos rfl, sm2] at k11
    have ne := det_ne (D0 := D) (a := T.r 0 (n + 0)) (b := T.r 0 (n + 1)) (c := 0) (d := T.r 1 (n + 0)) (e := T.r 1 (n + 1)) (f := 0) (g := 0) (h := 0) (i := 1)
      (A := A 0 (T.b 0)) (B := A 0 (T.b 1)) (C := 0) (D := A 1 (T.b 0)) (E := A 1 (T.b 1)) (F := 0) (G := 0) (H := 0) (I := 1)
      (by grind) (by grind) (by grind) (by grind) (by grind) (by grind) (by grind) (by grind) (by grind) hD
    have cr := cramer3 (a := A 0 (T.b 0) * D) (b := A 0 (T.b 1) * D) (c := 0) (d := A 1 (T.b 0) * D) (e := A 1 (T.b 1) * D) (f := 0) (g := 0) (h := 0) (i := 1) (x := T.r 0 j) (y := T.r 1 j) (z := 0) (u := A 0 j * D) (v := A 1 j * D) (w := 0)
      (by grind) (by grind) (by grind)
    have ne' : det3 (A 0 (T.b 0) * D) (A 0 (T.b 1) * D) 0 (A 1 (T.b 0) * D) (A 1 (T.b 1) * D) 0 0 0 1 ≠ 0 := fun z => ne (by unfold det3 at z ⊢; grind)
    have b00 := h 0 (by omega) _ (bl 0 (by omega))
    have b01 := h 0 (by omega) _ (bl 1 (by omega))
    have b10 := h 1 (by omega) _ (bl 0 (by omega))
    have b11 := h 1 (by omega) _ (bl 1 (by omega))
    have bu := h 0 (by omega) j hj
    have bv := h 1 (by omega) j hj
    have bd := Bd.det3 b00 b01 Bd.zero b10 b11 Bd.zero Bd.zero Bd.zero (Bd.one hB)
    have : i = 0 ∨ i = 1 := by omega
    rcases this with rfl | rfl
    · exact sz_of (Bd.det3 bu b01 Bd.zero bv b11 Bd.zero Bd.zero Bd.zero (Bd.one hB)) bd ne' cr.1
    · exact sz_of (Bd.det3 b00 bu Bd.zero b10 bv Bd.zero Bd.zero Bd.zero (Bd.one hB)) bd ne' cr.2.1
  · have e0 := V.iv 0 (by omega) j hj
    have e1 := V.iv 1 (by omega) j hj
    have e2 := V.iv 2 (by omega) j hj
    rw [sm3] at e0 e1 e2
    have k00 := V.cm 0 (by omega) _ (bl 0 (by omega))
    have k01 := V.cm 0 (by omega) _ (bl 1 (by omega))
    have k02 := V.cm 0 (by omega) _ (bl 2 (by omega))
    have k10 := V.cm 1 (by omega) _ (bl 0 (by omega))
    have k11 := V.cm 1 (by omega) _ (bl 1 (by omega))
    have k12 := V.cm 1 (by omega) _ (bl 2 (by omega))
    have k20 := V.cm 2 (by omega) _ (bl 0 (by omega))
    have k21 := V.cm 2 (by omega) _ (bl 1 (by omega))
    have k22 := V.cm 2 (by omega) _ (bl 2 (by omega))
    rw [V.id 0 (by omega) 0 (by omega), if_pos rfl, sm3] at k00
    rw [V.id 0 (by omega) 1 (by omega), if_neg (by omega), sm3] at k01
    rw [V.id 0 (by omega) 2 (by omega), if_neg (by omega), sm3] at k02
    rw [V.id 1 (by omega) 0 (by omega), if_neg (by omega), sm3] at k10
    rw [V.id 1 (by omega) 1 (by omega), if_pos rfl, sm3] at k11
    rw [V.id 1 (by omega) 2 (by omega), if_neg (by omega), sm3] at k12
    rw [V.id 2 (by omega) 0 (by omega), if_neg (by omega), sm3] at k20
    rw [V.id 2 (by omega) 1 (by omega), if_neg (by omega), sm3] at k21
    rw [V.id 2 (by omega) 2 (by omega), if_pos rfl, sm3] at k22
    have ne := det_ne (D0 := D) k00.symm k01.symm k02.symm k10.symm k11.symm k12.symm k20.symm k21.symm k22.symm hD
    have cr := cramer3 (a := A 0 (T.b 0) * D) (b := A 0 (T.b 1) * D) (c := A 0 (T.b 2) * D) (d := A 1 (T.b 0) * D) (e := A 1 (T.b 1) * D) (f := A 1 (T.b 2) * D) (g := A 2 (T.b 0) * D) (h := A 2 (T.b 1) * D) (i := A 2 (T.b 2) * D) (x := T.r 0 j) (y := T.r 1 j) (z := T.r 2 j) (u := A 0 j * D) (v := A 1 j * D) (w := A 2 j * D)
      (by grind) (by grind) (by grind)
    have b00 := h 0 (by omega) _ (bl 0 (by omega))
    have b01 := h 0 (by omega) _ (bl 1 (by omega))
    have b02 := h 0 (by omega) _ (bl 2 (by omega))
    have b10 := h 1 (by omega) _ (bl 0 (by omega))
    have b11 := h 1 (by omega) _ (bl 1 (by omega))
    have b12 := h 1 (by omega) _ (bl 2 (by omega))
    have b20 := h 2 (by omega) _ (bl 0 (by omega))
    have b21 := h 2 (by omega) _ (bl 1 (by omega))
    have b22 := h 2 (by omega) _ (bl 2 (by omega))
    have bu := h 0 (by omega) j hj
    have bv := h 1 (by omega) j hj
    have bw := h 2 (by omega) j hj
    have bd := Bd.det3 b00 b01 b02 b10 b11 b12 b20 b21 b22
    have : i = 0 ∨ i = 1 ∨ i = 2 := by omega
    rcases this with rfl | rfl | rfl
    · exact sz_of (Bd.det3 bu b01 b02 bv b11 b12 bw b21 b22) bd ne cr.1
    · exact sz_of (Bd.det3 b00 bu b02 b10 bv b12 b20 bw b22) bd ne cr.2.1
    · exact sz_of (Bd.det3 b00 b01 bu b10 b11 bv b20 b21 bw) bd ne cr.2.2
end Sx
set_option linter.all false
namespace Sx
theorem pigeon : ∀ (K s : Nat) (f : Nat → Nat), (∀ i, i ≤ s → f i < K) → (∀ i j, i < j → j ≤ s → f i ≠ f j) → s < K
  | 0, s, f, h, _ => absurd (h 0 (by omega)) (by omega)
  | K + 1, s, f, h, d => by
    by_cases h0 : s = 0
    · omega
    · by_cases e : ∃ t, t ≤ s ∧ f t = K
      · obtain ⟨t, ht, et⟩ := e
        have ne : ∀ j, j ≤ s → j ≠ t → f j < K := fun j hj hn => by
          have h1 := h j hj
          have h2 : f j ≠ K := fun z => by
            rcases Nat.lt_or_gt_of_ne hn with x | x
            · exact d j t x ht (by rw [z, et])
            · exact d t j x hj (by rw [z, et])
          omega
        have := pigeon K (s - 1) (fun i => if i < t then f i else f (i + 1)) (fun i hi => by
          by_cases x : i < t
          · rw [if_pos x]; exact ne i (by omega) (by omega)
          · rw [if_neg x]; exact ne (i + 1) (by omega) (by omega)) (fun i j hij hj => by
          by_cases x : i < t
          · by_cases y : j < t
            · rw [if_pos x, if_pos y]; exact d i j hij (by omega)
            · rw [if_pos x, if_neg y]; exact d i (j + 1) (by omega) (by omega)
          · rw [if_neg x, if_neg (by omega)]; exact d (i + 1) (j + 1) (by omega) (by omega))
        omega
      · have := pigeon K s f (fun i hi => by
          have h1 := h i hi
          have h2 : f i ≠ K := fun z => e ⟨i, hi, z⟩
          omega) d
        omega
def code (N : Nat) (b : Nat → Nat) : Nat → Nat
  | 0 => 0
  | m + 1 => code N b m * N + b m
theorem code_lt {N : Nat} {b : Nat → Nat} : ∀ m, (∀ i, i < m → b i < N) → code N b m < N ^ m
  | 0, _ => by show 0 < 1; omega
  | m + 1, h => by
    have h1 := code_lt m fun i hi => h i (by omega)
    have h2 := h m (by omega)
    show code N b m * N + b m < N ^ (m + 1)
    rw [Nat.pow_succ]
    have h3 : (code N b m + 1) * N ≤ N ^ m * N := Nat.mul_le_mul_right N h1
    rw [Nat.add_mul, Nat.one_mul] at h3
    omega
theorem code_inj {N : Nat} {b b' : Nat → Nat} : ∀ m, (∀ i, i < m → b i < N) → (∀ i, i < m → b' i < N) → code N b m = code N b' m → ∀ i, i < m → b i = b' i
  | 0, _, _, _ => fun i hi => by omega
  | m + 1, h, h', e => fun i hi => by
    have e : code N b m * N + b m = code N b' m * N + b' m := e
    have l1 := h m (by omega)
    have l2 := h' m (by omega)
    have hN : 0 < N := by omega
    have m1 : (code N b m * N + b m) % N = b m := by rw [Nat.mul_add_mod_self_right, Nat.mod_eq_of_lt l1]
    have m2 : (code N b' m * N + b' m) % N = b' m := by rw [Nat.mul_add_mod_self_right, Nat.mod_eq_of_lt l2]
    have eb : b m = b' m := by rw [← m1, ← m2, e]
    by_cases z : i = m
    · rw [z, eb]
    · have ec : code N b m = code N b' m := by
        rw [eb] at e
        exact Nat.eq_of_mul_eq_mul_right hN (by omega)
      exact code_inj m (fun i hi => h i (by omega)) (fun i hi => h' i (by omega)) ec i (by omega)
variable {m n : Nat} {A : Nat → Nat → Rat} {c : Nat → Rat} {most : Nat} {T0 T : Tb}
/-- s turns from T0 to T -/
def Hist (m n : Nat) (A : Nat → Nat → Rat) (c : Nat → Rat) (most : Nat) (T0 T : Tb) (s : Nat) : Prop := ∃ S p q, Row m n A c most S p q 0 s ∧ S 0 = T0 ∧ S s = T
theorem Hist.zero (V : Val m n A T) (h : Nn m (n + m) T) : Hist m n A c most T T 0 :=
  ⟨fun _ => T, fun _ => 0, fun _ => 0, ⟨fun _ _ _ => V, fun _ _ _ => h, fun s _ h => absurd h (by omega), fun s _ h => absurd h (by omega)⟩, rfl, rfl⟩
theorem Hist.snoc {s p q : Nat} (h : Hist m n A c most T0 T s) (C : Cho m (n + m) c most T p q) (V : Val m n A (piv T p q)) : Hist m n A c most T0 (piv T p q) (s + 1) := by
  obtain ⟨S, P, Q, R, e0, es⟩ := h
  have nn := R.nn s (by omega) (by omega)
  rw [es] at nn
  refine ⟨fun t => if t ≤ s then S t else piv T p q, fun t => if t < s then P t else p, fun t => if t < s then Q t else q, ⟨fun t _ ht => ?_, fun t _ ht => ?_, fun t _ ht => ?_, fun t _ ht => ?_⟩, ?_, ?_⟩
  · by_cases x : t ≤ s
    · simp only [if_pos x]; exact R.val t (by omega) x
    · simp only [if_neg x]; exact V
  · by_cases x : t ≤ s
    · simp only [if_pos x]; exact R.nn t (by omega) x
    · simp only [if_neg x]; exact C.nn nn
  · by_cases x : t < s
    · simp only [if_pos x, if_pos (Nat.le_of_lt x)]; exact R.cho t (by omega) x
    · have : t = s := by omega
      subst this
      simp only [if_neg x, if_pos (Nat.le_refl _)]
      rw [es]; exact C
  · by_cases x : t < s
    · simp only [if_pos x, if_pos (Nat.le_of_lt x), if_pos (show t + 1 ≤ s from x)]; exact R.nxt t (by omega) x
    · have : t = s := by omega
      subst this
      simp only [if_neg x, if_pos (Nat.le_refl _), if_neg (show ¬ t + 1 ≤ t by omega)]
      rw [es]
  · simp only [if_pos (Nat.zero_le _)]; exact e0
  · simp only [if_neg (show ¬ s + 1 ≤ s by omega)]
theorem Hist.bound {s : Nat} (h : Hist m n A c most T0 T s) (hm : most ≤ n + m) : s < (n + m) ^ m := by
  obtain ⟨S, P, Q, R, _, _⟩ := h
  refine pigeon _ s (fun t => code (n + m) (S t).b m) (fun i hi => code_lt m (R.val i (by omega) hi).bl) fun i j hij hj e => ?_
  have ring := code_inj m (R.val i (by omega) (by omega)).bl (R.val j (by omega) hj).bl e
  have R' : Row m n A c most S P Q i j := ⟨fun t a b => R.val t (by omega) (by omega), fun t a b => R.nn t (by omega) (by omega), fun t a b => R.cho t (by omega) (by omega), fun t a b => R.nxt t (by omega) (by omega)⟩
  exact R'.noRing hm hij ring
/-- turns as a path -/
inductive Rch (m N : Nat) (c : Nat → Rat) (most : Nat) (T0 : Tb) : Tb → Prop
  | refl : Rch m N c most T0 T0
  | step {T : Tb} {p q : Nat} (h : Rch m N c most T0 T) (C : Cho m N c most T p q) : Rch m N c most T0 (piv T p q)
/-- the first of those below k that bear P -/
theorem filter_nil {P : Nat → Bool} {k : Nat} (h : (List.range k).filter P = []) : ∀ j, j < k → P j = false := fun j hj => by
  have := List.filter_eq_nil_iff.mp h j (List.mem_range.mpr hj)
  simpa using this
theorem filter_head {P : Nat → Bool} {q : Nat} {r : List Nat} : ∀ k, (List.range k).filter P = q :: r → q < k ∧ P q = true ∧ ∀ j, j < q → P j = false
  | 0, h => by simp at h
  | k + 1, h => by
    rw [List.range_succ, List.filter_append] at h
    cases e : (List.range k).filter P with
    | nil =>
      rw [e, List.nil_append] at h
      by_cases z : P k = true
      · rw [List.filter_cons_of_pos z] at h
        injection h with h1 h2
        subst h1
        exact ⟨by omega, z, filter_nil e⟩
      · rw [List.filter_cons_of_neg z] at h
        simp at h
    | cons x y =>
      rw [e, List.cons_append] at h
      injection h with h1 h2
      subst h1
      obtain ⟨a, b, d⟩ := filter_head k e
      exact ⟨by omega, b, d⟩
/-- the best of the first i rows -/
def Bst (m N q : Nat) (T : Tb) (i : Nat) : Option Nat → Prop
  | none => ∀ k, k < i → ¬ 0 < T.r k q
  | some a => a < i ∧ 0 < T.r a q ∧ (∀ k, k < i → 0 < T.r k q → T.r a N / T.r a q ≤ T.r k N / T.r k q) ∧ ∀ k, k < i → 0 < T.r k q → T.r k N / T.r k q = T.r a N / T.r a q → T.b a ≤ T.b k
variable {N q i a : Nat}
theorem Bst.skip {o : Option Nat} (h : Bst m N q T i o) (k : ¬ 0 < T.r i q) : Bst m N q T (i + 1) o := by
  cases o with
  | none =>
    intro j hj
    by_cases e : j = i
    · rw [e]; exact k
    · exact h j (by omega)
  | some a =>
    obtain ⟨h1, h2, h3, h4⟩ := h
    refine ⟨by omega, h2, fun j hj hp => ?_, fun j hj hp => ?_⟩
    · by_cases e : j = i
      · rw [e] at hp; exact absurd hp k
      · exact h3 j (by omega) hp
    · by_cases e : j = i
      · rw [e] at hp; exact absurd hp k
      · exact h4 j (by omega) hp
theorem Bst.first (h : Bst m N q T i none) (k : 0 < T.r i q) : Bst m N q T (i + 1) (some i) :=
  ⟨by omega, k, fun j hj hp => by
    by_cases e : j = i
    · rw [e]; exact Rat.le_refl
    · exact absurd hp (h j (by omega)), fun j hj hp _ => by
    by_cases e : j = i
    · rw [e]; exact Nat.le_refl _
    · exact absurd hp (h j (by omega))⟩
theorem Bst.better (h : Bst m N q T i (some a)) (k : 0 < T.r i q) (lt : T.r i N / T.r i q < T.r a N / T.r a q) : Bst m N q T (i + 1) (some i) := by
  obtain ⟨h1, h2, h3, h4⟩ := h
  refine ⟨by omega, k, fun j hj hp => ?_, fun j hj hp he => ?_⟩
  · by_cases e : j = i
    · rw [e]; exact Rat.le_refl
    · have := h3 j (by omega) hp
      generalize T.r i N / T.r i q = x at *
      generalize T.r a N / T.r a q = y at *
      generalize T.r j N / T.r j q = z at *
      grind
  · by_cases e : j = i
    · rw [e]; exact Nat.le_refl _
    · have := h3 j (by omega) hp
      generalize T.r i N / T.r i q = x at *
      generalize T.r a N / T.r a q = y at *
      generalize T.r j N / T.r j q = z at *
      grind
theorem Bst.tie (h : Bst m N q T i (some a)) (k : 0 < T.r i q) (eq : T.r i N / T.r i q = T.r a N / T.r a q) (lt : T.b i < T.b a) : Bst m N q T (i + 1) (some i) := by
  obtain ⟨h1, h2, h3, h4⟩ := h
  refine ⟨by omega, k, fun j hj hp => ?_, fun j hj hp he => ?_⟩
  · by_cases e : j = i
    · rw [e]; exact Rat.le_refl
    · rw [eq]; exact h3 j (by omega) hp
  · by_cases e : j = i
    · rw [e]; exact Nat.le_refl _
    · have := h4 j (by omega) hp (by rw [he, eq])
      omega
theorem Bst.keep (h : Bst m N q T i (some a)) (k : 0 < T.r i q) (nl : ¬ T.r i N / T.r i q < T.r a N / T.r a q) (nt : ¬ (T.r i N / T.r i q = T.r a N / T.r a q ∧ T.b i < T.b a)) : Bst m N q T (i + 1) (some a) := by
  obtain ⟨h1, h2, h3, h4⟩ := h
  refine ⟨by omega, h2, fun j hj hp => ?_, fun j hj hp he => ?_⟩
  · by_cases e : j = i
    · rw [e]
      generalize T.r i N / T.r i q = x at *
      generalize T.r a N / T.r a q = y at *
      grind
    · exact h3 j (by omega) hp
  · by_cases e : j = i
    · rw [e] at he ⊢
      have : ¬ T.b i < T.b a := fun z => nt ⟨he, z⟩
      omega
    · exact h4 j (by omega) hp he
theorem Bst.cho {most : Nat} (h : Bst m N q T m (some a)) (hq : q < most) (hn : line m c T q < 0) (hf : ∀ j, j < q → 0 ≤ line m c T j) : Cho m N c most T a q := by
  obtain ⟨h1, h2, h3, h4⟩ := h
  exact ⟨hq, hn, hf, h1, h2, h3, h4⟩
end Sx
set_option linter.all false
namespace Sx
variable {m n : Nat} {A : Nat → Nat → Rat} {T T' : Tb} {c : Nat → Rat}
/-- weights from 0 on that make the numbers -/
def FeA (m n : Nat) (A : Nat → Nat → Rat) (x : Nat → Rat) : Prop := (∀ j, j < n → 0 ≤ x j) ∧ ∀ k, k < m → sm n (fun j => A k j * x j) = A k (n + m)
/-- a base whose helping rows are empty -/
def Ar (m n : Nat) (T : Tb) : Prop := ∀ i, i < m → n ≤ T.b i → T.r i (n + m) = 0 ∧ ∀ j, j < n → T.r i j = 0
theorem sol_nn {N : Nat} (h : Nn m N T) (v : Nat) : 0 ≤ sol m N T v := sm_nonneg m fun i hi => by
  by_cases e : T.b i = v
  · rw [if_pos e]; exact h i hi
  · rw [if_neg e]; grind
/-- a sum over columns by the base -/
theorem sum_base (f : Nat → Rat) (N : Nat) (h : ∀ i, i < m → n ≤ T.b i → f (T.b i) * T.r i N = 0) : sm n (fun j => f j * sol m N T j) = sm m (fun i => f (T.b i) * T.r i N) := by
  unfold sol
  rw [sm_ext n (g := fun j => sm m fun i => f j * (if T.b i = j then T.r i N else 0)) fun j _ => by rw [sm_mul]]
  rw [sm_swap]
  refine sm_ext m fun i hi => ?_
  by_cases hb : T.b i < n
  · rw [sm_one (k := T.b i) n hb fun j _ ne => by rw [if_neg (fun z => ne z.symm)]; grind]
    rw [if_pos rfl]
  · rw [h i hi (by omega)]
    exact sm_eq0 fun j hj => by rw [if_neg (by omega)]; grind
theorem Val.fe (V : Val m n A T) (hn : Nn m (n + m) T) (hA : ∀ i, i < m → n ≤ T.b i → T.r i (n + m) = 0) : FeA m n A (sol m (n + m) T) :=
  ⟨fun j _ => sol_nn hn j, fun k hk => by
    rw [sum_base (fun j => A k j) (n + m) fun i hi hb => by rw [hA i hi hb]; grind]
    exact (V.iv k hk (n + m) (Nat.le_refl _)).symm⟩
/-! ### the first costs: the helping columns alone -/
def c1 (m n : Nat) (j : Nat) : Rat := if j < n then 0 else if j < n + m then 1 else 0
theorem c1_lo {j : Nat} (h : j < n) : c1 m n j = 0 := if_pos h
theorem c1_hi {j : Nat} (h : n ≤ j) (k : j < n + m) : c1 m n j = 1 := by unfold c1; rw [if_neg (by omega), if_pos k]
theorem c1_N : c1 m n (n + m) = 0 := by unfold c1; rw [if_neg (by omega), if_neg (by omega)]
theorem c1_nn (j : Nat) : 0 ≤ c1 m n j := by unfold c1; split <;> (try split) <;> grind
theorem first_ends {q : Nat} (h : line m (c1 m n) T q < 0) (k : ∀ i, i < m → ¬ 0 < T.r i q) : False := by
  have h2 : sm m (fun i => c1 m n (T.b i) * T.r i q) ≤ 0 := by
    have := sm_le (f := fun i => c1 m n (T.b i) * T.r i q) (g := fun _ => 0) m fun i hi => by
      have h1 := k i hi
      have h3 := mul_nn (c1_nn (m := m) (n := n) (T.b i)) (show 0 ≤ - T.r i q by grind)
      grind
    rwa [sm_zero] at this
  have h1 := c1_nn (m := m) (n := n) q
  unfold line at h
  grind
/-- y times the columns -/
theorem dot_two (y : Nat → Rat) (x : Nat → Rat) (h : ∀ k, k < m → sm n (fun j => A k j * x j) = A k (n + m)) : sm m (fun k => y k * A k (n + m)) = sm n (fun j => sm m (fun k => y k * A k j) * x j) := by
  rw [sm_ext m (g := fun k => sm n fun j => y k * (A k j * x j)) fun k hk => by rw [← h k hk, sm_mul]]
  rw [sm_swap]
  refine sm_ext n fun j _ => ?_
  rw [sm_ext m (g := fun k => (y k * A k j) * x j) fun k _ => by grind]
  rw [sm_mulr]
theorem first_bar (V : Val m n A T) (hn : Nn m (n + m) T) (h : ∀ j, j < n + m → 0 ≤ line m (c1 m n) T j) (h0 : line m (c1 m n) T (n + m) ≠ 0) (x : Nat → Rat) : ¬ FeA m n A x := fun ⟨hx, hf⟩ => by
  have l := line_fac (c := c1 m n) V (j := n + m) (Nat.le_refl _)
  have e := dot_two (fac m n (c1 m n) T) x hf
  have h1 : sm n (fun j => sm m (fun k => fac m n (c1 m n) T k * A k j) * x j) ≤ 0 := by
    have := sm_le (f := fun j => sm m (fun k => fac m n (c1 m n) T k * A k j) * x j) (g := fun _ => 0) n fun j hj => by
      have h2 := h j (by omega)
      rw [line_fac V (by omega), c1_lo hj] at h2
      have h3 := mul_nn (show 0 ≤ - sm m (fun k => fac m n (c1 m n) T k * A k j) by grind) (hx j hj)
      grind
    rwa [sm_zero] at this
  have h2 : 0 ≤ sm m (fun i => c1 m n (T.b i) * T.r i (n + m)) := sm_nonneg m fun i hi => mul_nn (c1_nn _) (hn i hi)
  rw [c1_N] at l
  unfold line at l h0
  rw [c1_N] at l h0
  grind
theorem first_x (V : Val m n A T) (hn : Nn m (n + m) T) (h0 : line m (c1 m n) T (n + m) = 0) : ∀ i, i < m → n ≤ T.b i → T.r i (n + m) = 0 := fun i hi hb => by
  unfold line at h0
  rw [c1_N] at h0
  have h1 := sm_all0 (f := fun i => c1 m n (T.b i) * T.r i (n + m)) m (fun i hi => mul_nn (c1_nn _) (hn i hi)) (by grind) i hi
  rw [c1_hi hb (V.bl i hi)] at h1
  grind
/-! ### the second costs -/
def c2 (n : Nat) (c : Nat → Rat) (j : Nat) : Rat := if j < n then c j else 0
theorem c2_lo {j : Nat} (h : j < n) : c2 n c j = c j := if_pos h
theorem c2_hi {j : Nat} (h : n ≤ j) : c2 n c j = 0 := if_neg (by omega)
theorem Ar.step {N p q : Nat} {d : Nat → Rat} (h : Ar m n T) (C : Cho m N d n T p q) : Ar m n (piv T p q) := fun i hi hb => by
  have hq := C.hq
  by_cases e : i = p
  · subst e; rw [piv_bp] at hb; omega
  · rw [piv_bi T q e] at hb
    obtain ⟨h1, h2⟩ := h i hi hb
    have h3 := h2 q hq
    refine ⟨?_, fun j hj => ?_⟩
    · rw [piv_ri T q _ e, h1, h3]; grind
    · rw [piv_ri T q _ e, h2 j hj, h3]; grind
theorem Ar.rch {N : Nat} {d : Nat → Rat} (h : Ar m n T) (r : Rch m N d n T T') : Ar m n T' := by
  induction r with
  | refl => exact h
  | step _ C ih => exact ih.step C
/-- factors that bar less -/
def DuA (m n : Nat) (A : Nat → Nat → Rat) (c : Nat → Rat) (y : Nat → Rat) : Prop := ∀ j, j < n → sm m (fun k => y k * A k j) ≤ c j
theorem second_told (V : Val m n A T) (hA : Ar m n T) (h : ∀ j, j < n → 0 ≤ line m (c2 n c) T j) :
    DuA m n A c (fac m n (c2 n c) T) ∧ sm m (fun k => fac m n (c2 n c) T k * A k (n + m)) = sm n (fun j => c j * sol m (n + m) T j) := by
  constructor
  · intro j hj
    have h2 := h j hj
    rw [line_fac V (by omega), c2_lo hj] at h2
    grind
  · have l := line_fac (c := c2 n c) V (j := n + m) (Nat.le_refl _)
    have e := sum_base (m := m) (n := n) (T := T) (c2 n c) (n + m) fun i hi hb => by rw [(hA i hi hb).1]; grind
    rw [sm_ext n (f := fun j => c2 n c j * sol m (n + m) T j) (g := fun j => c j * sol m (n + m) T j) fun j hj => by rw [c2_lo hj]] at e
    unfold line at l
    rw [e]
    grind
theorem second_ends {q : Nat} (V : Val m n A T) (hA : Ar m n T) (hq : q < n) (h : line m (c2 n c) T q < 0) (k : ∀ i, i < m → ¬ 0 < T.r i q) (y : Nat → Rat) : ¬ DuA m n A c y := fun hd => by
  have h1 := hd q hq
  -- y times the column, by the base
  have e : sm m (fun k => y k * A k q) = sm m (fun i => sm m (fun k => y k * A k (T.b i)) * T.r i q) := by
    rw [sm_ext m (f := fun k => y k * A k q) (g := fun k => sm m fun i => y k * (A k (T.b i) * T.r i q)) fun k hk => by rw [V.iv k hk q (by omega), sm_mul]]
    rw [sm_swap]
    refine sm_ext m fun i _ => ?_
    rw [← sm_mulr]
    exact sm_ext m fun k _ => by grind
  have h2 : sm m (fun i => c2 n c (T.b i) * T.r i q) ≤ sm m (fun i => sm m (fun k => y k * A k (T.b i)) * T.r i q) := sm_le m fun i hi => by
    by_cases hb : T.b i < n
    · rw [c2_lo hb]
      have h3 := hd (T.b i) hb
      have h4 := mul_nn (show 0 ≤ c (T.b i) - sm m (fun k => y k * A k (T.b i)) by grind) (show 0 ≤ - T.r i q by have := k i hi; grind)
      grind
    · rw [(hA i hi (by omega)).2 q hq]
      grind
  unfold line at h
  rw [c2_lo hq] at h
  grind
end Sx
set_option Elab.async false
set_option linter.all false
set_option maxRecDepth 100000
/-! zip of lists and tuples in any mixture -/
namespace Kz
open PySem PySem.Spec PyProof.Rows L2
/-- a tuple (true) or a list (false) that is read -/
def Sq : Bool → PySem.W.Frag → Hp → Addr → List V → Prop
  | true, K, H, a, xs => SqT K H a xs
  | false, K, H, a, xs => SqL K H a xs
def SqO : Bool → Heap → Addr → Array Value → Prop
  | true, h, a, its => h.IsTuple a its
  | false, h, a, its => h.IsList a its
def ItO : Bool → Heap → Addr → Addr → Nat → Prop
  | true, h, it, a, i => h.IsTupleIter it a i
  | false, h, it, a, i => h.IsListIter it a i
def itObj : Bool → Addr → Obj
  | true, a => { cls := .type "tuple_iterator", data := .fields #[.ref a, .int 0 0] }
  | false, a => { cls := .type "list_iterator", data := .fields #[.ref a, .int 0 0] }
theorem begins (k : Bool) (a : Addr) (its : Array Value) : Begins (.ref a) (itObj k a) fun h => SqO k h a its := by
  cases k
  · exact begins_list a its
  · exact begins_tuple a its
theorem draws {prog : Program} {w : World} {A : Around} (hh : A.handled = none) (k : Bool) (it a : Addr) (hne : a ≠ it) (its : Array Value) :
    Draws prog w A it [it, a] its.size (fun i v => its[i]? = some v) (fun i h => ItO k h it a i ∧ SqO k h a its) := by
  cases k
  · exact Draws.list hh it a hne its
  · exact Draws.tuple hh it a hne its
theorem ItO.rec' {k : Bool} {h : Heap} {it a : Addr} {i : Nat} (x : ItO k h it a i) : ∃ o, h.get? it = some o ∧ ∀ v, o.data ≠ .cell v := by
  cases k with
  | false =>
    obtain ⟨o, e, _, d⟩ := x
    exact ⟨o, e, fun v z => by rw [d] at z; cases z⟩
  | true =>
    obtain ⟨o, e, _, d⟩ := x
    exact ⟨o, e, fun v z => by rw [d] at z; cases z⟩
theorem ItO.stay {k : Bool} {h h' : Heap} {it a : Addr} {i : Nat} (x : ItO k h it a i) (f : ∀ o, h.get? it = some o → h'.get? it = some o) : ItO k h' it a i := by
  cases k with
  | false => exact Heap.IsListIter.at x fun o e => f o e
  | true => exact Heap.IsTupleIter.at x fun o e => f o e
theorem ItO.new {k : Bool} {h : Heap} {it a : Addr} (e : h.get? it = some (itObj k a)) : ItO k h it a 0 := by
  cases k with
  | false => exact ⟨_, e, rfl, rfl⟩
  | true => exact ⟨_, e, rfl, rfl⟩
theorem sq_inv {X : Cx} {pins : List (Addr × Obj)} {σ : L2.St} {H : Hp} {s : Shared} {k : Bool} {a : Addr} {xs : List V} (I : Inv X pins σ H s) (q : Sq k X.K H a xs) :
    ∃ its : List Value, Vals xs its ∧ SqO k s.heap a its.toArray ∧ a < s.heap.objs.size := by
  cases k with
  | false =>
    obtain ⟨its, r, p, _⟩ := I.list q
    exact ⟨its, r, p.isList, p.lt⟩
  | true =>
    obtain ⟨its, r, p, _⟩ := I.tuple q
    exact ⟨its, r, p, p.lt⟩
theorem sq_inj {X : Cx} {pins : List (Addr × Obj)} {σ : L2.St} {H : Hp} {s : Shared} {k : Bool} {a : Addr} {xs ys : List V} (I : Inv X pins σ H s) (q : Sq k X.K H a xs) (q' : Sq k X.K H a ys) : xs = ys := by
  cases k with
  | false => exact I.list_inj q q'
  | true => exact I.tuple_inj q q'
/-- what stands at a and b at each turn, in new pairs -/
def ItM (K : PySem.W.Frag) (k1 k2 : Bool) (a b : Addr) : It where
  go := fun i H => ∃ (xs ys : List V) (x y : V), Sq k1 K H a xs ∧ Sq k2 K H b ys ∧ xs[i]? = some x ∧ ys[i]? = some y
  yld := fun i H v H' => ∃ T x y, v = .ref T ∧ H T = none ∧ H' = upd H T (.tup [x, y]) ∧ (∀ xs, Sq k1 K H a xs → xs[i]? = some x) ∧ ∀ ys, Sq k2 K H b ys → ys[i]? = some y
  stop := fun i H => ∃ xs ys : List V, Sq k1 K H a xs ∧ Sq k2 K H b ys ∧ i ≤ xs.length ∧ i ≤ ys.length ∧ (i = xs.length ∨ i = ys.length)
/-- the five new cells of a zip -/
abbrev fpz (z : Addr) : List Addr := [z + 4, z + 2, z + 3, z, z + 1]
theorem ltn {z a : Nat} (h : a < z) (k : Nat) : a ≠ z + k ∧ z + k ≠ a := ⟨by omega, by omega⟩
theorem adn (z : Nat) {j k : Nat} (h : j ≠ k) : z + j ≠ z + k := by omega
theorem ad0 (z : Nat) {k : Nat} (h : 0 < k) : z ≠ z + k ∧ z + k ≠ z := ⟨by omega, by omega⟩
theorem out2 {x y c : Nat} (h : c ≠ x) (k : c ≠ y) : c ∉ [x, y] := by simp [h, k]
theorem sep {z a b : Addr} (ha : a < z) (hb : b < z) : ZipSep2 (z + 4) (z + 2) (z + 3) z (z + 1) [z, a] [z + 1, b] where
  TIz := adn z (by decide)
  TOz := adn z (by decide)
  TITO := adn z (by decide)
  TIi1 := (ad0 z (by decide)).2
  mem1 := List.mem_cons_self ..
  zf1 := out2 (ad0 z (by decide)).2 (ltn ha 4).2
  Tf1 := out2 (ad0 z (by decide)).2 (ltn ha 3).2
  TIi2 := adn z (by decide)
  mem2 := List.mem_cons_self ..
  zf2 := out2 (adn z (by decide)) (ltn hb 4).2
  Tf2 := out2 (adn z (by decide)) (ltn hb 3).2
  sep1_2 := out2 (ad0 z (by decide)).1 (Nat.ne_of_gt hb)
  sep2_1 := out2 (ad0 z (by decide)).2 (ltn ha 1).2
theorem ltz {z N : Nat} (h : z + 4 < N) : z < N ∧ z + 1 < N ∧ z + 2 < N ∧ z + 3 < N := ⟨by omega, by omega, by omega, by omega⟩
theorem lez {z c : Nat} (h : c = z + 4 ∨ c = z + 2 ∨ c = z + 3 ∨ c = z ∨ c = z + 1) : z ≤ c := by omega
def Tn (k1 k2 : Bool) (z a b : Addr) (i : Nat) (h : Heap) : Prop :=
  IsZip h (z + 4) (z + 2) (z + 3) .none ∧ IsTupOf2 h (z + 2) (.ref z) (.ref (z + 1)) ∧ (∃ x y, IsTupOf2 h (z + 3) x y) ∧ ItO k1 h z a i ∧ ItO k2 h (z + 1) b i
theorem turnM {P : Program} {w : World} {K : PySem.W.Frag} {elts : List Expr} {kk : Nat} {tpos : Pos} {k1 k2 : Bool} {a b z : Addr} (ha : a < z) (hb : b < z) :
    Turn P w K (.Tuple elts kk tpos) (ItM K k1 k2 a b) (fpz z) (z + 4) (Tn k1 k2 z a b) where
  mem := List.mem_cons_self ..
  obj := fun i h st c hc => by
    obtain ⟨h1, h2, ⟨x, y, h3⟩, h4, h5⟩ := st
    rcases (by simpa using hc : c = z + 4 ∨ c = z + 2 ∨ c = z + 3 ∨ c = z ∨ c = z + 1) with q | q | q | q | q <;> subst q
    · exact ⟨_, h1, fun v q => nomatch q⟩
    · exact ⟨_, h2, fun v q => nomatch q⟩
    · exact ⟨_, h3, fun v q => nomatch q⟩
    · exact h4.rec'
    · exact h5.rec'
  keep := fun i h h' st f => by
    obtain ⟨h1, h2, ⟨x, y, h3⟩, h4, h5⟩ := st
    exact ⟨f _ (by simp) _ h1, f _ (by simp) _ h2, ⟨x, y, f _ (by simp) _ h3⟩, h4.stay (f _ (by simp)), h5.stay (f _ (by simp))⟩
  item := by
    intro X eP ew eK hc i pins s σ H E I hf st hg
    subst eP ew eK
    obtain ⟨h1, h2, ⟨x0, y0, h3⟩, h4, h5⟩ := st
    obtain ⟨xs, ys, x, y, qx, qy, ex, ey⟩ := hg
    obtain ⟨us, rx, px, _⟩ := sq_inv I qx
    obtain ⟨ws, ry, py, _⟩ := sq_inv I qy
    obtain ⟨u, eu, ru⟩ := rx.get ex
    obtain ⟨v, ev, rv⟩ := ry.get ey
    have zl : z + 4 < s.heap.objs.size := Heap.lt_size h1
    have hi1 : i < us.toArray.size := by
      have := (List.getElem?_eq_some_iff.mp eu).1
      simpa using this
    have hi2 : i < ws.toArray.size := by
      have := (List.getElem?_eq_some_iff.mp ev).1
      simpa using this
    refine wpAny_pyNext_zipD2_item (sep ha hb) (draws (A := X.A.in1) (I.ok.hd hc) k1 z a (Nat.ne_of_lt ha) us.toArray) (draws (A := X.A.in1) (I.ok.hd hc) k2 (z + 1) b (ltn hb 1).1 ws.toArray) h1 h2 h3 ⟨h4, px⟩ ⟨h5, py⟩ hi1 hi2
      fun x1 x2 h' tk e1 e2 g1 g2 g3 g4 g5 g6 g7 => ?_
    have e1' : x1 = u := by
      have : us[i]? = some x1 := by simpa using e1
      rw [eu] at this
      exact (Option.some.inj this).symm
    have e2' : x2 = v := by
      have : ws[i]? = some x2 := by simpa using e2
      rw [ev] at this
      exact (Option.some.inj this).symm
    subst e1' e2'
    refine ⟨_, rfl, wpAny_letOwnedTupleGo_zip (s := { s with heap := h', toks := tk }) g1 fun h'' g1' sb => ?_⟩
    have up : ∀ c o, c ≠ z + 4 → h'.get? c = some o → h''.get? c = some o := fun c o ne q => (sb.2 c ne).trans q
    have pr : h''.get? s.heap.objs.size = some { cls := .type "tuple", data := .seq #[x1, x2] } := up _ _ (Nat.ne_of_gt zl) g5
    have new : ObjOk X.prog X.w (upd H s.heap.objs.size (.tup [x, y])) h'' s.heap.objs.size (.tup [x, y]) :=
      ⟨(by decide : (2 : Nat) ≤ sizeLine), [x1, x2], .cons ru (.cons rv .nil), ⟨_, pr, rfl, _, rfl⟩⟩
    have ne4 : ∀ {c : Addr}, c ∉ fpz z → c ≠ z + 4 ∧ c ≠ z + 3 ∧ c ≠ z ∧ c ≠ z + 1 := fun {c} n => by
      simp only [List.mem_cons, List.mem_nil_iff, or_false, not_or] at n
      exact ⟨n.1, n.2.2.1, n.2.2.2.1, n.2.2.2.2⟩
    have J : Inv X pins σ (upd H s.heap.objs.size (.tup [x, y])) { s with heap := h'', toks := tk } :=
      I.turnedNew (t' := tk) (ch := fpz z) (fun c o n q => by
        obtain ⟨n1, n2, n3, n4⟩ := ne4 n
        exact up c o n1 (g7 c o n1 n2 n3 n4 q)) hf (Nat.le_refl _) new
    refine ⟨.ref s.heap.objs.size, _, J, rfl, ⟨_, x, y, rfl, I.hok.fresh (Nat.le_refl _), rfl, fun l hl => by rw [sq_inj I hl qx]; exact ex, fun l hl => by rw [sq_inj I hl qy]; exact ey⟩,
      ⟨g1', up _ _ (adn z (by decide)) (g7 _ _ (adn z (by decide)) (adn z (by decide)) (ad0 z (by decide)).2 (adn z (by decide)) h2), ⟨_, _, up _ _ (adn z (by decide)) g2⟩, g3.1.stay fun o q => up _ o (ad0 z (by decide)).1 q, g4.1.stay fun o q => up _ o (adn z (by decide)) q⟩, fun c hcm => ?_⟩
    have lt : c < s.heap.objs.size := by
      rcases (by simpa using hcm : c = z + 4 ∨ c = z + 2 ∨ c = z + 3 ∨ c = z ∨ c = z + 1) with q | q | q | q | q <;> subst q
      · exact zl
      · exact (ltz zl).2.2.1
      · exact (ltz zl).2.2.2
      · exact (ltz zl).1
      · exact (ltz zl).2.1
    rw [upd_ne (Nat.ne_of_lt lt)]
    exact (hf c hcm).1
  done := by
    intro X eP ew eK hc i pins s σ H E I hf st hg
    subst eP ew eK
    obtain ⟨h1, h2, ⟨x0, y0, h3⟩, h4, h5⟩ := st
    obtain ⟨xs, ys, qx, qy, l1, l2, hend⟩ := hg
    obtain ⟨us, rx, px, _⟩ := sq_inv I qx
    obtain ⟨ws, ry, py, _⟩ := sq_inv I qy
    have s1 : us.toArray.size = xs.length := by simp [rx.length]
    have s2 : ws.toArray.size = ys.length := by simp [ry.length]
    refine wpAny_pyNext_zipD2_end (i := i) (sep ha hb) (draws (A := X.A.in1) (I.ok.hd hc) k1 z a (Nat.ne_of_lt ha) us.toArray) (draws (A := X.A.in1) (I.ok.hd hc) k2 (z + 1) b (ltn hb 1).1 ws.toArray) h1 h2 h3 ⟨h4, px⟩ ⟨h5, py⟩
      (by omega) (by omega) (by omega) fun h' tk f => ⟨rfl, I.turnedL (t' := tk) (ch := fpz z) (fun c o n q => ?_) hf⟩
    simp only [List.mem_cons, List.mem_nil_iff, or_false, not_or] at n
    exact f c o n.1 n.2.2.1 n.2.2.2.1 n.2.2.2.2 q
  self := fun A i s Q E st q => wpAny_pyIter_zip st.1 q

def iZipM (K : PySem.W.Frag) (ta : TA) : TI := fun σ H R => ta σ H fun vs H1 => ∃ k1 k2 a b xs ys, vs = [.ref a, .ref b] ∧ Sq k1 K H1 a xs ∧ Sq k2 K H1 b ys ∧ R (ItM K k1 k2 a b) H1
theorem pi_zipM {X : Cx} {e e2 : Expr} {ta : TA} {p pos tpos : Pos} {elts : List Expr} {kk : Nat} (hg : Gl X "zip") (hm : X.mg "zip" = none) (ha : PA X [e, e2] ta)
    (hs : starEach [e, e2] X.env = (false, eval e X.env) :: starEach [e2] X.env := by rfl) (hpl : (backTo pos (starEach [e2] X.env)).any (·.1) = false := by rfl) :
    PI X (.Tuple elts kk tpos) (.Call (.Name "zip" p) [e, e2] [] pos) (iZipM X.K ta) := by
  refine ⟨fun pins s σ H R I h => Call_ (ld_blt I hg hm boot_zip (callWith_type1 (thn (ha.run pos pins s σ H _ I h) fun us s1 q1 => ?_) hs hpl))⟩
  obtain ⟨vs, H1, I1, r1, k1, k2, a, b, xs, ys, ev, qx, qy, q⟩ := q1
  subst ev
  obtain ⟨u, v, rfl, ra, rb⟩ := vals2 r1
  cases ra
  cases rb
  obtain ⟨its, _, p1, la⟩ := sq_inv I1 qx
  obtain ⟨its2, _, p2, lb⟩ := sq_inv I1 qy
  refine zip_begins2 (begins k1 a its.toArray) (begins k2 b its2.toArray) p1 p2 fun h' hz hTI hTO o1 o2 hsz hk => wpAny_pyIter_zip hz ?_
  have I2 : Inv X pins σ H1 { s1 with heap := h' } := I1.kept (t' := s1.toks) hk
  refine ⟨s1.heap.objs.size + 4, fpz s1.heap.objs.size, _, _, H1, rfl, I2, turnM la lb, ⟨hz, hTI, ⟨_, _, hTO⟩, ItO.new o1, ItO.new o2⟩, fun c hcm => ?_, q⟩
  have le : s1.heap.objs.size ≤ c := lez (by simpa using hcm)
  exact I1.fpOk le (I1.hok.fresh le)
theorem walkM {K : PySem.W.Frag} {k1 k2 : Bool} {a b : Addr} {xs ys : List V} {n : Nat} (h1 : xs.length = n) (h2 : ys.length = n) :
    Walk (ItM K k1 k2 a b) n (fun H => Sq k1 K H a xs ∧ Sq k2 K H b ys) (YPair (fun i => xs[i]?) (fun i => ys[i]?)) := by
  refine ⟨fun i H hi q => ?_, fun H q => ⟨xs, ys, q.1, q.2, by omega, by omega, .inl h1.symm⟩, fun i H v H' _ q y => ?_⟩
  · have a1 : i < xs.length := by omega
    have a2 : i < ys.length := by omega
    exact ⟨xs, ys, xs[i], ys[i], q.1, q.2, by simp [a1], by simp [a2]⟩
  · obtain ⟨T, x, z, e1, e2, e3, e4, e5⟩ := y
    exact ⟨T, x, z, e1, e2, e3, e4 xs q.1, e5 ys q.2⟩
end Kz
set_option Elab.async false
set_option linter.all false
set_option maxRecDepth 100000
namespace K1
open PySem L2 Kz
/-! ### the text by places -/
def top (i : Nat) : Stmt := PySem.Challenge.pw_oneverdict_k01_whole_least_costs.main.body.getD i (.Pass ⟨0, 0, 0, 0⟩)
/-! ### defs by their names -/
structure Df (P : Program) (w : World) (K : PySem.W.Frag) (mg : Str → Option Value) (base : Heap) (CX : CXT) (k : Nat) (x : Str) (ps : List Str) (sp : Sp) : Prop where
  ex : ∃ (f : Addr) (fd : FuncData), FnOk P w K mg base CX k f fd ps sp ∧ mg x = some (.ref f) ∧ PySem.W.keepIn K (.ref f) = true ∧ Binds K fd ps []
theorem pe_callD {X : Cx} {CX : CXT} {E : XK} {k j : Nat} {x : Str} {ps : List Str} {sp : Sp} {e : Expr} {es : List Expr} {t : TA} {p pos : Pos} (D : Df X.prog X.w X.K X.mg X.base CX k x ps sp) (hr : Room j X.A) (hk : k ≤ j) (hg : Gl X x)
    (hx : Passes CX X E) (ha : PA X (e :: es) t) (hdb : (x == ("__debug__" : Str)) = false := by decide)
    (he : starEach (e :: es) X.env = (false, eval e X.env) :: starEach es X.env := by rfl) (hpl : (backTo pos (starEach es X.env)).any (·.1) = false := by rfl) :
    PE X (.Call (.Name x p) (e :: es) [] pos) (tCall sp [] E t) := by
  obtain ⟨f, fd, F, hm, hkp, hb⟩ := D.ex
  exact pe_call F (hr.mono hk) hg hm hkp hb .nil hx ha hdb he hpl
/-! ### heaps -/
theorem Same.upd {H : Hp} {p : Addr} {o : HO} (n : H p = none) : Same H (upd H p o) := fun b u e => by rw [upd_ne (ne_of_none e n)]; exact e
theorem Same.sqT {K : PySem.W.Frag} {H H' : Hp} {a : Addr} {xs : List V} (e : Same H H') (h : SqT K H a xs) : SqT K H' a xs := by
  rcases h with (h | ⟨o, h⟩) | h
  · exact .inl (.inl (e _ _ h))
  · exact .inl (.inr ⟨o, e _ _ h⟩)
  · exact .inr h
theorem Same.sq {K : PySem.W.Frag} {H H' : Hp} {a : Addr} {xs : List V} (e : Same H H') : ∀ {k : Bool}, Sq k K H a xs → Sq k K H' a xs
  | true, h => Same.sqT e h
  | false, h => L2.Same.seq e h
/-! ### fractions -/
def Fr (K : PySem.W.Frag) (H : Hp) (v : V) (q : Rat) : Prop := ∃ a, v = .ref a ∧ SqT K H a [.int q.num, .int (q.den : Int)]
/-- a row of fractions -/
def FrS (K : PySem.W.Frag) (H : Hp) (vs : List V) (k : Nat) (f : Nat → Rat) : Prop := vs.length = k ∧ ∀ j v, vs[j]? = some v → Fr K H v (f j)
/-- .. as a tuple (true), as a list (false) -/
def FrA (b : Bool) (K : PySem.W.Frag) (H : Hp) (v : V) (k : Nat) (f : Nat → Rat) : Prop := ∃ a vs, v = .ref a ∧ Sq b K H a vs ∧ FrS K H vs k f
section
variable {K : PySem.W.Frag} {H H' : Hp} {v : V} {q : Rat} {vs : List V} {k : Nat} {f : Nat → Rat}
theorem Fr.same (e : Same H H') (h : Fr K H v q) : Fr K H' v q := let ⟨a, h1, h2⟩ := h; ⟨a, h1, Same.sqT e h2⟩
theorem FrS.same (e : Same H H') (h : FrS K H vs k f) : FrS K H' vs k f := ⟨h.1, fun j v hj => (h.2 j v hj).same e⟩
theorem FrA.same {b : Bool} (e : Same H H') (h : FrA b K H v k f) : FrA b K H' v k f := let ⟨a, vs, h1, h2, h3⟩ := h; ⟨a, vs, h1, Same.sq e h2, h3.same e⟩
theorem FrS.at (h : FrS K H vs k f) {j : Nat} (hj : j < k) : ∃ v, vs[j]? = some v ∧ Fr K H v (f j) := by
  have hl : j < vs.length := by rw [h.1]; exact hj
  exact ⟨vs[j], List.getElem?_eq_getElem hl, h.2 j _ (List.getElem?_eq_getElem hl)⟩
theorem FrS.nil : FrS K H [] 0 f := ⟨rfl, fun j v e => by simp at e⟩
theorem FrS.snoc (h : FrS K H vs k f) (r : Fr K H v (f k)) : FrS K H (vs ++ [v]) (k + 1) f := by
  refine ⟨by rw [List.length_append, h.1]; rfl, fun j u e => ?_⟩
  by_cases hj : j < vs.length
  · rw [List.getElem?_append_left hj] at e
    exact h.2 j u e
  · rw [List.getElem?_append_right (by omega)] at e
    have hj0 : j - vs.length = 0 := by
      by_cases z : j - vs.length = 0
      · exact z
      · rw [List.getElem?_eq_none (by simp; omega)] at e
        cases e
    have ej : j = k := by have := h.1; omega
    rw [hj0] at e
    have : v = u := by simpa using e
    subst this
    rw [ej]
    exact r
theorem FrS.ext {g : Nat → Rat} (h : FrS K H vs k f) (e : ∀ j, j < k → f j = g j) : FrS K H vs k g := ⟨h.1, fun j v hj => by
  have : j < k := by have := (List.getElem?_eq_some_iff.mp hj).1; rw [h.1] at this; exact this
  rw [← e j this]
  exact h.2 j v hj⟩
theorem FrA.ext {b : Bool} {g : Nat → Rat} (h : FrA b K H v k f) (e : ∀ j, j < k → f j = g j) : FrA b K H v k g := let ⟨a, vs, h1, h2, h3⟩ := h; ⟨a, vs, h1, h2, h3.ext e⟩
end
/-! ### sizes -/
def Sm (n : Nat) (q : Rat) : Prop := q.num.natAbs < 2 ^ n ∧ q.den < 2 ^ n
theorem two_le {a b : Nat} (h : a ≤ b) : 2 ^ a ≤ 2 ^ b := Nat.pow_le_pow_right (by decide) h
theorem Sm.mono {a b : Nat} {q : Rat} (h : Sm a q) (k : a ≤ b) : Sm b q := ⟨Nat.lt_of_lt_of_le h.1 (two_le k), Nat.lt_of_lt_of_le h.2 (two_le k)⟩
theorem num_div_le (p d : Int) (h0 : d ≠ 0) : (Rat.divInt p d).num.natAbs ≤ p.natAbs ∧ (Rat.divInt p d).den ≤ d.natAbs := by
  constructor
  · rw [Rat.num_divInt]
    have h1 : (d.sign * p).natAbs = p.natAbs := by
      rw [Int.natAbs_mul, Int.natAbs_sign_of_ne_zero h0, Nat.one_mul]
    exact Nat.le_trans (Int.natAbs_ediv_le_natAbs _ _) (Nat.le_of_eq h1)
  · rw [Rat.den_divInt, if_neg h0]
    exact Nat.div_le_self _ _
theorem rat_split (q : Rat) : q = Rat.divInt q.num q.den := (Rat.num_divInt_den q).symm
theorem den_ne (q : Rat) : (q.den : Int) ≠ 0 := by have := q.den_nz; omega
theorem sm_divInt {n : Nat} {p d : Int} (h0 : d ≠ 0) (hp : p.natAbs < 2 ^ n) (hd : d.natAbs < 2 ^ n) : Sm n (Rat.divInt p d) :=
  ⟨Nat.lt_of_le_of_lt (num_div_le p d h0).1 hp, Nat.lt_of_le_of_lt (num_div_le p d h0).2 hd⟩
theorem add_eq (p q : Rat) : p + q = Rat.divInt (p.num * q.den + q.num * p.den) (p.den * q.den) := by
  conv => lhs; rw [rat_split p, rat_split q, Rat.divInt_add_divInt _ _ (den_ne p) (den_ne q)]
theorem sub_eq (p q : Rat) : p - q = Rat.divInt (p.num * q.den - q.num * p.den) (p.den * q.den) := by
  conv => lhs; rw [rat_split p, rat_split q, Rat.divInt_sub_divInt _ _ (den_ne p) (den_ne q)]
theorem mul_eq (p q : Rat) : p * q = Rat.divInt (p.num * q.num) (p.den * q.den) := by
  conv => lhs; rw [rat_split p, rat_split q, Rat.divInt_mul_divInt]
theorem div_eq (p q : Rat) (h : q ≠ 0) : p / q = Rat.divInt (p.num * q.den) (p.den * q.num) := by
  have hn : q.num ≠ 0 := fun z => h (Rat.num_eq_zero.mp z)
  have h1 : q⁻¹ = Rat.divInt q.den q.num := by
    conv => lhs; rw [rat_split q, Rat.inv_divInt]
  rw [Rat.div_def, h1]
  conv => lhs; rw [rat_split p, Rat.divInt_mul_divInt]
theorem nat_mul_lt {a b m n : Nat} (h : a < 2 ^ m) (k : b < 2 ^ n) : a * b < 2 ^ (m + n) := by rw [Nat.pow_add]; exact Nat.mul_lt_mul'' h k
theorem mulI {i j : Int} {m n : Nat} (h : i.natAbs < 2 ^ m) (k : j.natAbs < 2 ^ n) : (i * j).natAbs < 2 ^ (m + n) := by rw [Int.natAbs_mul]; exact nat_mul_lt h k
theorem addI {i j : Int} {n : Nat} (h : i.natAbs < 2 ^ n) (k : j.natAbs < 2 ^ n) : (i + j).natAbs < 2 ^ (n + 1) ∧ (i - j).natAbs < 2 ^ (n + 1) := by
  rw [Nat.pow_succ]
  constructor <;> omega
theorem den_dd (p q : Rat) : ((p.den : Int) * q.den) ≠ 0 := Int.mul_ne_zero (den_ne p) (den_ne q)
theorem Sm.mul {m n : Nat} {p q : Rat} (h : Sm m p) (k : Sm n q) : Sm (m + n) (p * q) := by
  rw [mul_eq]
  exact sm_divInt (den_dd p q) (mulI h.1 k.1) (mulI (i := p.den) (j := q.den) h.2 k.2)
theorem Sm.add {m n : Nat} {p q : Rat} (h : Sm m p) (k : Sm n q) : Sm (m + n + 1) (p + q) := by
  rw [add_eq]
  refine sm_divInt (den_dd p q) (addI (mulI h.1 (j := (q.den : Int)) k.2) (by rw [Nat.add_comm]; exact mulI k.1 (j := (p.den : Int)) h.2)).1 ?_
  exact Nat.lt_of_lt_of_le (mulI (i := p.den) (j := q.den) h.2 k.2) (two_le (Nat.le_succ _))
theorem Sm.sub {m n : Nat} {p q : Rat} (h : Sm m p) (k : Sm n q) : Sm (m + n + 1) (p - q) := by
  rw [sub_eq]
  refine sm_divInt (den_dd p q) (addI (mulI h.1 (j := (q.den : Int)) k.2) (by rw [Nat.add_comm]; exact mulI k.1 (j := (p.den : Int)) h.2)).2 ?_
  exact Nat.lt_of_lt_of_le (mulI (i := p.den) (j := q.den) h.2 k.2) (two_le (Nat.le_succ _))
theorem Sm.div {m n : Nat} {p q : Rat} (h : Sm m p) (k : Sm n q) (h0 : q ≠ 0) : Sm (m + n) (p / q) := by
  have hn : q.num ≠ 0 := fun z => h0 (Rat.num_eq_zero.mp z)
  rw [div_eq p q h0]
  exact sm_divInt (Int.mul_ne_zero (den_ne p) hn) (mulI h.1 (j := (q.den : Int)) k.2) (mulI (i := p.den) h.2 k.1)
theorem num_neg {q : Rat} : q.num < 0 ↔ q < 0 := by
  rw [Rat.lt_iff]
  simp
theorem num_pos {q : Rat} : 0 < q.num ↔ 0 < q := by
  rw [Rat.lt_iff]
  simp
theorem lt_eq (p q : Rat) : p < q ↔ p.num * q.den < q.num * p.den := Rat.lt_iff p q
theorem fr_inj {p q : Rat} (h : p.num = q.num) (k : (p.den : Int) = q.den) : p = q := Rat.ext h (by omega)
end K1
set_option Elab.async false
set_option linter.all false
set_option maxRecDepth 100000
namespace K1
open PySem L2 Kz
theorem sz2 : (2 : Nat) ≤ sizeLine := by decide
abbrev sCommon : Stmt := top 6
abbrev sFraction : Stmt := top 7
def spCommon : Sp := fun vs H Q _ => ∃ a b : Int, vs = [.int a, .int b] ∧ Q (.int (Int.gcd a b : Nat)) H
section
variable {P : Program} {w : World} {K : PySem.W.Frag} {mg : Str → Option Value} {base : Heap}
theorem scCommon : FnScope ["one", "other"] ["one", "other"] (defScope sCommon) := ⟨rfl, rfl, rfl, by decide +kernel, rfl, by decide +kernel, by decide +kernel⟩
theorem gcd_step {a b : Int} (ha : 0 ≤ a) (hb : 0 < b) : Int.gcd b (a % b) = Int.gcd a b := by
  obtain ⟨m, rfl⟩ := Int.eq_ofNat_of_zero_le ha
  obtain ⟨n, rfl⟩ := Int.eq_ofNat_of_zero_le (Int.le_of_lt hb)
  show Nat.gcd n ((m % n : Nat)) = Nat.gcd m n
  rw [Nat.gcd_comm n, ← Nat.gcd_rec, Nat.gcd_comm]
theorem ok_common {f : Addr} {fd : FuncData} (F : Fun K "common_divisor" "common_divisor" sCommon f fd) (zA : mg "abs" = none) (zI : mg "int" = none) : FnOk P w K mg base CX0 1 f fd ["one", "other"] spCommon := by
  refine F.ok scCommon (fun vs H Q E h => ?_) (fun cdv A outer s H vs Q E hr h => ?_)
  · obtain ⟨a, b, rfl, _⟩ := h
    rfl
  · obtain ⟨a, b, rfl, k⟩ := h
    refine ⟨_, pss_cons (ps_par (i := 0) (j := 1) rfl scCommon.nd rfl rfl (by decide) rfl rfl
        (pa_cons (pe_callB call_abs (by rfl) zA PyProof.Rows.boot_abs (pa_cons (pv 0) pa_nil)) (pa_cons (pe_callB call_abs (by rfl) zA PyProof.Rows.boot_abs (pa_cons (pv 1) pa_nil)) pa_nil)) rfl)
      (pss_cons (ps_while PassesOwn.never (pt_cmpR op_gt (pv 1) pe_int (nomark _))
        (pss_one (ps_par (i := 0) (j := 1) rfl scCommon.nd rfl rfl (by decide) rfl rfl
          (pa_cons (pv 1) (pa_cons (pe_op op_mod (pe_callTy call_int1 (by rfl) zI PyProof.Rows.boot_int (pa_cons (pv 0) pa_nil)) (pv 1)) pa_nil)) rfl)))
      (pss_one (ps_ret (pv 0)))), ?_⟩
    refine ⟨_, rfl, a, rfl, _, rfl, b, rfl, _, _, rfl, ?_⟩
    refine ⟨fun m σ H1 => ∃ x y : Int, 0 ≤ x ∧ 0 ≤ y ∧ m = y.toNat ∧ H1 = H ∧ σ = [some (.int x), some (.int y)] ∧ Int.gcd x y = Int.gcd a b,
      ⟨_, _, _, ?_, ?_, rfl, rfl, rfl, ?_⟩, ?_⟩
    · split <;> omega
    · split <;> omega
    · split <;> split <;> simp [Int.gcd]
    · rintro m σ H1 ⟨x, y, hx, hy, rfl, rfl, rfl, hg⟩
      refine ⟨_, rfl, _, _, rfl, rfl, _, rfl, ite2 (fun hc => ?_) fun hc => ?_⟩
      · have hy' : 0 < y := of_decide_eq_true hc
        refine ⟨fun σ' H' => ∃ m', m' < y.toNat ∧ ∃ x y : Int, 0 ≤ x ∧ 0 ≤ y ∧ m' = y.toNat ∧ H' = H1 ∧ σ' = [some (.int x), some (.int y)] ∧ Int.gcd x y = Int.gcd a b, fun _ _ q => q, ?_⟩
        refine ⟨_, rfl, _, rfl, .inl ⟨x, rfl, _, rfl, _, _, rfl, rfl, hy', _, _, rfl, _, ?_, _, _, hy, Int.emod_nonneg _ (by omega), rfl, rfl, rfl, ?_⟩⟩
        · have h1 := Int.emod_nonneg x (b := y) (by omega)
          have h2 := Int.emod_lt_of_pos x hy'
          omega
        · rw [gcd_step hx hy', hg]
      · have hy' : ¬ 0 < y := fun z => hc (decide_eq_true z)
        have ey : y = 0 := by omega
        subst ey
        refine ⟨_, rfl, ?_⟩
        have : x = ((Int.gcd a b : Nat) : Int) := by
          rw [← hg, Int.gcd_zero_right]
          omega
        rw [← this] at k
        exact k
/-- fraction(top, bottom) -/
def spFraction (K : PySem.W.Frag) : Sp := fun vs H Q _ => ∃ t b : Int, vs = [.int t, .int b] ∧ b ≠ 0 ∧ t.natAbs < 2 ^ 8000 ∧ b.natAbs < 2 ^ 8000 ∧ ∀ H' r, Same H H' → Fr K H' r (Rat.divInt t b) → Q r H'
theorem scFraction : FnScope ["top", "bottom", "divisor"] ["top", "bottom"] (defScope sFraction) := ⟨rfl, rfl, rfl, by decide +kernel, rfl, by decide +kernel, by decide +kernel⟩
theorem frac_num {t b g : Int} (h : 0 < b) (hg : g = (Int.gcd t b : Nat)) : t / g = (Rat.divInt t b).num ∧ b / g = ((Rat.divInt t b).den : Int) := by
  subst hg
  rw [Rat.num_divInt, Rat.den_divInt, if_neg (by omega), Int.sign_eq_one_of_pos h, Int.one_mul, Int.gcd_comm b t]
  refine ⟨rfl, ?_⟩
  rw [Int.natCast_ediv, Int.natAbs_of_nonneg (by omega)]
theorem ok_fraction {f : Addr} {fd : FuncData} (F : Fun K "fraction" "fraction" sFraction f fd) (D : Df P w K mg base CX0 1 "common_divisor" ["one", "other"] spCommon) : FnOk P w K mg base CX0 2 f fd ["top", "bottom"] (spFraction K) := by
  refine F.ok scFraction (fun vs H Q E h => ?_) (fun cdv A outer s H vs Q E hr h => ?_)
  · obtain ⟨a, b, rfl, _⟩ := h
    rfl
  · obtain ⟨t, b, rfl, h0, ht, hb, k⟩ := h
    refine ⟨_, pss_cons (ps_if (pt_cmpR op_eq (pv 1) pe_int (nomark _)) pss_never pss_nil)
      (pss_cons (ps_if (pt_cmpR op_lt (pv 1) pe_int (nomark _)) (pss_one (ps_par (i := 0) (j := 1) rfl scFraction.nd rfl rfl (by decide) rfl rfl (pa_cons (pe_un un_neg (pv 0)) (pa_cons (pe_un un_neg (pv 1)) pa_nil)) rfl)) pss_nil)
      (pss_cons (ps_set (i := 2) scFraction.nd rfl (.inl rfl) (pe_callD D hr (by decide) (by rfl) pass0 (pa_cons (pv 0) (pa_cons (pv 1) pa_nil))))
      (pss_one (ps_ret (pe_tup (pa_cons (pe_op op_fdivW (pv 0) (pv 2)) (pa_cons (pe_op op_fdivW (pv 1) (pv 2)) pa_nil))))))), ?_⟩
    refine ⟨_, rfl, rfl, _, rfl, ?_⟩
    rw [show decide (V.int b = V.int 0) = false from decide_eq_false fun z => h0 (V.int.inj z)]
    refine iteF ?_
    have key : ∀ (t b : Int) (H' : Hp) (p : Addr), 0 < b → H p = none → H' = upd H p (.tup [.int (t / (Int.gcd t b : Nat)), .int (b / (Int.gcd t b : Nat))]) → Fr K H' (.ref p) (Rat.divInt t b) := fun t b H' p hb np e => by
      obtain ⟨e1, e2⟩ := frac_num hb (g := (Int.gcd t b : Nat)) rfl
      exact ⟨p, rfl, SqT.of (by rw [e, upd_same, e1, e2])⟩
    have dv : ∀ t b : Int, 0 < b → b.natAbs < 2 ^ 8000 → ∀ i, CDivW i (Int.gcd t b : Nat) := fun t b h1 h2 i => by
      have h3 := Int.gcd_pos_of_ne_zero_right t (b := b) (by omega)
      have h4 : Int.gcd t b ≤ b.natAbs := Nat.le_of_dvd (by omega) (Int.gcd_dvd_natAbs_right t b)
      exact wide_div (b := 8000) (by omega) (Nat.lt_of_le_of_lt h4 h2) (by decide) (by decide)
    refine ⟨_, rfl, _, _, rfl, rfl, _, rfl, ite2 (fun hc => ?_) fun hc => ?_⟩
    · have hneg : b < 0 := of_decide_eq_true hc
      refine ⟨_, rfl, t, rfl, _, rfl, b, rfl, _, _, rfl, ?_⟩
      refine ⟨_, rfl, _, rfl, -t, -b, rfl, ?_⟩
      refine ⟨_, rfl, _, rfl, _, _, rfl, rfl, dv (-t) (-b) (by omega) (by rw [Int.natAbs_neg]; exact hb) _, _, rfl, _, rfl, _, _, rfl, rfl, dv (-t) (-b) (by omega) (by rw [Int.natAbs_neg]; exact hb) _, sz2, fun p np => ?_⟩
      refine k _ _ (Same.upd np) ?_
      have := key (-t) (-b) _ p (by omega) np rfl
      rw [show Rat.divInt t b = Rat.divInt (-t) (-b) by rw [Rat.neg_divInt_neg]]
      exact this
    · have hpos : 0 < b := by
        have : ¬ b < 0 := fun z => hc (decide_eq_true z)
        omega
      refine ⟨_, rfl, _, rfl, t, b, rfl, ?_⟩
      refine ⟨_, rfl, _, rfl, _, _, rfl, rfl, dv t b hpos hb _, _, rfl, _, rfl, _, _, rfl, rfl, dv t b hpos hb _, sz2, fun p np => ?_⟩
      exact k _ _ (Same.upd np) (key t b _ p hpos np rfl)
end
end K1
set_option Elab.async false
set_option linter.all false
set_option maxRecDepth 100000
namespace K1
open PySem L2 Kz
abbrev sPlus : Stmt := top 8
abbrev sMinus : Stmt := top 9
abbrev sTimes : Stmt := top 10
abbrev sOver : Stmt := top 11
abbrev sLess : Stmt := top 12
abbrev sTotal : Stmt := top 13
abbrev sScalar : Stmt := top 14
/-- two fractions to one -/
def spBin (K : PySem.W.Frag) (ok : Rat → Rat → Prop) (g : Rat → Rat → Rat) : Sp := fun vs H Q _ => ∃ u v p q, vs = [u, v] ∧ Fr K H u p ∧ Fr K H v q ∧ Sm 3000 p ∧ Sm 3000 q ∧ ok p q ∧ ∀ H' r, Same H H' → Fr K H' r (g p q) → Q r H'
def spLess (K : PySem.W.Frag) : Sp := fun vs H Q _ => ∃ u v p q, vs = [u, v] ∧ Fr K H u p ∧ Fr K H v q ∧ Sm 3000 p ∧ Sm 3000 q ∧ Q (.bl (decide (p < q))) H
theorem at0 {x y : V} : atI [x, y] (0 : Int) = some x := rfl
theorem at1 {x y : V} : atI [x, y] (1 : Int) = some y := rfl
section
variable {P : Program} {w : World} {K : PySem.W.Frag} {mg : Str → Option Value} {base : Heap}
theorem scPlus : FnScope ["one", "other"] ["one", "other"] (defScope sPlus) := ⟨rfl, rfl, rfl, by decide +kernel, rfl, by decide +kernel, by decide +kernel⟩
theorem scMinus : FnScope ["one", "other"] ["one", "other"] (defScope sMinus) := ⟨rfl, rfl, rfl, by decide +kernel, rfl, by decide +kernel, by decide +kernel⟩
theorem scTimes : FnScope ["one", "other"] ["one", "other"] (defScope sTimes) := ⟨rfl, rfl, rfl, by decide +kernel, rfl, by decide +kernel, by decide +kernel⟩
theorem scOver : FnScope ["one", "other"] ["one", "other"] (defScope sOver) := ⟨rfl, rfl, rfl, by decide +kernel, rfl, by decide +kernel, by decide +kernel⟩
theorem scLess : FnScope ["one", "other"] ["one", "other"] (defScope sLess) := ⟨rfl, rfl, rfl, by decide +kernel, rfl, by decide +kernel, by decide +kernel⟩
theorem mw {i j : Int} (h : i.natAbs < 2 ^ 3000) (k : j.natAbs < 2 ^ 3000) : CMulW i j := wide_mul h k (by decide) (by decide) (by decide)
/-- one[i] -/
theorem pe_at0 {X : Cx} {i : Nat} {e : Expr} {t : TE} {p1 p2 pos : Pos} (he : PE X e t) {j : Nat} : PE X (.Subscript e (.Constant (.int 0) j p2) pos) (tOp (rIxT X.K) t (fun _ H Q => Q (.int 0) H)) := pe_ix ix_tup he pe_int (fun _ _ => rfl)
theorem Sm.d {n : Nat} {q : Rat} (h : Sm n q) : (q.den : Int).natAbs < 2 ^ n := h.2
theorem ok_plus {f : Addr} {fd : FuncData} (F : Fun K "plus" "plus" sPlus f fd) (D : Df P w K mg base CX0 2 "fraction" ["top", "bottom"] (spFraction K)) : FnOk P w K mg base CX0 3 f fd ["one", "other"] (spBin K (fun _ _ => True) fun p q => p + q) := by
  refine F.ok scPlus (fun vs H Q E h => ?_) (fun cdv A outer s H vs Q E hr h => ?_)
  · obtain ⟨u, v, p, q, rfl, _⟩ := h
    rfl
  · obtain ⟨u, v, p, q, rfl, ⟨a, rfl, ha⟩, ⟨b, rfl, hb⟩, sp, sq, _, k⟩ := h
    refine ⟨_, pss_one (ps_ret (pe_callD D hr (by decide) (by rfl) pass0
      (pa_cons (pe_op op_add (pe_op op_mulW (pe_ix ix_tup (pv 0) pe_int (fun _ _ => rfl)) (pe_ix ix_tup (pv 1) pe_int (fun _ _ => rfl))) (pe_op op_mulW (pe_ix ix_tup (pv 1) pe_int (fun _ _ => rfl)) (pe_ix ix_tup (pv 0) pe_int (fun _ _ => rfl))))
      (pa_cons (pe_op op_mulW (pe_ix ix_tup (pv 0) pe_int (fun _ _ => rfl)) (pe_ix ix_tup (pv 1) pe_int (fun _ _ => rfl))) pa_nil)))), ?_⟩
    refine ⟨_, rfl, a, _, _, _, rfl, rfl, ha, at0, _, rfl, b, _, _, _, rfl, rfl, hb, at1, _, _, rfl, rfl, mw sp.1 sq.d,
      _, rfl, b, _, _, _, rfl, rfl, hb, at0, _, rfl, a, _, _, _, rfl, rfl, ha, at1, _, _, rfl, rfl, mw sq.1 sp.d, _, _, rfl, rfl,
      _, rfl, a, _, _, _, rfl, rfl, ha, at1, _, rfl, b, _, _, _, rfl, rfl, hb, at1, _, _, rfl, rfl, mw sp.d sq.d, _, _, rfl, den_dd p q, ?_, ?_, ?_⟩
    · exact Nat.lt_of_lt_of_le (addI (mulI sp.1 sq.d) (mulI sq.1 sp.d)).1 (two_le (show 3000 + 3000 + 1 ≤ 8000 by decide))
    · exact Nat.lt_of_lt_of_le (mulI sp.d sq.d) (two_le (show 3000 + 3000 ≤ 8000 by decide))
    · intro H' r s1 fr
      exact k H' r s1 (by show Fr K H' r (p + q); rw [add_eq]; exact fr)
theorem ok_minus {f : Addr} {fd : FuncData} (F : Fun K "minus" "minus" sMinus f fd) (D : Df P w K mg base CX0 2 "fraction" ["top", "bottom"] (spFraction K)) : FnOk P w K mg base CX0 3 f fd ["one", "other"] (spBin K (fun _ _ => True) fun p q => p - q) := by
  refine F.ok scMinus (fun vs H Q E h => ?_) (fun cdv A outer s H vs Q E hr h => ?_)
  · obtain ⟨u, v, p, q, rfl, _⟩ := h
    rfl
  · obtain ⟨u, v, p, q, rfl, ⟨a, rfl, ha⟩, ⟨b, rfl, hb⟩, sp, sq, _, k⟩ := h
    refine ⟨_, pss_one (ps_ret (pe_callD D hr (by decide) (by rfl) pass0
      (pa_cons (pe_op op_sub (pe_op op_mulW (pe_ix ix_tup (pv 0) pe_int (fun _ _ => rfl)) (pe_ix ix_tup (pv 1) pe_int (fun _ _ => rfl))) (pe_op op_mulW (pe_ix ix_tup (pv 1) pe_int (fun _ _ => rfl)) (pe_ix ix_tup (pv 0) pe_int (fun _ _ => rfl))))
      (pa_cons (pe_op op_mulW (pe_ix ix_tup (pv 0) pe_int (fun _ _ => rfl)) (pe_ix ix_tup (pv 1) pe_int (fun _ _ => rfl))) pa_nil)))), ?_⟩
    refine ⟨_, rfl, a, _, _, _, rfl, rfl, ha, at0, _, rfl, b, _, _, _, rfl, rfl, hb, at1, _, _, rfl, rfl, mw sp.1 sq.d,
      _, rfl, b, _, _, _, rfl, rfl, hb, at0, _, rfl, a, _, _, _, rfl, rfl, ha, at1, _, _, rfl, rfl, mw sq.1 sp.d, _, _, rfl, rfl,
      _, rfl, a, _, _, _, rfl, rfl, ha, at1, _, rfl, b, _, _, _, rfl, rfl, hb, at1, _, _, rfl, rfl, mw sp.d sq.d, _, _, rfl, den_dd p q, ?_, ?_, ?_⟩
    · exact Nat.lt_of_lt_of_le (addI (mulI sp.1 sq.d) (mulI sq.1 sp.d)).2 (two_le (show 3000 + 3000 + 1 ≤ 8000 by decide))
    · exact Nat.lt_of_lt_of_le (mulI sp.d sq.d) (two_le (show 3000 + 3000 ≤ 8000 by decide))
    · intro H' r s1 fr
      exact k H' r s1 (by show Fr K H' r (p - q); rw [sub_eq]; exact fr)
theorem ok_times {f : Addr} {fd : FuncData} (F : Fun K "times" "times" sTimes f fd) (D : Df P w K mg base CX0 2 "fraction" ["top", "bottom"] (spFraction K)) : FnOk P w K mg base CX0 3 f fd ["one", "other"] (spBin K (fun _ _ => True) fun p q => p * q) := by
  refine F.ok scTimes (fun vs H Q E h => ?_) (fun cdv A outer s H vs Q E hr h => ?_)
  · obtain ⟨u, v, p, q, rfl, _⟩ := h
    rfl
  · obtain ⟨u, v, p, q, rfl, ⟨a, rfl, ha⟩, ⟨b, rfl, hb⟩, sp, sq, _, k⟩ := h
    refine ⟨_, pss_one (ps_ret (pe_callD D hr (by decide) (by rfl) pass0
      (pa_cons (pe_op op_mulW (pe_ix ix_tup (pv 0) pe_int (fun _ _ => rfl)) (pe_ix ix_tup (pv 1) pe_int (fun _ _ => rfl)))
      (pa_cons (pe_op op_mulW (pe_ix ix_tup (pv 0) pe_int (fun _ _ => rfl)) (pe_ix ix_tup (pv 1) pe_int (fun _ _ => rfl))) pa_nil)))), ?_⟩
    refine ⟨_, rfl, a, _, _, _, rfl, rfl, ha, at0, _, rfl, b, _, _, _, rfl, rfl, hb, at0, _, _, rfl, rfl, mw sp.1 sq.1,
      _, rfl, a, _, _, _, rfl, rfl, ha, at1, _, rfl, b, _, _, _, rfl, rfl, hb, at1, _, _, rfl, rfl, mw sp.d sq.d, _, _, rfl, den_dd p q, ?_, ?_, ?_⟩
    · exact Nat.lt_of_lt_of_le (mulI sp.1 sq.1) (two_le (show 3000 + 3000 ≤ 8000 by decide))
    · exact Nat.lt_of_lt_of_le (mulI sp.d sq.d) (two_le (show 3000 + 3000 ≤ 8000 by decide))
    · intro H' r s1 fr
      exact k H' r s1 (by show Fr K H' r (p * q); rw [mul_eq]; exact fr)
theorem ok_over {f : Addr} {fd : FuncData} (F : Fun K "over" "over" sOver f fd) (D : Df P w K mg base CX0 2 "fraction" ["top", "bottom"] (spFraction K)) : FnOk P w K mg base CX0 3 f fd ["one", "other"] (spBin K (fun _ q => q ≠ 0) fun p q => p / q) := by
  refine F.ok scOver (fun vs H Q E h => ?_) (fun cdv A outer s H vs Q E hr h => ?_)
  · obtain ⟨u, v, p, q, rfl, _⟩ := h
    rfl
  · obtain ⟨u, v, p, q, rfl, ⟨a, rfl, ha⟩, ⟨b, rfl, hb⟩, sp, sq, h0, k⟩ := h
    have hn : q.num ≠ 0 := fun z => h0 (Rat.num_eq_zero.mp z)
    refine ⟨_, pss_one (ps_ret (pe_callD D hr (by decide) (by rfl) pass0
      (pa_cons (pe_op op_mulW (pe_ix ix_tup (pv 0) pe_int (fun _ _ => rfl)) (pe_ix ix_tup (pv 1) pe_int (fun _ _ => rfl)))
      (pa_cons (pe_op op_mulW (pe_ix ix_tup (pv 0) pe_int (fun _ _ => rfl)) (pe_ix ix_tup (pv 1) pe_int (fun _ _ => rfl))) pa_nil)))), ?_⟩
    refine ⟨_, rfl, a, _, _, _, rfl, rfl, ha, at0, _, rfl, b, _, _, _, rfl, rfl, hb, at1, _, _, rfl, rfl, mw sp.1 sq.d,
      _, rfl, a, _, _, _, rfl, rfl, ha, at1, _, rfl, b, _, _, _, rfl, rfl, hb, at0, _, _, rfl, rfl, mw sp.d sq.1, _, _, rfl, Int.mul_ne_zero (den_ne p) hn, ?_, ?_, ?_⟩
    · exact Nat.lt_of_lt_of_le (mulI sp.1 sq.d) (two_le (show 3000 + 3000 ≤ 8000 by decide))
    · exact Nat.lt_of_lt_of_le (mulI sp.d sq.1) (two_le (show 3000 + 3000 ≤ 8000 by decide))
    · intro H' r s1 fr
      exact k H' r s1 (by show Fr K H' r (p / q); rw [div_eq p q h0]; exact fr)
theorem ok_less {f : Addr} {fd : FuncData} (F : Fun K "less" "less" sLess f fd) : FnOk P w K mg base CX0 1 f fd ["one", "other"] (spLess K) := by
  refine F.ok scLess (fun vs H Q E h => ?_) (fun cdv A outer s H vs Q E hr h => ?_)
  · obtain ⟨u, v, p, q, rfl, _⟩ := h
    rfl
  · obtain ⟨u, v, p, q, rfl, ⟨a, rfl, ha⟩, ⟨b, rfl, hb⟩, sp, sq, k⟩ := h
    refine ⟨_, pss_one (ps_ret (pe_cmpR op_lt (pe_op op_mulW (pe_ix ix_tup (pv 0) pe_int (fun _ _ => rfl)) (pe_ix ix_tup (pv 1) pe_int (fun _ _ => rfl))) (pe_op op_mulW (pe_ix ix_tup (pv 1) pe_int (fun _ _ => rfl)) (pe_ix ix_tup (pv 0) pe_int (fun _ _ => rfl))) (nomark _))), ?_⟩
    refine ⟨_, rfl, a, _, _, _, rfl, rfl, ha, at0, _, rfl, b, _, _, _, rfl, rfl, hb, at1, _, _, rfl, rfl, mw sp.1 sq.d,
      _, rfl, b, _, _, _, rfl, rfl, hb, at0, _, rfl, a, _, _, _, rfl, rfl, ha, at1, _, _, rfl, rfl, mw sq.1 sp.d, _, _, rfl, rfl, ?_⟩
    show Q (.bl (decide (p.num * q.den < q.num * p.den))) H
    rw [show decide (p.num * q.den < q.num * p.den) = decide (p < q) from decide_eq_decide.mpr (lt_eq p q).symm]
    exact k
end
end K1
set_option Elab.async false
set_option linter.all false
set_option maxRecDepth 100000
namespace K1
open PySem L2 Kz Sx
theorem same_upd {H0 H : Hp} {D : Addr} {o : HO} (n : H0 D = none) (e : Same H0 H) : Same H0 (upd H D o) := fun b u z => by rw [upd_ne (ne_of_none z n)]; exact e b u z
/-- all but D is kept, D is a list -/
def KpD (D : Addr) (H H' : Hp) : Prop := (∃ xs, H D = some (.lst xs)) ∧ ∀ b o, b ≠ D → H b = some o → H' b = some o
theorem KpD.sqT {K : PySem.W.Frag} {H H' : Hp} {D a : Addr} {xs : List V} (e : KpD D H H') (h : SqT K H a xs) : SqT K H' a xs := by
  obtain ⟨⟨ys, hD⟩, k⟩ := e
  have ne : ∀ {o}, H a = some o → (∀ zs, o ≠ .lst zs) → a ≠ D := fun {o} h1 h2 z => by
    subst z
    rw [h1] at hD
    exact h2 _ (Option.some.inj hD)
  rcases h with (h | ⟨o, h⟩) | h
  · exact .inl (.inl (k _ _ (ne h fun zs z => nomatch z) h))
  · exact .inl (.inr ⟨o, k _ _ (ne h fun zs z => nomatch z) h⟩)
  · exact .inr h
theorem KpD.fr {K : PySem.W.Frag} {H H' : Hp} {D : Addr} {v : V} {q : Rat} (e : KpD D H H') (h : Fr K H v q) : Fr K H' v q := let ⟨a, h1, h2⟩ := h; ⟨a, h1, e.sqT h2⟩
theorem KpD.frS {K : PySem.W.Frag} {H H' : Hp} {D : Addr} {vs : List V} {k : Nat} {f : Nat → Rat} (e : KpD D H H') (h : FrS K H vs k f) : FrS K H' vs k f := ⟨h.1, fun j v hj => e.fr (h.2 j v hj)⟩
/-- a comprehension without a test: item i bears R i -/
theorem lcR {J : It} {n : Nat} {G : Hp → Prop} {Y : Nat → Hp → V → Hp → Prop} (w : Walk J n G Y) {g : TG} {te : TE} {vs : List Nat} {σ : St} {H1 : Hp} {D : Addr} {Qd : Hp → Prop} (R : Nat → V → Hp → Prop)
    (hR : ∀ i y H H', KpD D H H' → R i y H → R i y H') (nD : H1 D = none) (hn : n ≤ 1000) (hG : ∀ H, Same H1 H → G H)
    (hs : ∀ i x H H' (Q : VK), i < n → Same H1 H → (∃ xs, H D = some (.lst xs)) → Y i H x H' → (∀ y H4, Same H H4 → R i y H4 → Q y H4) → g x (wipe σ vs) H' fun σ2 H2 => wipe σ2 vs = wipe σ vs ∧ te σ2 H2 Q)
    (hd : ∀ H acc, Same H1 H → H D = some (.lst acc) → acc.length = n → (∀ j y, acc[j]? = some y → R j y H) → Qd H) :
    ∃ W : Nat → Nat → Hp → Prop, (∃ m, W 0 m (upd H1 D (.lst []))) ∧ ∀ i m H, W i m H →
      (J.stop i H ∧ Qd H) ∨ (J.go i H ∧ ∃ Nx : Hp → Prop, (∀ H', Nx H' → ∃ m', m' < m ∧ W (i + 1) m' H') ∧ ∀ x H', J.yld i H x H' → g x (wipe σ vs) H' fun σ2 H2 => wipe σ2 vs = wipe σ vs ∧ tYes σ2 H2 fun b H3 =>
        if b = true then te σ2 H3 fun y H4 => ∃ acc, H4 D = some (.lst acc) ∧ acc.length < sizeLine ∧ Nx (upd H4 D (.lst (acc ++ [y]))) else Nx H3) := by
  refine lc_it w (tt := tYes) (fun i H => Same H1 H ∧ ∃ acc, H D = some (.lst acc) ∧ acc.length = i ∧ ∀ j y, acc[j]? = some y → R j y H) ⟨same_upd nD (Same.refl _), [], upd_same, rfl, fun j y z => by simp at z⟩ (fun i H _ q => hG H q.1) ?_ ?_
  · rintro i x H H' hi ⟨s1, acc, hD, hl, hr⟩ hy
    refine hs i x H H' _ hi s1 ⟨acc, hD⟩ hy fun y H4 s4 r4 => ?_
    have hD4 := s4 _ _ hD
    refine ⟨acc, hD4, small1000 (by omega), same_upd nD (s1.trans s4), _, upd_same, by rw [List.length_append, hl]; rfl, fun j u e => ?_⟩
    have kp : KpD D H4 (upd H4 D (.lst (acc ++ [y]))) := ⟨⟨_, hD4⟩, fun b o ne e => by rw [upd_ne ne]; exact e⟩
    have kp0 : KpD D H H4 := ⟨⟨_, hD⟩, fun b o _ e => s4 b o e⟩
    by_cases hj : j < acc.length
    · rw [List.getElem?_append_left hj] at e
      exact hR _ _ _ _ kp (hR _ _ _ _ kp0 (hr j u e))
    · rw [List.getElem?_append_right (by omega)] at e
      have z : j - acc.length = 0 := by
        by_cases z : j - acc.length = 0
        · exact z
        · rw [List.getElem?_eq_none (by simp; omega)] at e
          cases e
      rw [z] at e
      have ey : y = u := by simpa using e
      subst ey
      have ej : j = i := by omega
      subst ej
      exact hR _ _ _ _ kp r4
  · rintro H ⟨s1, acc, hD, hl, hr⟩
    exact hd H acc s1 hD hl hr
/-- .. of fractions -/
theorem lcF {K : PySem.W.Frag} {J : It} {n : Nat} {G : Hp → Prop} {Y : Nat → Hp → V → Hp → Prop} (w : Walk J n G Y) {g : TG} {te : TE} {vs : List Nat} {σ : St} {H1 : Hp} {D : Addr} {Qd : Hp → Prop} (f : Nat → Rat)
    (nD : H1 D = none) (hn : n ≤ 1000) (hG : ∀ H, Same H1 H → G H)
    (hs : ∀ i x H H' (Q : VK), i < n → Same H1 H → Y i H x H' → (∀ y H4, Same H H4 → Fr K H4 y (f i) → Q y H4) → g x (wipe σ vs) H' fun σ2 H2 => wipe σ2 vs = wipe σ vs ∧ te σ2 H2 Q)
    (hd : ∀ H acc, Same H1 H → H D = some (.lst acc) → FrS K H acc n f → Qd H) :
    ∃ W : Nat → Nat → Hp → Prop, (∃ m, W 0 m (upd H1 D (.lst []))) ∧ ∀ i m H, W i m H →
      (J.stop i H ∧ Qd H) ∨ (J.go i H ∧ ∃ Nx : Hp → Prop, (∀ H', Nx H' → ∃ m', m' < m ∧ W (i + 1) m' H') ∧ ∀ x H', J.yld i H x H' → g x (wipe σ vs) H' fun σ2 H2 => wipe σ2 vs = wipe σ vs ∧ tYes σ2 H2 fun b H3 =>
        if b = true then te σ2 H3 fun y H4 => ∃ acc, H4 D = some (.lst acc) ∧ acc.length < sizeLine ∧ Nx (upd H4 D (.lst (acc ++ [y]))) else Nx H3) :=
  lcR w (fun i y H => Fr K H y (f i)) (fun i y H H' kp r => kp.fr r) nD hn hG (fun i x H H' Q hi s1 _ hy k => hs i x H H' Q hi s1 hy k) fun H acc s1 hD hl hr => hd H acc s1 hD ⟨hl, hr⟩
/-! ### total, scalar -/
theorem sm_Sm {s : Nat} {f : Nat → Rat} : ∀ {k : Nat}, (∀ j, j < k → Sm s (f j)) → Sm (1 + k * (s + 1)) (sm k f)
  | 0, _ => by
    show Sm (1 + 0 * (s + 1)) 0
    rw [Nat.zero_mul]
    exact ⟨by decide, by decide⟩
  | k + 1, h => by
    have h1 := sm_Sm (k := k) fun j hj => h j (by omega)
    have h2 := h1.add (h k (by omega))
    refine h2.mono ?_
    rw [Nat.succ_mul]
    omega
theorem psum {k s i : Nat} (hk : k ≤ 5) (hs : s ≤ 500) (hi : i ≤ k) : 1 + i * (s + 1) ≤ 3000 := by
  have : i * (s + 1) ≤ 5 * 501 := Nat.mul_le_mul (by omega) (by omega)
  omega
def spTotal (K : PySem.W.Frag) : Sp := fun vs H Q _ => ∃ v k f, vs = [v] ∧ FrA false K H v k f ∧ k ≤ 5 ∧ (∀ j, j < k → Sm 500 (f j)) ∧ ∀ H' r, Same H H' → Fr K H' r (sm k f) → Q r H'
/-- scalar(one, other): tuples, lists -/
def spScalar (K : PySem.W.Frag) : Sp := fun vs H Q _ => ∃ u v k f g b c, vs = [u, v] ∧ FrA b K H u k f ∧ FrA c K H v k g ∧ k ≤ 5 ∧ (∀ j, j < k → Sm 100 (f j)) ∧ (∀ j, j < k → Sm 400 (g j)) ∧ ∀ H' r, Same H H' → Fr K H' r (sm k fun j => f j * g j) → Q r H'
section
variable {P : Program} {w : World} {K : PySem.W.Frag} {mg : Str → Option Value} {base : Heap}
theorem scTotal : FnScope ["some", "found", "one"] ["some"] (defScope sTotal) := ⟨rfl, rfl, rfl, by decide +kernel, rfl, by decide +kernel, by decide +kernel⟩
theorem ok_total {f : Addr} {fd : FuncData} (F : Fun K "total" "total" sTotal f fd) (D : Df P w K mg base CX0 3 "plus" ["one", "other"] (spBin K (fun _ _ => True) fun p q => p + q)) {z : Addr} (mz : mg "ZERO" = some (.ref z)) (fz : ∀ H, Fr K H (.ref z) 0) :
    FnOk P w K mg base CX0 4 f fd ["some"] (spTotal K) := by
  refine F.ok scTotal (fun vs H Q E h => ?_) (fun cdv A outer s H vs Q E hr h => ?_)
  · obtain ⟨v, k, f, rfl, _⟩ := h
    rfl
  · obtain ⟨v, n, f, rfl, ⟨a, vs, rfl, hS, hF⟩, hk, hs, k⟩ := h
    refine ⟨_, pss_cons (ps_set (i := 1) scTotal.nd rfl (.inl rfl) (pe_glob (v := V.ref z) (by rfl) mz rfl))
      (pss_cons (ps_for PassesOwn.never rfl (pi_list (pv 0)) (pg_name (i := 2) scTotal.nd rfl (.inl rfl))
        (pss_one (ps_set (i := 1) scTotal.nd rfl (.inl rfl) (pe_callD D hr (by decide) (by rfl) pass0 (pa_cons (pv 1) (pa_cons (pv 2) pa_nil))))))
      (pss_one (ps_ret (pv 1)))), ?_⟩
    refine ⟨_, rfl, a, rfl, ⟨_, hS⟩, for_it (walk_list (K := K) (a := a) (xs := vs)) (fun i σ H1 => Same H H1 ∧ ∃ r o, σ = [some (.ref a), some r, o] ∧ Fr K H1 r (sm i f)) ⟨Same.refl _, _, _, rfl, fz H⟩ (fun i σ H1 _ q => q.1.seq hS) ?_ ?_⟩
    · rintro i x σ H1 H2 hi ⟨s1, r, o, rfl, hr1⟩ ⟨rfl, hx⟩
      have hf := hF.2 i x hx
      have hin : i < n := by rw [← hF.1]; exact hi
      refine ⟨_, rfl, _, rfl, r, x, _, _, rfl, hr1, hf.same s1, (sm_Sm fun j hj => hs j (by omega)).mono (psum hk (Nat.le_refl _) (by omega)), (hs i hin).mono (by decide), True.intro, fun H' r' s2 hr2 => ?_⟩
      exact ⟨s1.trans s2, r', _, rfl, hr2⟩
    · rintro σ H1 ⟨s1, r, o, rfl, hr1⟩
      refine ⟨_, rfl, ?_⟩
      rw [hF.1] at hr1
      exact k H1 r s1 hr1
theorem scScalar : FnScope ["one", "other", "mine", "its"] ["one", "other"] (defScope sScalar) := ⟨rfl, rfl, rfl, by decide +kernel, rfl, by decide +kernel, by decide +kernel⟩
theorem ok_scalar {f : Addr} {fd : FuncData} (F : Fun K "scalar" "scalar" sScalar f fd) (D : Df P w K mg base CX0 3 "times" ["one", "other"] (spBin K (fun _ _ => True) fun p q => p * q)) (DT : Df P w K mg base CX0 4 "total" ["some"] (spTotal K)) (zZ : mg "zip" = none) :
    FnOk P w K mg base CX0 5 f fd ["one", "other"] (spScalar K) := by
  refine F.ok scScalar (fun vs H Q E h => ?_) (fun cdv A outer s H vs Q E hr h => ?_)
  · obtain ⟨u, v, k, f, g, b, c, rfl, _⟩ := h
    rfl
  · obtain ⟨u, v, n, f, g, b, c, rfl, ⟨a1, us, rfl, hS1, hF1⟩, ⟨a2, ws, rfl, hS2, hF2⟩, hk, hs1, hs2, k⟩ := h
    refine ⟨_, pss_one (ps_ret (pe_callD DT hr (by decide) (by rfl) pass0 (pa_cons
      (pe_lc (own := [("mine", 2), ("its", 3)]) (g := gTup K 2 (gCons (gName 2) (gCons (gName 3) gNil))) (tt := tYes) rfl scScalar.nd (pi_zipM (by rfl) zZ (pa_cons (pv 0) (pa_cons (pv 1) pa_nil)))
        (blkOk_by (N := ["one", "other", "mine", "its"]) (sc := defScope sScalar) (by decide +kernel))
        (fun _ _ _ _ _ => pg_tup rfl (pgs_cons (pg_name (i := 2) scScalar.nd rfl (.inl rfl)) (pgs_cons (pg_name (i := 3) scScalar.nd rfl (.inl rfl)) pgs_nil)))
        (fun _ _ _ _ _ => pts_nil) (fun _ _ _ _ _ => pe_callD D hr (by decide) (by rfl) pass0 (pa_cons (pv 2) (pa_cons (pv 3) pa_nil)))) pa_nil))), ?_⟩
    refine ⟨_, rfl, _, rfl, b, c, a1, a2, us, ws, rfl, hS1, hS2, fun D hD => lcF (K := K) (walkM hF1.1 hF2.1) (fun j => f j * g j) hD (by omega) (fun H1 s1 => ⟨Same.sq s1 hS1, Same.sq s1 hS2⟩) ?_ ?_⟩
    · rintro i x H1 H2 Q' hi s1 ⟨T, y1, y2, rfl, nT, rfl, e1, e2⟩ kk
      have sT := Same.upd (o := .tup [y1, y2]) nT
      refine ⟨T, _, rfl, SqT.of upd_same, rfl, _, _, rfl, _, _, rfl, rfl, rfl, ?_⟩
      refine ⟨_, rfl, _, rfl, _, _, _, _, rfl, ((hF1.2 i _ e1).same s1).same sT, ((hF2.2 i _ e2).same s1).same sT, (hs1 i hi).mono (by decide), (hs2 i hi).mono (by decide), True.intro, fun H3 r s3 fr => kk _ _ (sT.trans s3) fr⟩
    · rintro H1 acc s1 hD1 hf
      exact ⟨_, n, _, rfl, ⟨D, acc, rfl, SqL.of hD1, hf⟩, hk, fun j hj => ((hs1 j hj).mul (hs2 j hj)), fun H' r s2 fr => k _ _ (s1.trans s2) fr⟩
end
end K1
set_option Elab.async false
set_option linter.all false
set_option maxRecDepth 100000
namespace K1
open PySem L2 Kz Sx
/-- o.f as a target among several -/
def gAttr (K : PySem.W.Frag) (to : TE) (f : Str) : TG := fun v σ H Q => to σ H fun x H1 => ∃ a C dx fs, x = .ref a ∧ H1 a = some (.ins C dx fs) ∧ Cls K C ∧ NoAttr K C f ∧ fs.length < 1000 ∧ Q σ (upd H1 a (.ins C dx (putF f v fs)))
theorem pg_attr {X : Cx} {o : Expr} {f : Str} {to : TE} {pos : Pos} (ho : PE X o to) : PG X (.Attribute o f pos) (gAttr X.K to f) := by
  refine ⟨fun pins s σ H v u Q I r h => ?_⟩
  rw [assign_Attribute]
  refine wpAny_bind (wpAny_holding (thn (ho.run pins s σ H _ I h) fun ov s1 ⟨x, H1, I1, r1, a, C, dx, fs, ex, ea, c, n, l, q⟩ => ?_))
  subst ex
  obtain rfl : ov = Value.ref a := r1
  refine wpAny_bind (wpAny_standAt (wpAny_bind (wpAny_holding (setattr_ok I1 ea c n l r fun s3 I3 => ?_))))
  exact wpAny_release ⟨σ, _, I3, q⟩
/-- a list of fractions in the heap -/
def FrL (K : PySem.W.Frag) (H : Hp) (a : Addr) (k : Nat) (f : Nat → Rat) : Prop := ∃ ws, H a = some (.lst ws) ∧ FrS K H ws k f
section
variable {K : PySem.W.Frag} {H H' : Hp} {a : Addr} {k : Nat} {f g : Nat → Rat}
theorem FrL.same (e : Same H H') (h : FrL K H a k f) : FrL K H' a k f := let ⟨ws, h1, h2⟩ := h; ⟨ws, e _ _ h1, h2.same e⟩
theorem FrL.ext (h : FrL K H a k f) (e : ∀ j, j < k → f j = g j) : FrL K H a k g := let ⟨ws, h1, h2⟩ := h; ⟨ws, h1, h2.ext e⟩
theorem FrL.toA (h : FrL K H a k f) : FrA false K H (.ref a) k f := let ⟨ws, h1, h2⟩ := h; ⟨a, ws, rfl, SqL.of h1, h2⟩
theorem KpD.frL {D : Addr} (e : KpD D H H') (ne : a ≠ D) (h : FrL K H a k f) : FrL K H' a k f := let ⟨ws, h1, h2⟩ := h; ⟨ws, e.2 _ _ ne h1, e.frS h2⟩
end
/-! ### methods by their names -/
structure Dm (P : Program) (w : World) (K : PySem.W.Frag) (mg : Str → Option Value) (base : Heap) (C : Addr) (k : Nat) (m : Str) (ps : List Str) (sp : Sp) : Prop where
  ex : ∃ (f : Addr) (fd : FuncData), FnOk P w K mg base CX0 k f fd ps sp ∧ Meth K C m f ∧ Binds K fd ps []
end K1
set_option Elab.async false
set_option linter.all false
set_option maxRecDepth 100000
namespace K1
open PySem L2 Kz Sx
abbrev sTInit : Stmt := inClass (top 15) 0
abbrev sLeft : Stmt := inClass (top 15) 1
abbrev sImprove : Stmt := inClass (top 15) 2
abbrev sTurn : Stmt := inClass (top 15) 3
abbrev sSettle : Stmt := inClass (top 15) 4
abbrev sAmounts : Stmt := inClass (top 15) 5
abbrev sFactors : Stmt := inClass (top 15) 6
theorem pe_methD {X : Cx} {pl : Sem Bool} {C : Addr} {k j : Nat} {m : Str} {ps : List Str} {sp : Sp} {o e : Expr} {es : List Expr} {ta : TE} {t : TA} {apos pos : Pos} (D : Dm X.prog X.w X.K X.mg X.base C k m ps sp) (c : Cls X.K C) (hr : Room j X.A) (hk : k ≤ j) (he : PE X o ta) (ha : PA X (e :: es) t)
    (hst : starEach (e :: es) X.env = (false, eval e X.env) :: starEach es X.env := by rfl) (hpl : (backTo pos (starEach es X.env)).any (·.1) = false := by rfl)
    (ht : eval (.Call (.Attribute o m apos) (e :: es) [] pos) X.env = (do
      let ov ← eval o X.env
      standAt apos.atName
      let (f, first) ← holding [ov] (getMethod ov m pl)
      callWith pos f first (backTo pos (starEach (e :: es) X.env)) (backToKw pos (keywordEach [] X.env))) := by rfl) : PE X (.Call (.Attribute o m apos) (e :: es) [] pos) (tMeth C m sp [] E0 ta t) := by
  obtain ⟨f, fd, F, hm, hb⟩ := D.ex
  exact pe_meth he c hm F (hr.mono hk) hb .nil pass0 ha hst hpl ht
theorem pe_methD0 {X : Cx} {pl : Sem Bool} {C : Addr} {k j : Nat} {m : Str} {ps : List Str} {sp : Sp} {o : Expr} {ta : TE} {apos pos : Pos} (D : Dm X.prog X.w X.K X.mg X.base C k m ps sp) (c : Cls X.K C) (hr : Room j X.A) (hk : k ≤ j) (he : PE X o ta)
    (ht : eval (.Call (.Attribute o m apos) [] [] pos) X.env = (do
      let ov ← eval o X.env
      standAt apos.atName
      let (f, first) ← holding [ov] (getMethod ov m pl)
      callWith pos f first (backTo pos (starEach [] X.env)) (backToKw pos (keywordEach [] X.env))) := by rfl) : PE X (.Call (.Attribute o m apos) [] [] pos) (tMeth C m sp [] E0 ta tNil) := by
  obtain ⟨f, fd, F, hm, hb⟩ := D.ex
  exact pe_meth0 he c hm F (hr.mono hk) hb .nil pass0 ht
/-- o.f, with K told (for use in a block) -/
theorem pe_fldK {X : Cx} {K : PySem.W.Frag} {e : Expr} {f : Str} {ta : TE} {pos : Pos} (he : PE X e ta) (hK : X.K = K := by rfl) (hb : attributeBase e f X.env (eval e X.env) = eval e X.env := by rfl) : PE X (.Attribute e f pos) (tFld K ta f) := by
  subst hK
  exact pe_fld he hb
/-! ### an object of the class -/
structure Tx (K : PySem.W.Frag) (C : Addr) : Prop where
  cl : Cls K C
  nH : NoAttr K C "high"
  nM : NoAttr K C "many"
  nR : NoAttr K C "rows"
  nB : NoAttr K C "base"
def tf (m n : Nat) (ra ba : Addr) : List (Str × V) := [("high", .int (m : Int)), ("many", .int (n : Int)), ("rows", .ref ra), ("base", .ref ba)]
theorem dHM : (("many" : Str) == "high") = false := by decide +kernel
theorem dRH : (("rows" : Str) == "high") = false := by decide +kernel
theorem dRM : (("rows" : Str) == "many") = false := by decide +kernel
theorem dBH : (("base" : Str) == "high") = false := by decide +kernel
theorem dBM : (("base" : Str) == "many") = false := by decide +kernel
theorem dBR : (("base" : Str) == "rows") = false := by decide +kernel
section
variable {m n : Nat} {ra ba : Addr}
theorem tf_high : (tf m n ra ba).lookup ("high" : Str) = some (.int (m : Int)) := by simp [tf, List.lookup]
theorem tf_many : (tf m n ra ba).lookup ("many" : Str) = some (.int (n : Int)) := by simp [tf, List.lookup, dHM]
theorem tf_rows : (tf m n ra ba).lookup ("rows" : Str) = some (.ref ra) := by simp [tf, List.lookup, dRH, dRM]
theorem tf_base : (tf m n ra ba).lookup ("base" : Str) = some (.ref ba) := by simp [tf, List.lookup, dBH, dBM, dBR]
theorem tf_no {x : Str} (h1 : (x == ("high" : Str)) = false) (h2 : (x == ("many" : Str)) = false) (h3 : (x == ("rows" : Str)) = false) (h4 : (x == ("base" : Str)) = false) : (tf m n ra ba).lookup x = none := by simp [tf, List.lookup, h1, h2, h3, h4]
end
def baseL (m : Nat) (T : Tb) : List V := (List.range m).map fun i => V.int (T.b i : Int)
theorem baseL_at {m i : Nat} {T : Tb} (h : i < m) : (baseL m T)[i]? = some (.int (T.b i : Int)) := by simp [baseL, h]
theorem baseL_len {m : Nat} {T : Tb} : (baseL m T).length = m := by simp [baseL]
/-- a Turns at p with m rows, n columns, rows at ra, base at ba -/
structure TAt (K : PySem.W.Frag) (C : Addr) (H : Hp) (p ba : Addr) (m n : Nat) (T : Tb) : Prop where
  ex : ∃ dx ra rs, H p = some (.ins C dx (tf m n ra ba)) ∧ H ra = some (.lst rs) ∧ rs.length = m ∧ ∀ i v, rs[i]? = some v → ∃ ad, v = .ref ad ∧ FrL K H ad (n + m + 1) (T.r i)
  bs : H ba = some (.lst (baseL m T))
theorem TAt.same {K : PySem.W.Frag} {C : Addr} {H H' : Hp} {p ba : Addr} {m n : Nat} {T : Tb} (e : Same H H') (h : TAt K C H p ba m n T) : TAt K C H' p ba m n T := by
  obtain ⟨⟨dx, ra, rs, h1, h2, h3, h4⟩, h5⟩ := h
  exact ⟨⟨dx, ra, rs, e _ _ h1, e _ _ h2, h3, fun i v hv => let ⟨ad, e1, e2⟩ := h4 i v hv; ⟨ad, e1, e2.same e⟩⟩, e _ _ h5⟩
/-- sizes of a table -/
structure TSz (m n : Nat) (T : Tb) : Prop where
  hm : m ≤ 3
  hn : n ≤ 4
  bl : ∀ i, i < m → T.b i < n + m
  sz : ∀ i, i < m → ∀ j, j ≤ n + m → Sm 100 (T.r i j)
/-- costs as they are handed in -/
structure CSz (N : Nat) (c : Nat → Rat) : Prop where
  sz : ∀ j, j < N → Sm 100 (c j)
  zr : c N = 0
def spLeft (K : PySem.W.Frag) (C : Addr) : Sp := fun vs H Q _ => ∃ p ba m n T cv c, vs = [.ref p, cv] ∧ TAt K C H p ba m n T ∧ TSz m n T ∧ FrA false K H cv (n + m) c ∧ CSz (n + m) c ∧
  ∀ H' r, Same H H' → FrL K H' r (n + m + 1) (line m c T) → Q (.ref r) H'
/-- the line behind i rows -/
def lineTo (i : Nat) (c : Nat → Rat) (T : Tb) (j : Nat) : Rat := c j - sm i fun k => c (T.b k) * T.r k j
theorem lineTo_zero (c : Nat → Rat) (T : Tb) (j : Nat) : lineTo 0 c T j = c j := by show c j - 0 = c j; grind
theorem lineTo_succ (i : Nat) (c : Nat → Rat) (T : Tb) (j : Nat) : lineTo (i + 1) c T j = lineTo i c T j - c (T.b i) * T.r i j := by
  show c j - (sm i (fun k => c (T.b k) * T.r k j) + c (T.b i) * T.r i j) = c j - sm i (fun k => c (T.b k) * T.r k j) - c (T.b i) * T.r i j
  grind
theorem CSz.le {N j : Nat} {c : Nat → Rat} (h : CSz N c) (hj : j ≤ N) : Sm 100 (c j) := by
  by_cases e : j = N
  · subst e; rw [h.zr]; exact ⟨by decide, by decide⟩
  · exact h.sz j (by omega)
theorem lineTo_sz {m n : Nat} {c : Nat → Rat} {T : Tb} (S : TSz m n T) (Z : CSz (n + m) c) {j : Nat} (hj : j ≤ n + m) : ∀ i, i ≤ m → Sm (100 + i * 201) (lineTo i c T j)
  | 0, _ => by rw [lineTo_zero]; exact Z.le hj
  | i + 1, h => by
    rw [lineTo_succ]
    refine ((lineTo_sz S Z hj i (by omega)).sub ((Z.sz _ (S.bl i (by omega))).mul (S.sz i (by omega) j hj))).mono ?_
    omega
theorem lineTo_sz' {m n : Nat} {c : Nat → Rat} {T : Tb} (S : TSz m n T) (Z : CSz (n + m) c) {i j : Nat} (hi : i ≤ m) (hj : j ≤ n + m) : Sm 800 (lineTo i c T j) :=
  (lineTo_sz S Z hj i hi).mono (by have := S.hm; omega)
theorem line_sz {m n : Nat} {c : Nat → Rat} {T : Tb} (S : TSz m n T) (Z : CSz (n + m) c) {j : Nat} (hj : j ≤ n + m) : Sm 800 (line m c T j) := lineTo_sz' S Z (Nat.le_refl _) hj
section
variable {P : Program} {w : World} {K : PySem.W.Frag} {mg : Str → Option Value} {base : Heap}
theorem scLeft : FnScope ["self", "costs", "line", "at", "column", "one", "other"] ["self", "costs"] (defScope sLeft) := ⟨rfl, rfl, rfl, by decide +kernel, rfl, by decide +kernel, by decide +kernel⟩
theorem ok_left {f C : Addr} {fd : FuncData} (F : Fun K "left" "Turns.left" sLeft f fd) (T : Tx K C) (DM : Df P w K mg base CX0 3 "minus" ["one", "other"] (spBin K (fun _ _ => True) fun p q => p - q)) (DT : Df P w K mg base CX0 3 "times" ["one", "other"] (spBin K (fun _ _ => True) fun p q => p * q))
    {z : Addr} (mz : mg "ZERO" = some (.ref z)) (fz : ∀ H, Fr K H (.ref z) 0) (zL : mg "list" = none) (zE : mg "enumerate" = none) (zZ : mg "zip" = none) :
    FnOk P w K mg base CX0 4 f fd ["self", "costs"] (spLeft K C) := by
  refine F.ok scLeft (fun vs H Q E h => ?_) (fun cdv A outer s H vs Q E hr h => ?_)
  · obtain ⟨p, ba, m, n, T, cv, c, rfl, _⟩ := h
    rfl
  · obtain ⟨p, ba, m, n, B, cv, c, rfl, hT, S, ⟨ca, cs, rfl, hcS, hcF⟩, Z, k⟩ := h
    refine ⟨_, pss_cons (ps_set (i := 2) scLeft.nd rfl (.inl rfl) (pe_op op_cat (pe_callTy call_list_of (by rfl) zL PyProof.Rows.boot_list (pa_cons (pv 1) pa_nil)) (pe_lst (pa_cons (pe_glob (v := V.ref z) (by rfl) mz rfl) pa_nil))))
      (pss_cons (ps_for PassesOwn.never rfl (pi_enum (by rfl) zE (pa_cons (pe_fld (pv 0) rfl) pa_nil)) (pg_tup rfl (pgs_cons (pg_name (i := 3) scLeft.nd rfl (.inl rfl)) (pgs_cons (pg_name (i := 4) scLeft.nd rfl (.inr rfl)) pgs_nil)))
        (pss_one (ps_if (pt_cmpR op_ne (pe_ix (r := rIxT K) ix_tup (pe_ix (r := rIxL K) ix_list (pv 1) (pv 4) (fun _ _ => rfl)) pe_int (fun _ _ => rfl)) pe_int (nomark _))
          (pss_one (ps_setLc (own := [("one", 5), ("other", 6)]) (i := 2) (g := gTup K 2 (gCons (gName 5) (gCons (gName 6) gNil))) (tt := tYes) rfl scLeft.nd rfl rfl (sw_true rfl rfl rfl (by decide +kernel))
            (pi_zipM (by rfl) zZ (pa_cons (pv 2) (pa_cons (pe_ix (r := rIxL K) ix_list (pe_fld (pv 0) rfl) (pv 3) (fun _ _ => rfl)) pa_nil)))
            (blkOk_by (N := ["self", "costs", "line", "at", "column", "one", "other"]) (sc := defScope sLeft) (by decide +kernel))
            (fun _ _ _ _ _ => pg_tup rfl (pgs_cons (pg_name (i := 5) scLeft.nd rfl (.inl rfl)) (pgs_cons (pg_name (i := 6) scLeft.nd rfl (.inl rfl)) pgs_nil)))
            (fun _ _ _ _ _ => pts_nil)
            (fun _ _ _ _ _ => pe_callD DM hr (by decide) (by rfl) pass0 (pa_cons (pv 5) (pa_cons (pe_callD DT hr (by decide) (by rfl) pass0 (pa_cons (pe_ix (r := rIxL K) ix_list (pv 1) (pv 4) (fun _ _ => rfl)) (pa_cons (pv 6) pa_nil))) pa_nil)))))
          pss_nil)))
      (pss_one (ps_ret (pv 2)))), ?_⟩
    obtain ⟨⟨dx, ra, rs, hp, hra, hrl, hrs⟩, hba⟩ := id hT
    refine ⟨_, rfl, ca, cs, rfl, .inl hcS, fun l nl => ?_⟩
    refine ⟨(by decide : (1 : Nat) ≤ sizeLine), fun l2 nl2 => ?_⟩
    have hl12 : l ≠ l2 := ne_of_none upd_same nl2
    refine ⟨l, l2, cs, [.ref z], rfl, rfl, (by rw [upd_ne hl12]; exact upd_same), upd_same, Nat.le_of_lt (small1000 (by rw [hcF.1]; have := S.hm; have := S.hn; show n + m + 1 ≤ 1000; omega)), fun q nq => ?_⟩
    have s0 : Same H (upd (upd (upd H l (.lst cs)) l2 (.lst [.ref z])) q (.lst (cs ++ [.ref z]))) := ((Same.upd nl).trans (Same.upd nl2)).trans (Same.upd nq)
    have f0 : FrL K (upd (upd (upd H l (.lst cs)) l2 (.lst [.ref z])) q (.lst (cs ++ [.ref z]))) q (n + m + 1) c :=
      ⟨_, upd_same, (hcF.same s0).snoc (by rw [Z.zr]; exact fz _)⟩
    refine ⟨_, rfl, p, C, dx, _, _, rfl, s0 _ _ hp, T.cl, T.nB, tf_base, ba, baseL m B, rfl, SqL.of (s0 _ _ hba),
      for_it (walk_enum (K := K) (a := ba) (xs := baseL m B)) (fun i σ H1 => Same H H1 ∧ ∃ la o1 o2, σ = [some (.ref p), some (.ref ca), some (.ref la), o1, o2, none, none] ∧ FrL K H1 la (n + m + 1) (lineTo i c B))
        ⟨s0, q, none, none, rfl, f0.ext fun j _ => (lineTo_zero c B j).symm⟩ (fun i σ H1 _ h => SqL.of (h.1 _ _ hba)) ?_ ?_⟩
    · rintro i x σ H1 H2 hi ⟨s1, la, o1, o2, rfl, hla⟩ ⟨t, x1, x2, rfl, nt, rfl, e1, e2⟩
      rw [baseL_len] at hi
      have e1' : x1 = .int (i : Int) := (Option.some.inj e1).symm
      subst e1'
      have e2' : x2 = .int (B.b i : Int) := by
        have e2 : (baseL m B)[i]? = some x2 := e2
        rw [baseL_at hi] at e2
        exact (Option.some.inj e2).symm
      subst e2'
      have st : Same H1 (upd H1 t (.tup [.int (i : Int), .int (B.b i : Int)])) := Same.upd nt
      generalize hH2 : upd H1 t (.tup [.int (i : Int), .int (B.b i : Int)]) = H2 at st
      have s2 := s1.trans st
      refine ⟨t, _, rfl, SqT.of (by rw [← hH2]; exact upd_same), rfl, _, _, rfl, _, _, rfl, rfl, ?_⟩
      have hb := S.bl i hi
      obtain ⟨cv, ec, ⟨cx, rfl, hcx⟩⟩ := hcF.at hb
      have hcx2 := Same.sqT s2 hcx
      refine ⟨_, rfl, _, rfl, ca, cs, _, _, rfl, rfl, Same.seq s2 hcS, atI_nat ec, cx, _, _, _, rfl, rfl, hcx2, at0, rfl, _, rfl, ite2 (fun hc => ?_) fun hc => ?_⟩
      · obtain ⟨ls, hls', hlf⟩ := hla.same st
        have hls : SqL K H2 la ls := SqL.of hls'
        obtain ⟨rv, er⟩ : ∃ rv, rs[i]? = some rv := ⟨rs[i]'(by omega), List.getElem?_eq_getElem (by omega)⟩
        obtain ⟨r4, rfl, hr4⟩ := hrs i rv er
        obtain ⟨ws, hws', hwf⟩ := hr4.same s2
        have hws : SqL K H2 r4 ws := SqL.of hws'
        refine ⟨_, rfl, _, rfl, p, C, dx, _, _, rfl, s2 _ _ hp, T.cl, T.nR, tf_rows, _, rfl, ra, rs, _, _, rfl, rfl, SqL.of (s2 _ _ hra), atI_nat er, false, false, la, r4, ls, ws, rfl, hls, hws, fun D nD =>
          lcF (K := K) (walkM hlf.1 hwf.1) (lineTo (i + 1) c B) nD (by have := S.hm; have := S.hn; omega) (fun H3 s3 => ⟨Same.sq s3 hls, Same.sq s3 hws⟩) ?_ ?_⟩
        · rintro j x H3 H4 Q' hj s3 ⟨t2, y1, y2, rfl, nt2, rfl, g1, g2⟩ kk
          have st2 := Same.upd (o := .tup [y1, y2]) nt2
          have s4 := s3.trans st2
          refine ⟨t2, _, rfl, SqT.of upd_same, rfl, _, _, rfl, _, _, rfl, rfl, rfl, ?_⟩
          refine ⟨_, rfl, _, rfl, _, rfl, ca, cs, _, _, rfl, rfl, Same.seq (s2.trans s4) hcS, atI_nat ec, _, rfl, _, _, _, _, rfl, ⟨cx, rfl, Same.sqT s4 hcx2⟩, (hwf.2 j _ g2).same s4, (Z.sz _ hb).mono (by decide), (S.sz i hi j (by omega)).mono (by decide), True.intro, fun H5 r s5 fr => ?_⟩
          refine ⟨_, _, _, _, rfl, ((hlf.2 j _ g1).same s4).same s5, fr, (lineTo_sz' S Z (by omega) (by omega)).mono (by decide), (((Z.sz _ hb).mul (S.sz i hi j (by omega)))).mono (by decide), True.intro, fun H6 r2 s6 fr2 => kk _ _ (st2.trans (s5.trans s6)) ?_⟩
          rw [lineTo_succ]
          exact fr2
        · rintro H3 acc s3 hD hf
          exact ⟨s2.trans s3, D, _, _, rfl, ⟨acc, hD, hf⟩⟩
      · refine ⟨s2, la, _, _, rfl, (hla.same st).ext fun j _ => ?_⟩
        have h0 : (c (B.b i)).num = 0 := by
          have hc : ¬ ((!decide (V.int (c (B.b i)).num = V.int 0)) = true) := hc
          by_cases z0 : V.int (c (B.b i)).num = V.int 0
          · exact V.int.inj z0
          · rw [decide_eq_false z0] at hc
            exact absurd rfl hc
        rw [lineTo_succ, Rat.num_eq_zero.mp h0]
        grind
    · rintro σ H1 ⟨s1, la, o1, o2, rfl, hla⟩
      rw [baseL_len] at hla
      exact ⟨_, rfl, k _ _ s1 hla⟩
end
end K1
set_option Elab.async false
set_option linter.all false
set_option maxRecDepth 100000
namespace K1
open PySem L2 Kz Sx
theorem putF_rows {m n : Nat} {ra rb ba : Addr} : putF "rows" (.ref rb) (tf m n ra ba) = tf m n rb ba := by
  have h1 : ¬ (("high" : Str) = "rows") := by decide +kernel
  have h2 : ¬ (("many" : Str) = "rows") := by decide +kernel
  simp only [tf, putF, if_neg h1, if_neg h2, if_true]
/-- all but the object and its base is kept -/
def KpT (p ba : Addr) (H H' : Hp) : Prop := ∀ b o, H b = some o → b ≠ p → b ≠ ba → H' b = some o
theorem KpT.trans {p ba : Addr} {H H1 H2 : Hp} (a : KpT p ba H H1) (b : KpT p ba H1 H2) : KpT p ba H H2 := fun c o h h1 h2 => b c o (a c o h h1 h2) h1 h2
theorem KpT.of {p ba : Addr} {H H' : Hp} (h : Same H H') : KpT p ba H H' := fun b o e _ _ => h b o e
section
variable {K : PySem.W.Frag} {H H' : Hp} {p ba a : Addr} {C dx : Addr} {fs : List (Str × V)} {bs : List V}
/-- tuples stay -/
theorem KpT.sqT {xs : List V} (e : KpT p ba H H') (hp : H p = some (.ins C dx fs)) (hb : H ba = some (.lst bs)) (h : SqT K H a xs) : SqT K H' a xs := by
  have ne : ∀ {o}, H a = some o → (∀ zs, o ≠ .lst zs) → (∀ z, o ≠ .ins C dx z) → a ≠ p ∧ a ≠ ba := fun {o} h1 h2 h3 =>
    ⟨fun z => by subst z; rw [h1] at hp; exact h3 _ (Option.some.inj hp), fun z => by subst z; rw [h1] at hb; exact h2 _ (Option.some.inj hb)⟩
  rcases h with (h | ⟨o, h⟩) | h
  · obtain ⟨n1, n2⟩ := ne h (fun zs z => nomatch z) (fun zs z => nomatch z)
    exact .inl (.inl (e _ _ h n1 n2))
  · obtain ⟨n1, n2⟩ := ne h (fun zs z => nomatch z) (fun zs z => nomatch z)
    exact .inl (.inr ⟨o, e _ _ h n1 n2⟩)
  · exact .inr h
theorem KpT.fr {v : V} {q : Rat} (e : KpT p ba H H') (hp : H p = some (.ins C dx fs)) (hb : H ba = some (.lst bs)) (h : Fr K H v q) : Fr K H' v q := let ⟨a, h1, h2⟩ := h; ⟨a, h1, e.sqT hp hb h2⟩
theorem KpT.frS {vs : List V} {k : Nat} {f : Nat → Rat} (e : KpT p ba H H') (hp : H p = some (.ins C dx fs)) (hb : H ba = some (.lst bs)) (h : FrS K H vs k f) : FrS K H' vs k f := ⟨h.1, fun j v hj => e.fr hp hb (h.2 j v hj)⟩
theorem KpT.frL {k : Nat} {f : Nat → Rat} (e : KpT p ba H H') (hp : H p = some (.ins C dx fs)) (hb : H ba = some (.lst bs)) (ne : a ≠ ba) (h : FrL K H a k f) : FrL K H' a k f := by
  obtain ⟨ws, h1, h2⟩ := h
  refine ⟨ws, e _ _ h1 (fun z => ?_) ne, e.frS hp hb h2⟩
  subst z
  rw [h1] at hp
  cases hp
end
/-- a row is no base -/
theorem frL_base {K : PySem.W.Frag} {H : Hp} {a ba : Addr} {k m : Nat} {f : Nat → Rat} {T : Tb} (h : FrL K H a k f) (hk : 0 < k) (hb : H ba = some (.lst (baseL m T))) : a ≠ ba := by
  obtain ⟨ws, h1, h2⟩ := h
  intro z
  subst z
  rw [h1] at hb
  injection hb with hb
  injection hb with hb
  obtain ⟨v, ev, ad, e2, _⟩ := h2.at hk
  rw [hb] at ev
  have hm : 0 < m := by
    have := (List.getElem?_eq_some_iff.mp ev).1
    rw [baseL_len] at this
    exact this
  rw [baseL_at hm] at ev
  cases ev
  cases e2
theorem baseL_set {m i q : Nat} {T T' : Tb} (hi : i < m) (h1 : T'.b i = q) (h2 : ∀ k, k ≠ i → T'.b k = T.b k) : (baseL m T).set i (.int (q : Int)) = baseL m T' := by
  refine List.ext_getElem? fun j => ?_
  rw [List.getElem?_set]
  by_cases e : i = j
  · subst e
    rw [if_pos rfl, baseL_len, if_pos hi, baseL_at hi, h1]
  · rw [if_neg e]
    by_cases hj : j < m
    · rw [baseL_at hj, baseL_at hj, h2 j (fun z => e z.symm)]
    · rw [List.getElem?_eq_none (by rw [baseL_len]; omega), List.getElem?_eq_none (by rw [baseL_len]; omega)]
def spTurn (K : PySem.W.Frag) (C : Addr) : Sp := fun vs H Q _ => ∃ p ba m n T, ∃ a q : Nat, vs = [.ref p, .int (a : Int), .int (q : Int)] ∧ TAt K C H p ba m n T ∧ TSz m n T ∧ a < m ∧ q < n + m ∧ T.r a q ≠ 0 ∧
  ∀ H', KpT p ba H H' → TAt K C H' p ba m n (piv T a q) → Q .non H'
section
variable {P : Program} {w : World} {K : PySem.W.Frag} {mg : Str → Option Value} {base : Heap}
theorem scTurn : FnScope ["self", "at", "column", "base", "later", "place", "row", "factor", "one", "other"] ["self", "at", "column"] (defScope sTurn) := ⟨rfl, rfl, rfl, by decide +kernel, rfl, by decide +kernel, by decide +kernel⟩
theorem ok_turn {f C : Addr} {fd : FuncData} (F : Fun K "turn" "Turns.turn" sTurn f fd) (T : Tx K C) (DM : Df P w K mg base CX0 3 "minus" ["one", "other"] (spBin K (fun _ _ => True) fun p q => p - q)) (DT : Df P w K mg base CX0 3 "times" ["one", "other"] (spBin K (fun _ _ => True) fun p q => p * q))
    (DO : Df P w K mg base CX0 3 "over" ["one", "other"] (spBin K (fun _ q => q ≠ 0) fun p q => p / q)) (zE : mg "enumerate" = none) (zZ : mg "zip" = none) :
    FnOk P w K mg base CX0 4 f fd ["self", "at", "column"] (spTurn K C) := by
  refine F.ok scTurn (fun vs H Q E h => ?_) (fun cdv A outer s H vs Q E hr h => ?_)
  · obtain ⟨p, ba, m, n, T, a, q, rfl, _⟩ := h
    rfl
  · obtain ⟨p, ba, m, n, B, a, q, rfl, hT, S, ha, hq, h0, k⟩ := h
    refine ⟨_, pss_cons (ps_setLc (own := [("one", 8)]) (i := 3) (g := gName 8) (tt := tYes) rfl scTurn.nd rfl rfl (sw_true rfl rfl rfl (by decide +kernel))
            (pi_list (pe_ix (r := rIxL K) ix_list (pe_fld (pv 0) rfl) (pv 1) (fun _ _ => rfl)))
            (blkOk_by (N := ["self", "at", "column", "base", "later", "place", "row", "factor", "one", "other"]) (sc := defScope sTurn) (by decide +kernel))
            (fun _ _ _ _ _ => pg_name (i := 8) scTurn.nd rfl (.inl rfl)) (fun _ _ _ _ _ => pts_nil)
            (fun _ _ _ _ _ => pe_callD DO hr (by decide) (by rfl) pass0 (pa_cons (pv 8) (pa_cons (pe_ix (r := rIxL K) ix_list (pe_ix (r := rIxL K) ix_list (pe_fldK (K := K) (pv 0)) (pv 1) (fun _ _ => rfl)) (pv 2) (fun _ _ => rfl)) pa_nil))))
      (pss_cons (ps_set (i := 4) scTurn.nd rfl (.inl rfl) (pe_lst pa_nil))
      (pss_cons (ps_for PassesOwn.never rfl (pi_enum (by rfl) zE (pa_cons (pe_fld (pv 0) rfl) pa_nil)) (pg_tup rfl (pgs_cons (pg_name (i := 5) scTurn.nd rfl (.inl rfl)) (pgs_cons (pg_name (i := 6) scTurn.nd rfl (.inl rfl)) pgs_nil)))
        (pss_cons (ps_set (i := 7) scTurn.nd rfl (.inr rfl) (pe_ix (r := rIxL K) ix_list (pv 6) (pv 2) (fun _ _ => rfl)))
        (pss_one (ps_if (pt_cmpR op_eq (pv 5) (pv 1) (nomark _))
          (pss_one (ps_expr (pe_bm PySem.F.plainAttrs_list PySem.F.slot_list_append PySem.F.type_list_append mt_append (pv 4) (pa_cons (pv 3) pa_nil))))
          (pss_one (ps_if (pt_cmpR op_eq (pe_ix (r := rIxT K) ix_tup (pv 7) pe_int (fun _ _ => rfl)) pe_int (nomark _))
            (pss_one (ps_expr (pe_bm PySem.F.plainAttrs_list PySem.F.slot_list_append PySem.F.type_list_append mt_append (pv 4) (pa_cons (pv 6) pa_nil))))
            (pss_one (ps_expr (pe_bm PySem.F.plainAttrs_list PySem.F.slot_list_append PySem.F.type_list_append mt_append (pv 4) (pa_cons
              (pe_lc (own := [("one", 8), ("other", 9)]) (g := gTup K 2 (gCons (gName 8) (gCons (gName 9) gNil))) (tt := tYes) rfl scTurn.nd
                (pi_zipM (by rfl) zZ (pa_cons (pv 6) (pa_cons (pv 3) pa_nil)))
                (blkOk_by (N := ["self", "at", "column", "base", "later", "place", "row", "factor", "one", "other"]) (sc := defScope sTurn) (by decide +kernel))
                (fun _ _ _ _ _ => pg_tup rfl (pgs_cons (pg_name (i := 8) scTurn.nd rfl (.inl rfl)) (pgs_cons (pg_name (i := 9) scTurn.nd rfl (.inl rfl)) pgs_nil)))
                (fun _ _ _ _ _ => pts_nil)
                (fun _ _ _ _ _ => pe_callD DM hr (by decide) (by rfl) pass0 (pa_cons (pv 8) (pa_cons (pe_callD DT hr (by decide) (by rfl) pass0 (pa_cons (pv 7) (pa_cons (pv 9) pa_nil))) pa_nil)))) pa_nil))))))))))
      (pss_cons (ps_fld (pv 0) (pv 4) rfl)
      (pss_one (ps_asg (pv 2) (pg_sub (pe_fld (pv 0) rfl) (pv 1) set_list)))))), ?_⟩
    obtain ⟨⟨dx, ra, rs, hp, hra, hrl, hrs⟩, hba⟩ := id hT
    have hm := S.hm
    have hn := S.hn
    have row : ∀ i, i < m → ∃ ad, rs[i]? = some (.ref ad) ∧ FrL K H ad (n + m + 1) (B.r i) := fun i hi => by
      have e : rs[i]? = some (rs[i]'(by omega)) := List.getElem?_eq_getElem (by omega)
      obtain ⟨ad, e1, e2⟩ := hrs i _ e
      exact ⟨ad, by rw [e, e1], e2⟩
    obtain ⟨pa, epa, rowa⟩ := row a ha
    obtain ⟨wa, hwa, fwa⟩ := id rowa
    obtain ⟨vq, evq, frq⟩ := fwa.at (j := q) (by omega)
    -- base
    refine ⟨_, rfl, p, C, dx, _, _, rfl, hp, T.cl, T.nR, tf_rows, _, rfl, ra, rs, _, _, rfl, rfl, SqL.of hra, atI_nat epa, pa, rfl, ⟨_, SqL.of hwa⟩, fun D nD =>
      lcF (K := K) (walk_list (K := K) (a := pa) (xs := wa)) (fun j => B.r a j / B.r a q) nD (by rw [fwa.1]; omega) (fun H3 s3 => SqL.of (s3 _ _ hwa)) ?_ ?_⟩
    · rintro j x H3 H4 Q' hj s3 ⟨rfl, hx⟩ kk
      rw [fwa.1] at hj
      refine ⟨rfl, ?_⟩
      refine ⟨_, rfl, _, rfl, p, C, dx, _, _, rfl, s3 _ _ hp, T.cl, T.nR, tf_rows, _, rfl, ra, rs, _, _, rfl, rfl, SqL.of (s3 _ _ hra), atI_nat epa, _, rfl, pa, wa, _, _, rfl, rfl, SqL.of (s3 _ _ hwa), atI_nat evq, ?_⟩
      exact ⟨_, _, _, _, rfl, (fwa.2 j _ hx).same s3, frq.same s3, (S.sz a ha j (by omega)).mono (by decide), (S.sz a ha q (by omega)).mono (by decide), h0, fun H5 r s5 fr => kk _ _ s5 fr⟩
    · rintro H1 acc s1 hD hf
      rw [fwa.1] at hf
      refine ⟨by decide, fun la nla => ?_⟩
      have s2 : Same H (upd H1 la (.lst [])) := s1.trans (Same.upd nla)
      have nH : H la = none := s1.free nla
      have hDl : D ≠ la := ne_of_none hD nla
      refine ⟨_, rfl, p, C, dx, _, _, rfl, s2 _ _ hp, T.cl, T.nR, tf_rows, ra, rs, rfl, SqL.of (s2 _ _ hra),
        for_it (walk_enum (K := K) (a := ra) (xs := rs)) (fun i σ H2 => Same H H2 ∧ FrL K H2 D (n + m + 1) (fun j => B.r a j / B.r a q) ∧ (∃ o1 o2 o3, σ = [some (.ref p), some (.int (a : Int)), some (.int (q : Int)), some (.ref D), some (.ref la), o1, o2, o3, none, none]) ∧
          ∃ ls, H2 la = some (.lst ls) ∧ ls.length = i ∧ ∀ j v, ls[j]? = some v → ∃ ad, v = .ref ad ∧ ad ≠ la ∧ ad ≠ ba ∧ FrL K H2 ad (n + m + 1) ((piv B a q).r j))
          ⟨s2, ⟨_, by rw [upd_ne hDl]; exact hD, hf.same (Same.upd nla)⟩, ⟨none, none, none, rfl⟩, [], upd_same, rfl, fun j v e => by simp at e⟩ (fun i σ H2 _ h => SqL.of (h.1 _ _ hra)) ?_ ?_⟩
      · rintro i x σ H2 H3 hi ⟨s3, fD, ⟨o1, o2, o3, rfl⟩, ls, hla, hll, hlr⟩ ⟨t, x1, x2, rfl, nt, rfl, e1, e2⟩
        have him : i < m := by omega
        have e1' : x1 = .int (i : Int) := (Option.some.inj e1).symm
        subst e1'
        obtain ⟨pi, epi, rowi⟩ := row i him
        have e2' : x2 = .ref pi := by
          have e2 : rs[i]? = some x2 := e2
          rw [epi] at e2
          exact (Option.some.inj e2).symm
        subst e2'
        have st : Same H2 (upd H2 t (.tup [.int (i : Int), .ref pi])) := Same.upd nt
        generalize hH3 : upd H2 t (.tup [.int (i : Int), .ref pi]) = H3 at st
        have s4 := s3.trans st
        have hla3 := st _ _ hla
        obtain ⟨wi, hwi, fwi⟩ := rowi.same s4
        obtain ⟨vf, evf, frf⟩ := fwi.at (j := q) (by omega)
        obtain ⟨xf, rfl, hxf⟩ := id frf
        refine ⟨t, _, rfl, SqT.of (by rw [← hH3]; exact upd_same), rfl, _, _, rfl, _, _, rfl, rfl, ?_⟩
        refine ⟨_, rfl, _, rfl, pi, wi, _, _, rfl, rfl, SqL.of hwi, atI_nat evf, ?_⟩
        -- what holds behind an append
        have app : ∀ (H4 : Hp) (ad : Addr), Same H3 H4 → ad ≠ la → ad ≠ ba → FrL K H4 ad (n + m + 1) ((piv B a q).r i) →
            Same H (upd H4 la (.lst (ls ++ [.ref ad]))) ∧ FrL K (upd H4 la (.lst (ls ++ [.ref ad]))) D (n + m + 1) (fun j => B.r a j / B.r a q) ∧
            ∃ ls', (upd H4 la (.lst (ls ++ [.ref ad]))) la = some (.lst ls') ∧ ls'.length = i + 1 ∧ ∀ j v, ls'[j]? = some v → ∃ ae, v = .ref ae ∧ ae ≠ la ∧ ae ≠ ba ∧ FrL K (upd H4 la (.lst (ls ++ [.ref ad]))) ae (n + m + 1) ((piv B a q).r j) := by
          intro H4 ad s5 n1 n2 fr
          have hla4 := s5 _ _ hla3
          have kp : KpD la H4 (upd H4 la (.lst (ls ++ [.ref ad]))) := ⟨⟨_, hla4⟩, fun b o ne e => by rw [upd_ne ne]; exact e⟩
          refine ⟨same_upd nH (s4.trans s5), kp.frL hDl ((fD.same st).same s5), _, upd_same, by rw [List.length_append, hll]; rfl, fun j v e => ?_⟩
          by_cases hj : j < ls.length
          · rw [List.getElem?_append_left hj] at e
            obtain ⟨ad', e', m1, m2, fr'⟩ := hlr j v e
            exact ⟨ad', e', m1, m2, kp.frL m1 ((fr'.same st).same s5)⟩
          · rw [List.getElem?_append_right (by omega)] at e
            have hz : j - ls.length = 0 := by
              by_cases z : j - ls.length = 0
              · exact z
              · rw [List.getElem?_eq_none (by simp; omega)] at e
                cases e
            rw [hz] at e
            have ev : V.ref ad = v := by simpa using e
            have ej : j = i := by omega
            subst ev ej
            exact ⟨ad, rfl, n1, n2, kp.frL n1 fr⟩
        have small : ls.length < sizeLine := small1000 (by omega)
        refine ⟨_, rfl, _, rfl, rfl, _, rfl, ite2 (fun hc => ?_) fun hc => ?_⟩
        · -- the row itself
          have ei : i = a := by
            have := V.int.inj (of_decide_eq_true hc)
            omega
          subst ei
          have hDb : D ≠ ba := fun z => by
            subst z
            rw [hba] at nD
            cases nD
          obtain ⟨r1, r2, r3⟩ := app H3 D (Same.refl _) hDl hDb ((fD.same st).ext fun j _ => (piv_rp B i q j).symm)
          exact ⟨_, rfl, .inl ⟨rfl, _, SqL.of hla3⟩, _, rfl, la, ls, _, rfl, rfl, hla3, small, r1, r2, ⟨_, _, _, rfl⟩, r3⟩
        · have ei : i ≠ a := fun z => hc (decide_eq_true (by rw [z]))
          refine ⟨_, rfl, xf, _, _, _, rfl, rfl, hxf, at0, rfl, _, rfl, ite2 (fun hc2 => ?_) fun hc2 => ?_⟩
          · have hz : B.r i q = 0 := Rat.num_eq_zero.mp (V.int.inj (of_decide_eq_true hc2))
            have hib : pi ≠ ba := frL_base rowi (by omega) hba
            have hil : pi ≠ la := fun z => by
              obtain ⟨w', h', _⟩ := rowi
              rw [z, nH] at h'
              cases h'
            obtain ⟨r1, r2, r3⟩ := app H3 pi (Same.refl _) hil hib ((rowi.same s4).ext fun j _ => by rw [piv_ri B q j ei, hz]; grind)
            exact ⟨_, rfl, .inl ⟨rfl, _, SqL.of hla3⟩, _, rfl, la, ls, _, rfl, rfl, hla3, small, r1, r2, ⟨_, _, _, rfl⟩, r3⟩
          · obtain ⟨wd, hwd, fwd⟩ := fD.same st
            refine ⟨_, rfl, .inl ⟨rfl, _, SqL.of hla3⟩, ?_⟩
            refine ⟨_, rfl, _, rfl, false, false, pi, D, wi, wd, rfl, SqL.of hwi, SqL.of hwd, fun D2 nD2 =>
              lcF (K := K) (walkM fwi.1 fwd.1) ((piv B a q).r i) nD2 (by omega) (fun H5 s5 => ⟨SqL.of (s5 _ _ hwi), SqL.of (s5 _ _ hwd)⟩) ?_ ?_⟩
            · rintro j x H5 H6 Q' hj s5 ⟨t2, y1, y2, rfl, nt2, rfl, g1, g2⟩ kk
              have st2 := Same.upd (o := .tup [y1, y2]) nt2
              have s6 := s5.trans st2
              refine ⟨t2, _, rfl, SqT.of upd_same, rfl, _, _, rfl, _, _, rfl, rfl, rfl, ?_⟩
              refine ⟨_, rfl, _, rfl, _, rfl, _, _, _, _, rfl, frf.same s6, (fwd.2 j _ g2).same s6, (S.sz i him q (by omega)).mono (by decide), ((S.sz a ha j (by omega)).div (S.sz a ha q (by omega)) h0).mono (by decide), True.intro, fun H7 r s7 fr => ?_⟩
              refine ⟨_, _, _, _, rfl, ((fwi.2 j _ g1).same s6).same s7, fr, (S.sz i him j (by omega)).mono (by decide), ((S.sz i him q (by omega)).mul ((S.sz a ha j (by omega)).div (S.sz a ha q (by omega)) h0)).mono (by decide), True.intro, fun H8 r2 s8 fr2 => kk _ _ (st2.trans (s7.trans s8)) ?_⟩
              rw [piv_ri B q j ei]
              exact fr2
            · rintro H5 acc s5 hD5 hf5
              have hl5 := s5 _ _ hla3
              have n1 : D2 ≠ la := fun z => by
                subst z
                rw [hla3] at nD2
                cases nD2
              have n2 : D2 ≠ ba := fun z => by
                subst z
                rw [s4 _ _ hba] at nD2
                cases nD2
              obtain ⟨r1, r2, r3⟩ := app H5 D2 s5 n1 n2 ⟨acc, hD5, hf5⟩
              exact ⟨la, ls, _, rfl, rfl, hl5, small, r1, r2, ⟨_, _, _, rfl⟩, r3⟩
      · rintro σ H2 ⟨s3, fD, ⟨o1, o2, o3, rfl⟩, ls, hla, hll, hlr⟩
        have hp2 := s3 _ _ hp
        have hba2 := s3 _ _ hba
        refine ⟨_, rfl, _, rfl, p, C, dx, _, rfl, hp2, T.cl, T.nR, (by show 4 < 1000; decide), ?_⟩
        rw [putF_rows]
        have nbp : ba ≠ p := ne_of hba2 hp2 (by intro z; cases z)
        have nlp : la ≠ p := ne_of hla hp2 (by intro z; cases z)
        have nlb : la ≠ ba := fun z => by
          subst z
          rw [hba] at nH
          cases nH
        refine ⟨_, rfl, _, rfl, p, C, dx, _, _, rfl, upd_same, T.cl, T.nB, tf_base, _, rfl, ba, baseL m B, _, a, rfl, rfl, (by rw [upd_ne nbp]; exact hba2), (by rw [baseL_len]; unfold ixN; rw [if_pos (by omega), if_pos (by omega)]; rfl), ?_⟩
        rw [baseL_set (T' := piv B a q) ha (piv_bp B a q) (fun k hk => piv_bi B q hk)]
        generalize hF : upd (upd H2 p (.ins C dx (tf m n la ba))) ba (.lst (baseL m (piv B a q))) = HF
        have kp : KpT p ba H2 HF := fun b o e h1 h2 => by rw [← hF, upd_ne h2, upd_ne h1]; exact e
        refine k HF ((KpT.of s3).trans kp) ⟨⟨dx, la, ls, by rw [← hF, upd_ne nbp.symm]; exact upd_same, kp _ _ hla nlp nlb, by rw [hll, hrl], fun i v e => ?_⟩, by rw [← hF]; exact upd_same⟩
        obtain ⟨ad, e1, _, e3, e4⟩ := hlr i v e
        exact ⟨ad, e1, kp.frL hp2 hba2 e3 e4⟩
end
end K1
set_option Elab.async false
set_option linter.all false
set_option maxRecDepth 100000
namespace K1
open PySem L2 Kz Sx
/-- a fraction as data -/
def dF (q : Rat) : PyData := .tuple [.int q.num, .int (q.den : Int)]
theorem Fr.dp {K : PySem.W.Frag} {H : Hp} {v : V} {q : Rat} (h : Fr K H v q) : Dp K H v (dF q) := by
  obtain ⟨a, rfl, h⟩ := h
  exact .tup h (.cons (.int _) (.cons (.int _) .nil))
theorem eqv_int (i j : Int) : PyData.eqv (.int i) (.int j) = decide (i = j) := by
  simp [PyData.eqv]
  rfl
theorem eqv_dF (p q : Rat) : PyData.eqv (dF p) (dF q) = decide (p = q) := by
  simp only [dF, PyData.eqv, PyData.eqvAll, Bool.and_true]
  by_cases h : p = q
  · subst h
    simp
  · rw [decide_eq_false h]
    by_cases h1 : p.num = q.num
    · have h2 : ¬ ((p.den : Int) = q.den) := fun z => h (fr_inj h1 z)
      simp [h1]
      intro z
      exact h2 (by rw [z])
    · simp [h1]
theorem shaped_dF (q : Rat) : SeqAt.shaped (dF q) = true := by
  simp [SeqAt.shaped, dF, PyData.canLay0, PyData.canLayAll0, PyData.depth, PyData.depthAll]
theorem depthAll_ints : ∀ ns : List Int, PyData.depthAll (ns.map .int) ≤ 1
  | [] => by simp [PyData.depthAll]
  | n :: ns => by
    have := depthAll_ints ns
    simp [PyData.depthAll, PyData.depth] at *
    try omega
theorem canLay_ints : ∀ ns : List Int, PyData.canLayAll0 (ns.map .int) = true
  | [] => by simp [PyData.canLayAll0]
  | n :: ns => by
    have := canLay_ints ns
    simp [PyData.canLayAll0, PyData.canLay0] at *
    try exact this
theorem shaped_ints (ns : List Int) : SeqAt.shaped (.list (ns.map .int)) = true := by
  have h1 := depthAll_ints ns
  have h2 := canLay_ints ns
  have e : PyData.depth (.list (ns.map .int)) = PyData.depthAll (ns.map .int) + 1 := by simp [PyData.depth]
  have e2 : PyData.canLay0 (.list (ns.map .int)) = true := by simp only [PyData.canLay0]; exact h2
  unfold SeqAt.shaped
  rw [e2, Bool.true_and]
  exact decide_eq_true (by omega)
theorem dp_ints {K : PySem.W.Frag} {H : Hp} : ∀ ns : List Int, DpAll K H (ns.map V.int) (ns.map .int)
  | [] => .nil
  | n :: ns => .cons (.int n) (dp_ints ns)
theorem eqv_nil (ns : List Int) : PyData.eqv (.list (ns.map .int)) (.list []) = ns.isEmpty := by
  cases ns <;> simp [PyData.eqv, PyData.eqvAll]
end K1
set_option Elab.async false
set_option linter.all false
set_option maxRecDepth 100000
namespace K1
open PySem L2 Kz Sx
abbrev Bq : Nat := 2 ^ 20
/-- a table that is right, of small numbers -/
structure Gd (m n : Nat) (A : Nat → Nat → Rat) (T : Tb) : Prop where
  hm : m = 1 ∨ m = 2 ∨ m = 3
  hn : n ≤ 4
  val : Val m n A T
  nn : Nn m (n + m) T
  bd : ∀ k, k < m → ∀ j, j ≤ n + m → Bd Bq (A k j * 4)
theorem sz_sm {q : Rat} (h : Sz (6 * (Bq * Bq * Bq)) q) : Sm 100 q := ⟨Nat.lt_of_le_of_lt h.1 (by decide), Nat.lt_of_le_of_lt h.2 (by decide)⟩
theorem Gd.tsz {m n : Nat} {A : Nat → Nat → Rat} {T : Tb} (G : Gd m n A T) : TSz m n T where
  hm := by rcases G.hm with h | h | h <;> omega
  hn := G.hn
  bl := G.val.bl
  sz := fun i hi j hj => sz_sm (G.val.sz G.hm (by decide) (by decide) G.bd i hi j hj)
theorem Gd.cho {m n most p q : Nat} {A : Nat → Nat → Rat} {T : Tb} {c : Nat → Rat} (G : Gd m n A T) (C : Cho m (n + m) c most T p q) (hm : most ≤ n + m) : Gd m n A (piv T p q) where
  hm := G.hm
  hn := G.hn
  val := G.val.piv C.hp (Nat.lt_of_lt_of_le C.hq hm) (by have := C.pos; grind)
  nn := C.nn G.nn
  bd := G.bd
theorem at_last {K : PySem.W.Frag} {H : Hp} {ws : List V} {k : Nat} {f : Nat → Rat} (h : FrS K H ws (k + 1) f) : ∃ v, atI ws (-1) = some v ∧ Fr K H v (f k) := by
  obtain ⟨v, e, r⟩ := h.at (Nat.lt_succ_self k)
  refine ⟨v, ?_, r⟩
  unfold atI ixN
  rw [if_neg (by decide), if_pos (by rw [h.1]; omega), h.1]
  show ws[(-1 + ((k + 1 : Nat) : Int)).toNat]? = some v
  rw [show (-1 + ((k + 1 : Nat) : Int)).toNat = k by omega]
  exact e
/-- the best row so far, as it stands in its slot -/
def BsV (K : PySem.W.Frag) (H : Hp) (N q : Nat) (T : Tb) (v : V) : Option Nat → Prop
  | none => v = .non
  | some a => ∃ t sv, v = .ref t ∧ SqT K H t [sv, .int (a : Int)] ∧ Fr K H sv (T.r a N / T.r a q)
theorem BsV.same {K : PySem.W.Frag} {H H' : Hp} {N q : Nat} {T : Tb} {v : V} {o : Option Nat} (e : Same H H') (h : BsV K H N q T v o) : BsV K H' N q T v o := by
  cases o with
  | none => exact h
  | some a =>
    obtain ⟨t, sv, h1, h2, h3⟩ := h
    exact ⟨t, sv, h1, Same.sqT e h2, h3.same e⟩
def spImprove (K : PySem.W.Frag) (C : Addr) : Sp := fun vs H Q _ => ∃ p ba m n T A ca c, ∃ most : Nat, vs = [.ref p, .ref ca, .int (most : Int)] ∧ TAt K C H p ba m n T ∧ Gd m n A T ∧ FrL K H ca (n + m) c ∧ ca ≠ ba ∧ CSz (n + m) c ∧ most ≤ n + m ∧
  (∀ H' T', KpT p ba H H' → TAt K C H' p ba m n T' → Gd m n A T' → Rch m (n + m) c most T T' → (∀ j, j < most → 0 ≤ line m c T' j) → Q (.bl true) H') ∧
  (∀ H' T', KpT p ba H H' → TAt K C H' p ba m n T' → Gd m n A T' → Rch m (n + m) c most T T' → (∃ q, q < most ∧ line m c T' q < 0 ∧ ∀ i, i < m → ¬ 0 < T'.r i q) → Q (.bl false) H')
section
variable {P : Program} {w : World} {K : PySem.W.Frag} {mg : Str → Option Value} {base : Heap}
abbrev nImp : List Str := ["self", "costs", "most", "line", "good", "column", "best", "at", "share", "is_first", "place"]
theorem scImprove : FnScope nImp ["self", "costs", "most"] (defScope sImprove) := ⟨rfl, rfl, rfl, by decide +kernel, rfl, by decide +kernel, by decide +kernel⟩
theorem ok_improve {f C : Addr} {fd : FuncData} (F : Fun K "improve" "Turns.improve" sImprove f fd) (T : Tx K C) (DL : Dm P w K mg base C 4 "left" ["self", "costs"] (spLeft K C)) (DT : Dm P w K mg base C 4 "turn" ["self", "at", "column"] (spTurn K C))
    (DO : Df P w K mg base CX0 3 "over" ["one", "other"] (spBin K (fun _ q => q ≠ 0) fun p q => p / q)) (DS : Df P w K mg base CX0 1 "less" ["one", "other"] (spLess K)) (zR : mg "range" = none) :
    FnOk P w K mg base CX0 5 f fd ["self", "costs", "most"] (spImprove K C) := by
  refine F.ok scImprove (fun vs H Q E h => ?_) (fun cdv A outer s H vs Q E hr h => ?_)
  · obtain ⟨p, ba, m, n, T, A, ca, c, most, rfl, _⟩ := h
    rfl
  · obtain ⟨p, ba, m, n, B, M, ca, c, most, rfl, hT, G, hc, hcb, Z, hmost, kt, kf⟩ := h
    refine ⟨_, pss_one (ps_while PassesOwn.never (pt_val pe_bl)
      (pss_cons (ps_set (i := 3) scImprove.nd rfl (.inr rfl) (pe_methD DL T.cl hr (by decide) (pv 0) (pa_cons (pv 1) pa_nil)))
      (pss_cons (ps_setLc (own := [("place", 10)]) (i := 4) (g := gName 10) rfl scImprove.nd rfl rfl (sw_true rfl rfl rfl (by decide +kernel))
        (pi_range1 (by rfl) zR (pa_cons (pv 2) pa_nil))
        (blkOk_by (N := nImp) (sc := defScope sImprove) (by decide +kernel))
        (fun _ _ _ _ _ => pg_name (i := 10) scImprove.nd rfl (.inl rfl))
        (fun _ _ _ _ _ => pts_one (pt_cmpR op_lt (pe_ix (r := rIxT K) ix_tup (pe_ix (r := rIxL K) ix_list (pv 3) (pv 10) (fun _ _ => rfl)) pe_int (fun _ _ => rfl)) pe_int (nomark _)))
        (fun _ _ _ _ _ => pv 10))
      (pss_cons (ps_if (pt_cmpR (op_eqD hr.units) (pv 4) (pe_lst pa_nil) (nomark _)) (pss_one (ps_ret pe_bl)) pss_nil)
      (pss_cons (ps_par (i := 5) (j := 6) rfl scImprove.nd rfl rfl (by decide) rfl rfl (pa_cons (pe_ix (r := rIxL K) ix_list (pv 4) pe_int (fun _ _ => rfl)) (pa_cons pe_non pa_nil)) rfl)
      (pss_cons (ps_for PassesOwn.never rfl (pi_range1 (by rfl) zR (pa_cons (pe_fld (pv 0) rfl) pa_nil)) (pg_name (i := 7) scImprove.nd rfl (.inl rfl))
        (pss_one (ps_if (pt_cmpR op_gt (pe_ix (r := rIxT K) ix_tup (pe_ix (r := rIxL K) ix_list (pe_ix (r := rIxL K) ix_list (pe_fld (pv 0) rfl) (pv 7) (fun _ _ => rfl)) (pv 5) (fun _ _ => rfl)) pe_int (fun _ _ => rfl)) pe_int (nomark _))
          (pss_cons (ps_set (i := 8) scImprove.nd rfl (.inl rfl) (pe_callD DO hr (by decide) (by rfl) pass0
            (pa_cons (pe_ix (r := rIxL K) ix_list (pe_ix (r := rIxL K) ix_list (pe_fld (pv 0) rfl) (pv 7) (fun _ _ => rfl)) (pe_un un_neg pe_int) (fun _ _ => rfl))
            (pa_cons (pe_ix (r := rIxL K) ix_list (pe_ix (r := rIxL K) ix_list (pe_fld (pv 0) rfl) (pv 7) (fun _ _ => rfl)) (pv 5) (fun _ _ => rfl)) pa_nil))))
          (pss_cons (ps_set (i := 9) scImprove.nd rfl (.inl rfl) (pe_and (pe_cmp (pc_notN (pv 6))) (pe_and (pe_cmpR (op_eqD hr.units) (pv 8) (pe_ix (r := rIxT K) ix_tup (pv 6) pe_int (fun _ _ => rfl)) (nomark _))
            (pe_one (pe_cmpR op_lt (pe_ix (r := rIxL K) ix_list (pe_fld (pv 0) rfl) (pv 7) (fun _ _ => rfl)) (pe_ix (r := rIxL K) ix_list (pe_fld (pv 0) rfl) (pe_ix (r := rIxT K) ix_tup (pv 6) pe_int (fun _ _ => rfl)) (fun _ _ => rfl)) (nomark _))))))
          (pss_one (ps_if (PW.pt (pw_or (pt_cmp (pc_isN (pv 6))) (pw_or (pt_val (pe_callD DS hr (by decide) (by rfl) pass0 (pa_cons (pv 8) (pa_cons (pe_ix (r := rIxT K) ix_tup (pv 6) pe_int (fun _ _ => rfl)) pa_nil)))) (pw_or1 (pt_val (pv 9))))))
            (pss_one (ps_set (i := 6) scImprove.nd rfl (.inl rfl) (pe_tup (pa_cons (pv 8) (pa_cons (pv 7) pa_nil))))) pss_nil))))
          pss_nil)))
      (pss_cons (ps_if (pt_cmp (pc_isN (pv 6))) (pss_one (ps_ret pe_bl)) pss_nil)
      (pss_one (ps_expr (pe_methD DT T.cl hr (by decide) (pv 0) (pa_cons (pe_ix (r := rIxT K) ix_tup (pv 6) pe_int (fun _ _ => rfl)) (pa_cons (pv 5) pa_nil)))))))))))), ?_⟩
    have N1 : nImp.length = 11 := rfl
    refine ⟨fun mm σ H1 => ∃ T1 s o3 o4 o5 o6 o7 o8 o9, σ = [some (.ref p), some (.ref ca), some (.int (most : Int)), o3, o4, o5, o6, o7, o8, o9, none] ∧ KpT p ba H H1 ∧ TAt K C H1 p ba m n T1 ∧ Gd m n M T1 ∧ Rch m (n + m) c most B T1 ∧
        Hist m n M c most B T1 s ∧ mm = (n + m) ^ m - s,
      ⟨_, B, 0, none, none, none, none, none, none, none, rfl, fun b o e _ _ => e, hT, G, .refl, Hist.zero G.val G.nn, rfl⟩, ?_⟩
    rintro mm σ H1 ⟨T1, sN, o3, o4, o5, o6, o7, o8, o9, rfl, kp1, hT1, G1, R1, Hs, rfl⟩
    refine ⟨_, rfl, iteT ⟨fun σ' H' => ∃ m', m' < (n + m) ^ m - sN ∧ _, fun _ _ q => q, ?_⟩⟩
    obtain ⟨⟨dx0, ra0, rs0, hp0, _, _, _⟩, hba0⟩ := id hT
    have hc1 := kp1.frL hp0 hba0 hcb hc
    obtain ⟨⟨dx, ra, rs, hp, hra, hrl, hrs⟩, hba⟩ := id hT1
    have S1 := G1.tsz
    have hm := S1.hm
    have hn := S1.hn
    refine ⟨_, rfl, p, dx, _, rfl, hp, tf_no (by decide +kernel) (by decide +kernel) (by decide +kernel) (by decide +kernel), _, rfl, p, ba, m, n, T1, _, c, rfl, hT1, S1, hc1.toA, Z, fun H2 la s2 fl => ?_⟩
    obtain ⟨ls, hls, hlf⟩ := id fl
    -- the good columns
    refine ⟨_, rfl, (most : Int), rfl, by omega, by omega, fun D nD => lc_it (walk_range (lo := 0) (n := (most : Int).toNat))
      (fun i H3 => Same H2 H3 ∧ H3 D = some (.lst (((List.range i).filter fun j => decide (line m c T1 j < 0)).map fun (j : Nat) => V.int (j : Int)))) ⟨Same.upd nD, upd_same⟩ (fun _ _ _ _ => True.intro) ?_ ?_⟩
    · rintro i x H3 H4 hi ⟨s3, hD⟩ ⟨rfl, rfl⟩
      rw [Int.toNat_natCast] at hi
      obtain ⟨v, ev, ⟨av, rfl, hav⟩⟩ := hlf.at (j := i) (by omega)
      refine ⟨rfl, ?_⟩
      refine ⟨_, rfl, _, rfl, la, ls, _, _, rfl, rfl, SqL.of (s3 _ _ hls), at_of (Int.zero_add _) ev, av, _, _, _, rfl, rfl, Same.sqT s3 hav, at0, _, _, rfl, rfl, _, rfl, ?_⟩
      rw [List.range_succ, List.filter_append]
      by_cases hneg : line m c T1 i < 0
      · rw [decide_eq_true (num_neg.mpr hneg)]
        refine iteT ⟨_, rfl, _, hD, small1000 ?_, ?_⟩
        · rw [List.length_map]
          exact Nat.le_trans (List.length_filter_le _ _) (by rw [List.length_range]; omega)
        · refine ⟨same_upd nD s3, ?_⟩
          rw [upd_same, List.filter_cons_of_pos (by exact decide_eq_true hneg), List.filter_nil, List.map_append]
          exact congrArg (fun z : Int => some (HO.lst (_ ++ [V.int z]))) (Int.zero_add _)
      · rw [decide_eq_false (fun z => hneg (num_neg.mp z))]
        refine iteF ⟨s3, ?_⟩
        rw [List.filter_cons_of_neg (by simpa using hneg), List.filter_nil, List.append_nil]
        exact hD
    · rintro H3 ⟨s3, hD⟩
      rw [Int.toNat_natCast] at hD
      generalize hgs : ((List.range most).filter fun j => decide (line m c T1 j < 0)) = gs at hD
      have s23 := s2.trans s3
      refine ⟨_, rfl, by decide, fun l nl => ?_⟩
      have sl := Same.upd (o := .lst []) nl
      generalize hH4 : upd H3 l (.lst []) = H4 at sl
      have hl4 : H4 l = some (.lst []) := by rw [← hH4]; exact upd_same
      have s4 := s23.trans sl
      refine ⟨.list ((gs.map fun (j : Nat) => (j : Int)).map .int), .list [], .lst (SqL.of (sl _ _ hD)) ?_, .lst (SqL.of hl4) .nil, shaped_ints _, by decide, _, rfl, ?_⟩
      · have := dp_ints (K := K) (H := H4) (gs.map fun (j : Nat) => (j : Int))
        rw [List.map_map] at this
        exact this
      rw [eqv_nil]
      cases hg : gs with
      | nil =>
        refine iteT ?_
        have hall := filter_nil (hgs.trans hg)
        refine kt _ _ (kp1.trans (.of s4)) (hT1.same s4) G1 R1 fun j hj => ?_
        have := hall j hj
        have := of_decide_eq_false this
        grind
      | cons q gr =>
        refine iteF ?_
        obtain ⟨hq, hqn, hqf⟩ := filter_head most (hgs.trans hg)
        have hqn : line m c T1 q < 0 := of_decide_eq_true hqn
        have hqf : ∀ j, j < q → 0 ≤ line m c T1 j := fun j hj => by
          have := of_decide_eq_false (hqf j hj)
          grind
        have hqN : q < n + m := by omega
        rw [hg] at hD
        refine ⟨_, rfl, D, _, _, _, rfl, rfl, SqL.of (sl _ _ hD), atI_nat (j := 0) rfl, _, _, rfl, ?_⟩
        have hp4 := s4 _ _ hp
        have hra4 := s4 _ _ hra
        have hba4 := s4 _ _ hba
        -- the share
        refine ⟨_, rfl, p, C, dx, _, _, rfl, hp4, T.cl, T.nH, tf_high, (m : Int), rfl, by omega, by omega, for_range (lo := 0) (n := (m : Int).toNat)
          (fun i σ H5 => Same H4 H5 ∧ ∃ ob vb o7 o8 o9, σ = [some (.ref p), some (.ref ca), some (.int (most : Int)), some (.ref la), some (.ref D), some (.int (q : Int)), some vb, o7, o8, o9, none] ∧ BsV K H5 (n + m) q T1 vb ob ∧ Bst m (n + m) q T1 i ob)
          ⟨Same.refl _, none, .non, _, _, _, rfl, rfl, fun k hk => absurd hk (by omega)⟩ ?_ ?_⟩
        · rintro i σ H5 hi ⟨s5, ob, vb, p7, p8, p9, rfl, hbv, hbs⟩
          rw [Int.toNat_natCast] at hi
          have s45 := s4.trans s5
          have hp5 := s45 _ _ hp
          have hra5 := s45 _ _ hra
          have hba5 := s45 _ _ hba
          have e0 : (0 : Int) + (i : Nat) = (i : Int) := Int.zero_add _
          obtain ⟨rad, er, ⟨wr, hwr, fwr⟩⟩ : ∃ ad, rs[i]? = some (.ref ad) ∧ FrL K H5 ad (n + m + 1) (T1.r i) := by
            have e : rs[i]? = some (rs[i]'(by omega)) := List.getElem?_eq_getElem (by omega)
            obtain ⟨ad, e1, e2⟩ := hrs i _ e
            exact ⟨ad, by rw [e, e1], e2.same s45⟩
          obtain ⟨vq, evq, ⟨aq, rfl, haq⟩⟩ := fwr.at (j := q) (by omega)
          obtain ⟨vN, evN, frN⟩ := at_last fwr
          refine ⟨_, rfl, p, C, dx, _, _, rfl, hp5, T.cl, T.nR, tf_rows, _, rfl, ra, rs, _, _, rfl, rfl, SqL.of hra5, at_of e0 er, _, rfl, rad, wr, _, _, rfl, rfl, SqL.of hwr, atI_nat evq, aq, _, _, _, rfl, rfl, haq, at0, _, _, rfl, rfl, _, rfl, ?_⟩
          by_cases hpos : 0 < T1.r i q
          · rw [decide_eq_true (num_pos.mpr hpos)]
            refine iteT ?_
            have hq0 : T1.r i q ≠ 0 := by grind
            refine ⟨_, rfl, p, C, dx, _, _, rfl, hp5, T.cl, T.nR, tf_rows, _, rfl, ra, rs, _, _, rfl, rfl, SqL.of hra5, at_of e0 er, 1, rfl, rad, wr, _, _, rfl, rfl, SqL.of hwr, evN, ?_⟩
            refine ⟨_, rfl, p, C, dx, _, _, rfl, hp5, T.cl, T.nR, tf_rows, _, rfl, ra, rs, _, _, rfl, rfl, SqL.of hra5, at_of e0 er, _, rfl, rad, wr, _, _, rfl, rfl, SqL.of hwr, atI_nat evq, ?_⟩
            refine ⟨vN, _, _, _, rfl, frN, ⟨aq, rfl, haq⟩, (S1.sz i hi _ (Nat.le_refl _)).mono (by decide), (S1.sz i hi q (by omega)).mono (by decide), hq0, fun H6 sv s6 fsv => ?_⟩
            have hbv6 := hbv.same s6
            have szs : ∀ k, k < m → T1.r k q ≠ 0 → Sm 3000 (T1.r k (n + m) / T1.r k q) := fun k hk h0 => ((S1.sz k hk _ (Nat.le_refl _)).div (S1.sz k hk q (by omega)) h0).mono (by decide)
            -- a new best
            have put : ∀ (H7 : Hp) (isf : V), Same H6 H7 → Bst m (n + m) q T1 (i + 1) (some i) → ∀ (t : Addr), H7 t = none →
                (Same H4 (upd H7 t (.tup [sv, .int (0 + (i : Nat) : Int)])) ∧ ∃ ob vb' o7 o8 o9, [some (.ref p), some (.ref ca), some (.int (most : Int)), some (.ref la), some (.ref D), some (.int (q : Int)), some (V.ref t), some (.int (0 + (i : Nat) : Int)), some sv, some isf, none] =
                  [some (.ref p), some (.ref ca), some (.int (most : Int)), some (.ref la), some (.ref D), some (.int (q : Int)), some vb', o7, o8, o9, none] ∧ BsV K (upd H7 t (.tup [sv, .int (0 + (i : Nat) : Int)])) (n + m) q T1 vb' ob ∧ Bst m (n + m) q T1 (i + 1) ob) := fun H7 isf s7 hb t nt => by
              have st := Same.upd (o := .tup [sv, .int (0 + (i : Nat) : Int)]) nt
              refine ⟨(s5.trans s6).trans (s7.trans st), some i, _, _, _, _, rfl, ⟨t, sv, rfl, SqT.of (by rw [upd_same, e0]), (fsv.same s7).same st⟩, hb⟩
            cases ob with
            | none =>
              obtain rfl : vb = .non := hbv
              refine ⟨_, rfl, _, rfl, iteF ?_⟩
              refine ⟨_, rfl, _, rfl, iteT ?_⟩
              refine iteT ⟨_, rfl, _, rfl, sz2, fun t nt => ?_⟩
              exact put H6 _ (Same.refl _) (hbs.first hpos) t nt
            | some a =>
              obtain ⟨tb, sb, rfl, htb, fsb⟩ := hbv6
              obtain ⟨ha, hap, _, _⟩ := id hbs
              have ham : a < m := by omega
              have ha0 : T1.r a q ≠ 0 := by grind
              refine ⟨_, rfl, _, rfl, iteT ?_⟩
              refine ⟨_, rfl, _, rfl, tb, _, _, _, rfl, rfl, htb, at0, _, _, fsv.dp, fsb.dp, shaped_dF _, shaped_dF _, _, rfl, ?_⟩
              rw [eqv_dF]
              have hba6 := s6 _ _ hba5
              have hp6 := s6 _ _ hp5
              by_cases hse : T1.r i (n + m) / T1.r i q = T1.r a (n + m) / T1.r a q
              · rw [decide_eq_true hse]
                refine iteT ⟨_, rfl, p, C, dx, _, _, rfl, hp6, T.cl, T.nB, tf_base, _, rfl, ba, _, _, _, rfl, rfl, SqL.of hba6, at_of e0 (baseL_at hi),
                  _, rfl, p, C, dx, _, _, rfl, hp6, T.cl, T.nB, tf_base, _, rfl, tb, _, _, _, rfl, rfl, htb, at1, ba, _, _, _, rfl, rfl, SqL.of hba6, atI_nat (baseL_at ham), _, _, rfl, rfl, ?_⟩
                refine ⟨_, rfl, _, rfl, iteF ?_⟩
                refine ⟨_, rfl, _, rfl, tb, _, _, _, rfl, rfl, htb, at0, sv, sb, _, _, rfl, fsv, fsb, szs i hi hq0, szs a ham ha0, _, rfl, ?_⟩
                rw [decide_eq_false (fun z : T1.r i (n + m) / T1.r i q < T1.r a (n + m) / T1.r a q => by rw [hse] at z; exact absurd z Rat.lt_irrefl)]
                refine iteF ⟨_, rfl, _, rfl, ?_⟩
                by_cases hlt : T1.b i < T1.b a
                · rw [decide_eq_true (by omega)]
                  refine iteT ⟨_, rfl, _, rfl, sz2, fun t nt => ?_⟩
                  exact put H6 _ (Same.refl _) (hbs.tie hpos hse hlt) t nt
                · rw [decide_eq_false (by omega)]
                  exact iteF ⟨s5.trans s6, some a, _, _, _, _, rfl, ⟨tb, sb, rfl, htb, fsb⟩, hbs.keep hpos (fun z => by rw [hse] at z; exact absurd z Rat.lt_irrefl) (fun z => hlt z.2)⟩
              · rw [decide_eq_false hse]
                refine iteF ?_
                refine ⟨_, rfl, _, rfl, iteF ?_⟩
                refine ⟨_, rfl, _, rfl, tb, _, _, _, rfl, rfl, htb, at0, sv, sb, _, _, rfl, fsv, fsb, szs i hi hq0, szs a ham ha0, _, rfl, ?_⟩
                by_cases hl : T1.r i (n + m) / T1.r i q < T1.r a (n + m) / T1.r a q
                · rw [decide_eq_true hl]
                  refine iteT (iteT ⟨_, rfl, _, rfl, sz2, fun t nt => ?_⟩)
                  exact put H6 _ (Same.refl _) (hbs.better hpos hl) t nt
                · rw [decide_eq_false hl]
                  refine iteF ⟨_, rfl, _, rfl, iteF ?_⟩
                  exact ⟨s5.trans s6, some a, _, _, _, _, rfl, ⟨tb, sb, rfl, htb, fsb⟩, hbs.keep hpos hl (fun z => hse z.1)⟩
          · rw [decide_eq_false (fun z => hpos (num_pos.mp z))]
            exact iteF ⟨s5, ob, vb, _, _, _, rfl, hbv, hbs.skip hpos⟩
        · rintro σ H5 ⟨s5, ob, vb, p7, p8, p9, rfl, hbv, hbs⟩
          rw [Int.toNat_natCast] at hbs
          have s45 := s4.trans s5
          cases ob with
          | none =>
            obtain rfl : vb = .non := hbv
            refine ⟨_, rfl, _, rfl, iteT ?_⟩
            exact kf _ _ (kp1.trans (.of s45)) (hT1.same s45) G1 R1 ⟨q, hq, hqn, hbs⟩
          | some a =>
            obtain ⟨tb, sb, rfl, htb, fsb⟩ := hbv
            have Ch := hbs.cho hq hqn hqf
            have hp5 := s45 _ _ hp
            refine ⟨_, rfl, _, rfl, iteF ?_⟩
            refine ⟨_, rfl, p, dx, _, rfl, hp5, tf_no (by decide +kernel) (by decide +kernel) (by decide +kernel) (by decide +kernel), _, rfl, tb, _, _, _, rfl, rfl, htb, at1, _, rfl, p, ba, m, n, T1, a, q, rfl, hT1.same s45, S1, Ch.hp, hqN, by have := Ch.pos; grind, fun H6 kp6 hT6 => ?_⟩
            have G6 := G1.cho Ch hmost
            have Hs6 := Hs.snoc Ch G6.val
            have b1 := Hs6.bound hmost
            exact ⟨_, (by omega : (n + m) ^ m - (sN + 1) < (n + m) ^ m - sN), piv T1 a q, sN + 1, _, _, _, _, _, _, _, rfl, (kp1.trans (.of s45)).trans kp6, hT6, G6, .step R1 Ch, Hs6, rfl⟩
end
end K1
set_option Elab.async false
set_option linter.all false
set_option maxRecDepth 100000
namespace K1
open PySem L2 Kz Sx
/-- rows whose base is a helping column are empty -/
def Art (m n : Nat) (T : Tb) : Prop := ∀ i, i < m → n ≤ T.b i → T.r i (n + m) = 0 ∧ ∀ j, j < n → T.r i j = 0
def spSettle (K : PySem.W.Frag) (C : Addr) : Sp := fun vs H Q _ => ∃ p ba m n T A, vs = [.ref p] ∧ TAt K C H p ba m n T ∧ Gd m n A T ∧ (∀ i, i < m → n ≤ T.b i → T.r i (n + m) = 0) ∧
  ∀ H' T', KpT p ba H H' → TAt K C H' p ba m n T' → Gd m n A T' → Art m n T' → Q .non H'
/-- up to the i-th row -/
structure StI (m n : Nat) (T : Tb) (i : Nat) : Prop where
  z : ∀ k, k < m → n ≤ T.b k → T.r k (n + m) = 0
  e : ∀ k, k < i → n ≤ T.b k → ∀ j, j < n → T.r k j = 0
theorem StI.turn {m n i q : Nat} {T : Tb} (h : StI m n T i) (hi : i < m) (hb : n ≤ T.b i) (hq : q < n) : StI m n (piv T i q) (i + 1) := by
  have h0 := h.z i hi hb
  refine ⟨fun k hk hn => ?_, fun k hk hn j hj => ?_⟩
  · by_cases e : k = i
    · subst e; rw [piv_bp] at hn; omega
    · rw [piv_bi T q e] at hn
      rw [piv_ri T q _ e, h0, h.z k hk hn]
      have : (0 : Rat) / T.r i q = 0 := by grind
      rw [this]; grind
  · by_cases e : k = i
    · subst e; rw [piv_bp] at hn; omega
    · rw [piv_bi T q e] at hn
      rw [piv_ri T q _ e, h.e k (by omega) hn j hj, h.e k (by omega) hn q hq]; grind
theorem Gd.turn0 {m n p q : Nat} {A : Nat → Nat → Rat} {T : Tb} (G : Gd m n A T) (hp : p < m) (hq : q < n + m) (h0 : T.r p q ≠ 0) (z : T.r p (n + m) = 0) : Gd m n A (piv T p q) where
  hm := G.hm
  hn := G.hn
  val := G.val.piv hp hq h0
  nn := fun i hi => by
    have h1 : (0 : Rat) / T.r p q = 0 := by grind
    by_cases e : i = p
    · subst e; rw [piv_rp, z, h1]; grind
    · rw [piv_ri T q _ e, z, h1]
      have := G.nn i hi
      grind
  bd := G.bd
section
variable {P : Program} {w : World} {K : PySem.W.Frag} {mg : Str → Option Value} {base : Heap}
abbrev nSet : List Str := ["self", "at", "good", "place"]
theorem scSettle : FnScope nSet ["self"] (defScope sSettle) := ⟨rfl, rfl, rfl, by decide +kernel, rfl, by decide +kernel, by decide +kernel⟩
theorem ok_settle {f C : Addr} {fd : FuncData} (F : Fun K "settle" "Turns.settle" sSettle f fd) (T : Tx K C) (DT : Dm P w K mg base C 4 "turn" ["self", "at", "column"] (spTurn K C)) (zR : mg "range" = none) :
    FnOk P w K mg base CX0 5 f fd ["self"] (spSettle K C) := by
  refine F.ok scSettle (fun vs H Q E h => ?_) (fun cdv A outer s H vs Q E hr h => ?_)
  · obtain ⟨p, ba, m, n, T, A, rfl, _⟩ := h
    rfl
  · obtain ⟨p, ba, m, n, B, M, rfl, hT, G, hz, k⟩ := h
    refine ⟨_, pss_one (ps_for PassesOwn.never rfl (pi_range1 (by rfl) zR (pa_cons (pe_fld (pv 0) rfl) pa_nil)) (pg_name (i := 1) scSettle.nd rfl (.inr rfl))
      (pss_one (ps_if (pt_cmpR op_ge (pe_ix (r := rIxL K) ix_list (pe_fld (pv 0) rfl) (pv 1) (fun _ _ => rfl)) (pe_fld (pv 0) rfl) (nomark _))
        (pss_cons (ps_setLc (own := [("place", 3)]) (i := 2) (g := gName 3) rfl scSettle.nd rfl rfl (sw_true rfl rfl rfl (by decide +kernel))
          (pi_range1 (by rfl) zR (pa_cons (pe_fld (pv 0) rfl) pa_nil))
          (blkOk_by (N := nSet) (sc := defScope sSettle) (by decide +kernel))
          (fun _ _ _ _ _ => pg_name (i := 3) scSettle.nd rfl (.inl rfl))
          (fun _ _ _ _ _ => pts_one (pt_cmpR op_ne (pe_ix (r := rIxT K) ix_tup (pe_ix (r := rIxL K) ix_list (pe_ix (r := rIxL K) ix_list (pe_fldK (K := K) (pv 0)) (pv 1) (fun _ _ => rfl)) (pv 3) (fun _ _ => rfl)) pe_int (fun _ _ => rfl)) pe_int (nomark _)))
          (fun _ _ _ _ _ => pv 3))
        (pss_one (ps_if (pt_cmpR (op_neD hr.units) (pv 2) (pe_lst pa_nil) (nomark _))
          (pss_one (ps_expr (pe_methD DT T.cl hr (by decide) (pv 0) (pa_cons (pv 1) (pa_cons (pe_ix (r := rIxL K) ix_list (pv 2) pe_int (fun _ _ => rfl)) pa_nil))))) pss_nil))) pss_nil))), ?_⟩
    obtain ⟨⟨dx0, ra0, rs0, hp0, hra0, hrl0, hrs0⟩, hba0⟩ := id hT
    have hm : m ≤ 3 := G.tsz.hm
    have hn : n ≤ 4 := G.hn
    refine ⟨_, rfl, p, C, dx0, _, _, rfl, hp0, T.cl, T.nH, tf_high, (m : Int), rfl, by omega, by omega, for_range (lo := 0) (n := (m : Int).toNat)
      (fun i σ H1 => ∃ T1 o1 o2, σ = [some (.ref p), o1, o2, none] ∧ KpT p ba H H1 ∧ TAt K C H1 p ba m n T1 ∧ Gd m n M T1 ∧ StI m n T1 i) ⟨B, none, none, rfl, fun b o e _ _ => e, hT, G, hz, fun k hk => absurd hk (by omega)⟩ ?_ ?_⟩
    · rintro i σ H1 hi ⟨T1, o1, o2, rfl, kp1, hT1, G1, I1⟩
      rw [Int.toNat_natCast] at hi
      have e0 : (0 : Int) + (i : Nat) = (i : Int) := Int.zero_add _
      obtain ⟨⟨dx, ra, rs, hp, hra, hrl, hrs⟩, hba⟩ := id hT1
      have S1 := G1.tsz
      refine ⟨_, rfl, p, C, dx, _, _, rfl, hp, T.cl, T.nB, tf_base, _, rfl, ba, _, _, _, rfl, rfl, SqL.of hba, at_of e0 (baseL_at hi), _, rfl, p, C, dx, _, _, rfl, hp, T.cl, T.nM, tf_many, _, _, rfl, rfl, _, rfl, ?_⟩
      by_cases hb : n ≤ T1.b i
      · rw [decide_eq_true (by omega)]
        refine iteT ?_
        obtain ⟨rad, er, ⟨wr, hwr, fwr⟩⟩ : ∃ ad, rs[i]? = some (.ref ad) ∧ FrL K H1 ad (n + m + 1) (T1.r i) := by
          have e : rs[i]? = some (rs[i]'(by omega)) := List.getElem?_eq_getElem (by omega)
          obtain ⟨ad, e1, e2⟩ := hrs i _ e
          exact ⟨ad, by rw [e, e1], e2⟩
        refine ⟨_, rfl, p, C, dx, _, _, rfl, hp, T.cl, T.nM, tf_many, (n : Int), rfl, by omega, by omega, fun D nD => lc_it (walk_range (lo := 0) (n := (n : Int).toNat))
          (fun j H3 => Same H1 H3 ∧ H3 D = some (.lst (((List.range j).filter fun j => decide (T1.r i j ≠ 0)).map fun (j : Nat) => V.int (j : Int)))) ⟨Same.upd nD, upd_same⟩ (fun _ _ _ _ => True.intro) ?_ ?_⟩
        · rintro j x H3 H4 hj ⟨s3, hD⟩ ⟨rfl, rfl⟩
          rw [Int.toNat_natCast] at hj
          obtain ⟨v, ev, ⟨av, rfl, hav⟩⟩ := fwr.at (j := j) (by omega)
          refine ⟨rfl, ?_⟩
          refine ⟨_, rfl, p, C, dx, _, _, rfl, s3 _ _ hp, T.cl, T.nR, tf_rows, _, rfl, ra, rs, _, _, rfl, rfl, SqL.of (s3 _ _ hra), at_of e0 er, _, rfl, rad, wr, _, _, rfl, rfl, SqL.of (s3 _ _ hwr), at_of (Int.zero_add _) ev, av, _, _, _, rfl, rfl, Same.sqT s3 hav, at0, rfl, _, rfl, ?_⟩
          rw [List.range_succ, List.filter_append]
          by_cases hz0 : T1.r i j ≠ 0
          · have hz1 : ¬ V.int (T1.r i j).num = V.int 0 := fun z => hz0 (Rat.num_eq_zero.mp (V.int.inj z))
            rw [decide_eq_false hz1]
            refine iteT ⟨_, rfl, _, hD, small1000 ?_, ?_⟩
            · rw [List.length_map]
              exact Nat.le_trans (List.length_filter_le _ _) (by rw [List.length_range]; omega)
            · refine ⟨same_upd nD s3, ?_⟩
              rw [upd_same, List.filter_cons_of_pos (by exact decide_eq_true hz0), List.filter_nil, List.map_append]
              exact congrArg (fun z : Int => some (HO.lst (_ ++ [V.int z]))) (Int.zero_add _)
          · have hz1 : V.int (T1.r i j).num = V.int 0 := by
              have : T1.r i j = 0 := Classical.byContradiction hz0
              rw [this]; rfl
            rw [decide_eq_true hz1]
            refine iteF ⟨s3, ?_⟩
            rw [List.filter_cons_of_neg (by simpa using hz0), List.filter_nil, List.append_nil]
            exact hD
        · rintro H3 ⟨s3, hD⟩
          rw [Int.toNat_natCast] at hD
          generalize hgs : ((List.range n).filter fun j => decide (T1.r i j ≠ 0)) = gs at hD
          refine ⟨_, rfl, by decide, fun l nl => ?_⟩
          have sl := Same.upd (o := .lst []) nl
          generalize hH4 : upd H3 l (.lst []) = H4 at sl
          have hl4 : H4 l = some (.lst []) := by rw [← hH4]; exact upd_same
          have s4 := s3.trans sl
          refine ⟨.list ((gs.map fun (j : Nat) => (j : Int)).map .int), .list [], .lst (SqL.of (sl _ _ hD)) ?_, .lst (SqL.of hl4) .nil, shaped_ints _, by decide, _, rfl, ?_⟩
          · have := dp_ints (K := K) (H := H4) (gs.map fun (j : Nat) => (j : Int))
            rw [List.map_map] at this
            exact this
          rw [eqv_nil]
          cases hg : gs with
          | nil =>
            refine iteF ?_
            have hall := filter_nil (hgs.trans hg)
            refine ⟨T1, _, _, rfl, kp1.trans (.of s4), hT1.same s4, G1, I1.z, fun k hk hn' j hj => ?_⟩
            by_cases e : k = i
            · have := of_decide_eq_false (hall j hj)
              rw [e]
              exact Classical.byContradiction this
            · exact I1.e k (by omega) hn' j hj
          | cons q gr =>
            refine iteT ?_
            obtain ⟨hq, hqn, hqf⟩ := filter_head n (hgs.trans hg)
            have hq0 : T1.r i q ≠ 0 := of_decide_eq_true hqn
            rw [hg] at hD
            refine ⟨_, rfl, p, dx, _, rfl, s4 _ _ hp, tf_no (by decide +kernel) (by decide +kernel) (by decide +kernel) (by decide +kernel), _, rfl, _, rfl, D, _, _, _, rfl, rfl, SqL.of (sl _ _ hD), atI_nat (j := 0) rfl, p, ba, m, n, T1, i, q, (by rw [e0]; rfl), hT1.same s4, S1, hi, by omega, hq0, fun H6 kp6 hT6 => ?_⟩
            exact ⟨piv T1 i q, _, _, rfl, (kp1.trans (.of s4)).trans kp6, hT6, G1.turn0 hi (by omega) hq0 (I1.z i hi hb), I1.turn hi hb hq⟩
      · rw [decide_eq_false (by omega)]
        refine iteF ⟨T1, _, _, rfl, kp1, hT1, G1, I1.z, fun k hk hn' j hj => ?_⟩
        by_cases e : k = i
        · subst e; exact absurd hn' hb
        · exact I1.e k (by omega) hn' j hj
    · rintro σ H1 ⟨T1, o1, o2, rfl, kp1, hT1, G1, I1⟩
      rw [Int.toNat_natCast] at I1
      exact k H1 T1 kp1 hT1 G1 fun i hi hb => ⟨I1.z i hi hb, I1.e i hi hb⟩
end
end K1
set_option Elab.async false
set_option linter.all false
set_option maxRecDepth 100000
namespace K1
open PySem L2 Kz Sx
def spAmounts (K : PySem.W.Frag) (C : Addr) : Sp := fun vs H Q _ => ∃ p ba m n T, vs = [.ref p] ∧ TAt K C H p ba m n T ∧ m ≤ 3 ∧ n ≤ 4 ∧ (∀ i k, i < m → k < m → T.b i = T.b k → i = k) ∧
  ∀ H' r, Same H H' → FrA true K H' r n (sol m (n + m) T) → Q r H'
def spFactors (K : PySem.W.Frag) (C : Addr) : Sp := fun vs H Q _ => ∃ p ba m n T ca c, vs = [.ref p, .ref ca] ∧ TAt K C H p ba m n T ∧ TSz m n T ∧ FrL K H ca (n + m) c ∧ CSz (n + m) c ∧
  ∀ H' r, Same H H' → FrA true K H' r m (fac m n c T) → Q r H'
theorem sol_succ (i N : Nat) (T : Tb) (v : Nat) : sol (i + 1) N T v = sol i N T v + (if T.b i = v then T.r i N else 0) := rfl
theorem FrS.set {K : PySem.W.Frag} {H : Hp} {ws : List V} {k j : Nat} {f g : Nat → Rat} {v : V} (h : FrS K H ws k f) (r : Fr K H v (g j)) (e : ∀ l, l ≠ j → f l = g l) : FrS K H (ws.set j v) k g := by
  refine ⟨by rw [List.length_set]; exact h.1, fun l u hu => ?_⟩
  rw [List.getElem?_set] at hu
  by_cases z : j = l
  · subst z
    rw [if_pos rfl] at hu
    by_cases y : j < ws.length
    · rw [if_pos y] at hu
      cases hu
      exact r
    · rw [if_neg y] at hu
      cases hu
  · rw [if_neg z] at hu
    rw [← e l (fun y => z y.symm)]
    exact h.2 l u hu
theorem rep1 {n : Nat} {v : V} : (List.replicate n [v]).flatten = List.replicate n v := by
  induction n with
  | zero => rfl
  | succ n ih => rw [List.replicate_succ, List.flatten_cons, ih]; rfl
theorem FrS.rep {K : PySem.W.Frag} {H : Hp} {n : Nat} {v : V} {q : Rat} (h : Fr K H v q) : FrS K H (List.replicate n v) n (fun _ => q) :=
  ⟨List.length_replicate, fun j u e => by
    rw [List.getElem?_replicate] at e
    split at e
    · cases e; exact h
    · cases e⟩
section
variable {P : Program} {w : World} {K : PySem.W.Frag} {mg : Str → Option Value} {base : Heap}
theorem scAmounts : FnScope ["self", "found", "at", "column"] ["self"] (defScope sAmounts) := ⟨rfl, rfl, rfl, by decide +kernel, rfl, by decide +kernel, by decide +kernel⟩
theorem ok_amounts {f C : Addr} {fd : FuncData} (F : Fun K "amounts" "Turns.amounts" sAmounts f fd) (T : Tx K C) {z : Addr} (mz : mg "ZERO" = some (.ref z)) (fz : ∀ H, Fr K H (.ref z) 0) (zE : mg "enumerate" = none) (zT : mg "tuple" = none) :
    FnOk P w K mg base CX0 1 f fd ["self"] (spAmounts K C) := by
  refine F.ok scAmounts (fun vs H Q E h => ?_) (fun cdv A outer s H vs Q E hr h => ?_)
  · obtain ⟨p, ba, m, n, T, rfl, _⟩ := h
    rfl
  · obtain ⟨p, ba, m, n, B, rfl, hT, hm, hn, inj, k⟩ := h
    refine ⟨_, pss_cons (ps_set (i := 1) scAmounts.nd rfl (.inl rfl) (pe_op op_rep (pe_lst (pa_cons (pe_glob (v := V.ref z) (by rfl) mz rfl) pa_nil)) (pe_fld (pv 0) rfl)))
      (pss_cons (ps_for PassesOwn.never rfl (pi_enum (by rfl) zE (pa_cons (pe_fld (pv 0) rfl) pa_nil)) (pg_tup rfl (pgs_cons (pg_name (i := 2) scAmounts.nd rfl (.inl rfl)) (pgs_cons (pg_name (i := 3) scAmounts.nd rfl (.inl rfl)) pgs_nil)))
        (pss_one (ps_if (pt_cmpR op_lt (pv 3) (pe_fld (pv 0) rfl) (nomark _))
          (pss_one (ps_asg (pe_ix (r := rIxL K) ix_list (pe_ix (r := rIxL K) ix_list (pe_fld (pv 0) rfl) (pv 2) (fun _ _ => rfl)) (pe_un un_neg pe_int) (fun _ _ => rfl)) (pg_sub (pv 1) (pv 3) set_list))) pss_nil)))
      (pss_one (ps_ret (pe_callTy call_tuple_of (by rfl) zT PyProof.Rows.boot_tuple (pa_cons (pv 1) pa_nil))))), ?_⟩
    obtain ⟨⟨dx, ra, rs, hp, hra, hrl, hrs⟩, hba⟩ := id hT
    refine ⟨(by decide : (1 : Nat) ≤ sizeLine), fun l nl => ?_⟩
    have s1 := Same.upd (o := .lst [.ref z]) nl
    have hl1 : (upd H l (.lst [.ref z])) l = some (.lst [.ref z]) := upd_same
    generalize upd H l (.lst [.ref z]) = H1 at s1 hl1
    refine ⟨_, rfl, p, C, dx, _, _, rfl, s1 _ _ hp, T.cl, T.nM, tf_many, l, (n : Int), [.ref z], rfl, rfl, hl1, by omega, by omega, (by rw [Int.toNat_natCast]; exact Nat.le_of_lt (small1000 (by show 1 * n ≤ 1000; omega))), fun q nq => ?_⟩
    rw [Int.toNat_natCast, rep1]
    have s2 := s1.trans (Same.upd (o := .lst (List.replicate n (V.ref z))) nq)
    have hq2 : (upd H1 q (.lst (List.replicate n (V.ref z)))) q = some (.lst (List.replicate n (V.ref z))) := upd_same
    have nqH : H q = none := s1.free nq
    generalize upd H1 q (.lst (List.replicate n (V.ref z))) = H2 at s2 hq2
    refine ⟨_, rfl, p, C, dx, _, _, rfl, s2 _ _ hp, T.cl, T.nB, tf_base, ba, baseL m B, rfl, SqL.of (s2 _ _ hba),
      for_it (walk_enum (K := K) (a := ba) (xs := baseL m B)) (fun i σ H3 => Same H H3 ∧ ∃ o1 o2, σ = [some (.ref p), some (.ref q), o1, o2] ∧ FrL K H3 q n (sol i (n + m) B)) ⟨s2, none, none, rfl, _, hq2, FrS.rep (fz _)⟩ (fun i σ H3 _ h => SqL.of (h.1 _ _ hba)) ?_ ?_⟩
    · rintro i x σ H3 H4 hi ⟨s3, o1, o2, rfl, wq, hwq, fq⟩ ⟨t, x1, x2, rfl, nt, rfl, e1, e2⟩
      rw [baseL_len] at hi
      have e1' : x1 = .int (i : Int) := (Option.some.inj e1).symm
      subst e1'
      have e2' : x2 = .int (B.b i : Int) := by
        have e2 : (baseL m B)[i]? = some x2 := e2
        rw [baseL_at hi] at e2
        exact (Option.some.inj e2).symm
      subst e2'
      have st : Same H3 (upd H3 t (.tup [.int (i : Int), .int (B.b i : Int)])) := Same.upd nt
      have ht4 : (upd H3 t (.tup [.int (i : Int), .int (B.b i : Int)])) t = some (.tup [.int (i : Int), .int (B.b i : Int)]) := upd_same
      generalize upd H3 t (.tup [.int (i : Int), .int (B.b i : Int)]) = H4 at st ht4
      have s4 := s3.trans st
      have hp4 := s4 _ _ hp
      refine ⟨t, _, rfl, SqT.of ht4, rfl, _, _, rfl, _, _, rfl, rfl, ?_⟩
      refine ⟨_, rfl, _, rfl, p, C, dx, _, _, rfl, hp4, T.cl, T.nM, tf_many, _, _, rfl, rfl, _, rfl, ?_⟩
      by_cases hb : B.b i < n
      · rw [decide_eq_true (by omega)]
        refine iteT ?_
        obtain ⟨rad, er, ⟨wr, hwr, fwr⟩⟩ : ∃ ad, rs[i]? = some (.ref ad) ∧ FrL K H4 ad (n + m + 1) (B.r i) := by
          have e : rs[i]? = some (rs[i]'(by omega)) := List.getElem?_eq_getElem (by omega)
          obtain ⟨ad, e1, e2⟩ := hrs i _ e
          exact ⟨ad, by rw [e, e1], e2.same s4⟩
        obtain ⟨vN, evN, frN⟩ := at_last fwr
        have hq4 := st _ _ hwq
        refine ⟨_, rfl, p, C, dx, _, _, rfl, hp4, T.cl, T.nR, tf_rows, _, rfl, ra, rs, _, _, rfl, rfl, SqL.of (s4 _ _ hra), atI_nat er, 1, rfl, rad, wr, _, _, rfl, rfl, SqL.of hwr, evN, ?_⟩
        refine ⟨_, rfl, _, rfl, q, wq, _, B.b i, rfl, rfl, hq4, (by rw [fq.1]; unfold ixN; rw [if_pos (by omega), if_pos (by omega)]; rfl), ?_⟩
        have kp : KpD q H4 (upd H4 q (.lst (wq.set (B.b i) vN))) := ⟨⟨_, hq4⟩, fun b o ne e => by rw [upd_ne ne]; exact e⟩
        refine ⟨same_upd nqH s4, _, _, rfl, _, upd_same, (kp.frS (fq.same st)).set (g := sol (i + 1) (n + m) B) (j := B.b i) ?_ fun l hl => ?_⟩
        · rw [sol_succ, if_pos rfl, sol_out (fun k hk e => by have := inj k i (by omega) hi e; omega)]
          have : (0 : Rat) + B.r i (n + m) = B.r i (n + m) := by grind
          rw [this]
          exact kp.fr frN
        · rw [sol_succ, if_neg (fun z => hl z.symm)]
          grind
      · rw [decide_eq_false (by omega)]
        refine iteF ⟨s4, _, _, rfl, ⟨wq, st _ _ hwq, (fq.same st).ext fun j hj => ?_⟩⟩
        rw [sol_succ, if_neg (by omega)]
        grind
    · rintro σ H3 ⟨s3, o1, o2, rfl, wq, hwq, fq⟩
      rw [baseL_len] at fq
      refine ⟨_, rfl, q, wq, rfl, .inl ⟨SqL.of hwq, fun l2 nl2 => ?_⟩⟩
      have s4 := Same.upd (o := .tup wq) nl2
      exact k _ _ (s3.trans s4) ⟨l2, wq, rfl, SqT.of upd_same, fq.same s4⟩
theorem scFactors : FnScope ["self", "costs", "line", "at"] ["self", "costs"] (defScope sFactors) := ⟨rfl, rfl, rfl, by decide +kernel, rfl, by decide +kernel, by decide +kernel⟩
theorem ok_factors {f C : Addr} {fd : FuncData} (F : Fun K "factors" "Turns.factors" sFactors f fd) (T : Tx K C) (DL : Dm P w K mg base C 4 "left" ["self", "costs"] (spLeft K C)) (DM : Df P w K mg base CX0 3 "minus" ["one", "other"] (spBin K (fun _ _ => True) fun p q => p - q)) (zR : mg "range" = none) (zT : mg "tuple" = none) :
    FnOk P w K mg base CX0 5 f fd ["self", "costs"] (spFactors K C) := by
  refine F.ok scFactors (fun vs H Q E h => ?_) (fun cdv A outer s H vs Q E hr h => ?_)
  · obtain ⟨p, ba, m, n, T, ca, c, rfl, _⟩ := h
    rfl
  · obtain ⟨p, ba, m, n, B, ca, c, rfl, hT, S, hc, Z, k⟩ := h
    refine ⟨_, pss_cons (ps_set (i := 2) scFactors.nd rfl (.inr rfl) (pe_methD DL T.cl hr (by decide) (pv 0) (pa_cons (pv 1) pa_nil)))
      (pss_one (ps_ret (pe_callTy call_tuple_of (by rfl) zT PyProof.Rows.boot_tuple (pa_cons
        (pe_lc (own := [("at", 3)]) (g := gName 3) (tt := tYes) rfl scFactors.nd (pi_range1 (by rfl) zR (pa_cons (pe_fld (pv 0) rfl) pa_nil))
          (blkOk_by (N := ["self", "costs", "line", "at"]) (sc := defScope sFactors) (by decide +kernel))
          (fun _ _ _ _ _ => pg_name (i := 3) scFactors.nd rfl (.inl rfl)) (fun _ _ _ _ _ => pts_nil)
          (fun _ _ _ _ _ => pe_callD DM hr (by decide) (by rfl) pass0 (pa_cons (pe_ix (r := rIxL K) ix_list (pv 1) (pe_op op_add (pe_fldK (K := K) (pv 0)) (pv 3)) (fun _ _ => rfl)) (pa_cons (pe_ix (r := rIxL K) ix_list (pv 2) (pe_op op_add (pe_fldK (K := K) (pv 0)) (pv 3)) (fun _ _ => rfl)) pa_nil)))) pa_nil)))), ?_⟩
    obtain ⟨⟨dx, ra, rs, hp, hra, hrl, hrs⟩, hba⟩ := id hT
    obtain ⟨wc, hwc, fwc⟩ := id hc
    have hm := S.hm
    have hn := S.hn
    refine ⟨_, rfl, p, dx, _, rfl, hp, tf_no (by decide +kernel) (by decide +kernel) (by decide +kernel) (by decide +kernel), _, rfl, p, ba, m, n, B, _, c, rfl, hT, S, hc.toA, Z, fun H2 la s2 fl => ?_⟩
    obtain ⟨wl, hwl, fwl⟩ := id fl
    have hp2 := s2 _ _ hp
    have hwc2 := s2 _ _ hwc
    refine ⟨_, rfl, p, C, dx, _, _, rfl, hp2, T.cl, T.nH, tf_high, (m : Int), rfl, by omega, by omega, fun D nD => lcF (K := K) (walk_range (lo := 0) (n := (m : Int).toNat)) (fac m n c B) nD (by omega) (fun _ _ => True.intro) ?_ ?_⟩
    · rintro i x H3 H4 Q' hi s3 ⟨rfl, rfl⟩ kk
      rw [Int.toNat_natCast] at hi
      obtain ⟨v1, ev1, fr1⟩ := fwc.at (j := n + i) (by omega)
      obtain ⟨v2, ev2, fr2⟩ := fwl.at (j := n + i) (by omega)
      refine ⟨rfl, ?_⟩
      have ei : (n : Int) + (0 + (i : Nat)) = ((n + i : Nat) : Int) := by omega
      refine ⟨_, rfl, _, rfl, p, C, dx, _, _, rfl, s3 _ _ hp2, T.cl, T.nM, tf_many, _, rfl, _, _, rfl, rfl, ca, wc, _, _, rfl, rfl, SqL.of (s3 _ _ hwc2), at_of ei ev1,
        _, rfl, _, rfl, p, C, dx, _, _, rfl, s3 _ _ hp2, T.cl, T.nM, tf_many, _, rfl, _, _, rfl, rfl, la, wl, _, _, rfl, rfl, SqL.of (s3 _ _ hwl), at_of ei ev2, ?_⟩
      refine ⟨_, _, _, _, rfl, (fr1.same s2).same s3, fr2.same s3, (Z.sz _ (by omega)).mono (by decide), (line_sz S Z (by omega)).mono (by decide), True.intro, fun H5 r s5 fr => kk _ _ s5 ?_⟩
      have e : c (n + i) - line m c B (n + i) = fac m n c B i := by
        unfold line fac
        grind
      rw [← e]
      exact fr
    · rintro H3 acc s3 hD hf
      rw [Int.toNat_natCast] at hf
      refine ⟨D, acc, rfl, .inl ⟨SqL.of hD, fun l2 nl2 => ?_⟩⟩
      have s4 := Same.upd (o := .tup acc) nl2
      exact k _ _ ((s2.trans s3).trans s4) ⟨l2, acc, rfl, SqT.of upd_same, hf.same s4⟩
end
end K1
set_option Elab.async false
set_option linter.all false
set_option maxRecDepth 100000
namespace K1
open PySem L2 Kz Sx
/-- the first table -/
def tab0 (m n : Nat) (R : Nat → Nat → Rat) (g : Nat → Rat) : Tb where
  r := fun i j => if j < n then R i j else if j < n + m then (if i = j - n then 1 else 0) else g i
  b := fun i => n + i
/-- a list of lists of fractions -/
def FrM (K : PySem.W.Frag) (H : Hp) (a : Addr) (m n : Nat) (R : Nat → Nat → Rat) : Prop := ∃ ls, H a = some (.lst ls) ∧ ls.length = m ∧ ∀ i v, ls[i]? = some v → ∃ ad, v = .ref ad ∧ FrL K H ad n (R i)
theorem FrM.same {K : PySem.W.Frag} {H H' : Hp} {a : Addr} {m n : Nat} {R : Nat → Nat → Rat} (e : Same H H') (h : FrM K H a m n R) : FrM K H' a m n R := by
  obtain ⟨ls, h1, h2, h3⟩ := h
  exact ⟨ls, e _ _ h1, h2, fun i v hv => let ⟨ad, e1, e2⟩ := h3 i v hv; ⟨ad, e1, e2.same e⟩⟩
theorem FrM.row {K : PySem.W.Frag} {H : Hp} {ls : List V} {m n i : Nat} {R : Nat → Nat → Rat} (hl : ls.length = m) (h : ∀ i v, ls[i]? = some v → ∃ ad, v = .ref ad ∧ FrL K H ad n (R i)) (hi : i < m) : ∃ ad, ls[i]? = some (.ref ad) ∧ FrL K H ad n (R i) := by
  have e : ls[i]? = some (ls[i]'(by omega)) := List.getElem?_eq_getElem (by omega)
  obtain ⟨ad, e1, e2⟩ := h i _ e
  exact ⟨ad, by rw [e, e1], e2⟩
def spTInit (K : PySem.W.Frag) (C : Addr) : Sp := fun vs H Q _ => ∃ p dx la ga m n R g, vs = [.ref p, .ref la, .ref ga] ∧ H p = some (.ins C dx []) ∧ FrM K H la m n R ∧ FrL K H ga m g ∧ 0 < m ∧ m ≤ 3 ∧ n ≤ 4 ∧
  ∀ H' ba, (∀ b o, H b = some o → b ≠ p → H' b = some o) → H ba = none → TAt K C H' p ba m n (tab0 m n R g) → Q .non H'
theorem FrS.app {K : PySem.W.Frag} {H : Hp} {vs ws : List V} {k l : Nat} {f g h : Nat → Rat} (a : FrS K H vs k f) (b : FrS K H ws l g) (e1 : ∀ j, j < k → h j = f j) (e2 : ∀ j, j < l → h (k + j) = g j) : FrS K H (vs ++ ws) (k + l) h := by
  refine ⟨by rw [List.length_append, a.1, b.1], fun j v hj => ?_⟩
  by_cases x : j < vs.length
  · rw [List.getElem?_append_left x] at hj
    rw [e1 j (by rw [← a.1]; exact x)]
    exact a.2 j v hj
  · rw [List.getElem?_append_right (by omega)] at hj
    have hl : j - vs.length < ws.length := (List.getElem?_eq_some_iff.mp hj).1
    have e := e2 (j - vs.length) (by rw [← b.1]; exact hl)
    have ej : k + (j - vs.length) = j := by rw [← a.1]; omega
    rw [ej] at e
    rw [e]
    exact b.2 _ v hj
theorem putF_new {f : Str} {v : V} : ∀ {fs : List (Str × V)}, (∀ g, g ∈ fs.map (·.1) → ¬ g = f) → putF f v fs = fs ++ [(f, v)]
  | [], _ => rfl
  | (g, x) :: r, h => by
    have h1 : ¬ g = f := h g (by simp)
    show (if g = f then (g, v) :: r else (g, x) :: putF f v r) = _
    rw [if_neg h1, putF_new fun a ha => h a (by simp at ha ⊢; exact .inr ha)]
    rfl
/-- all but the instance at p is kept -/
def KpP (p : Addr) (H H' : Hp) : Prop := ∀ b o, H b = some o → b ≠ p → H' b = some o
section
variable {K : PySem.W.Frag} {H H' : Hp} {p a C dx : Addr} {fs : List (Str × V)}
theorem KpP.sqT {xs : List V} (e : KpP p H H') (hp : H p = some (.ins C dx fs)) (h : SqT K H a xs) : SqT K H' a xs := by
  have ne : ∀ {o}, H a = some o → (∀ z, o ≠ .ins C dx z) → a ≠ p := fun {o} h1 h3 z => by subst z; rw [h1] at hp; exact h3 _ (Option.some.inj hp)
  rcases h with (h | ⟨o, h⟩) | h
  · exact .inl (.inl (e _ _ h (ne h fun zs z => nomatch z)))
  · exact .inl (.inr ⟨o, e _ _ h (ne h fun zs z => nomatch z)⟩)
  · exact .inr h
theorem KpP.fr {v : V} {q : Rat} (e : KpP p H H') (hp : H p = some (.ins C dx fs)) (h : Fr K H v q) : Fr K H' v q := let ⟨a, h1, h2⟩ := h; ⟨a, h1, e.sqT hp h2⟩
theorem KpP.frS {vs : List V} {k : Nat} {f : Nat → Rat} (e : KpP p H H') (hp : H p = some (.ins C dx fs)) (h : FrS K H vs k f) : FrS K H' vs k f := ⟨h.1, fun j v hj => e.fr hp (h.2 j v hj)⟩
theorem KpP.lst {ws : List V} (e : KpP p H H') (hp : H p = some (.ins C dx fs)) (h : H a = some (.lst ws)) : H' a = some (.lst ws) :=
  e _ _ h (ne_of h hp (by intro z; cases z))
theorem KpP.frL {k : Nat} {f : Nat → Rat} (e : KpP p H H') (hp : H p = some (.ins C dx fs)) (h : FrL K H a k f) : FrL K H' a k f := let ⟨ws, h1, h2⟩ := h; ⟨ws, e.lst hp h1, e.frS hp h2⟩
theorem KpP.trans {H1 : Hp} (x : KpP p H H1) (y : KpP p H1 H') : KpP p H H' := fun b o h n => y b o (x b o h n) n
theorem KpP.of (x : Same H H') : KpP p H H' := fun b o h _ => x b o h
theorem KpP.upd {o : HO} : KpP p H (upd H p o) := fun b u h n => by rw [upd_ne n]; exact h
end
theorem tab0_lo {m n : Nat} {R : Nat → Nat → Rat} {g : Nat → Rat} {i j : Nat} (h : j < n) : (tab0 m n R g).r i j = R i j := if_pos h
theorem tab0_mid {m n : Nat} {R : Nat → Nat → Rat} {g : Nat → Rat} {i j : Nat} (h : j < m) : (tab0 m n R g).r i (n + j) = if i = j then 1 else 0 := by
  show (if n + j < n then _ else if n + j < n + m then (if i = n + j - n then (1 : Rat) else 0) else _) = _
  rw [if_neg (by omega), if_pos (by omega), show n + j - n = j by omega]
theorem tab0_hi {m n : Nat} {R : Nat → Nat → Rat} {g : Nat → Rat} {i : Nat} : (tab0 m n R g).r i (n + m) = g i := by
  show (if n + m < n then _ else if n + m < n + m then _ else g i) = _
  rw [if_neg (by omega), if_neg (by omega)]
theorem baseL_succ {i : Nat} {T : Tb} : baseL (i + 1) T = baseL i T ++ [.int (T.b i : Int)] := by
  unfold baseL
  rw [List.range_succ, List.map_append]
  rfl
section
variable {P : Program} {w : World} {K : PySem.W.Frag} {mg : Str → Option Value} {base : Heap}
abbrev nTIn : List Str := ["self", "rows", "numbers", "at", "row", "line", "place"]
theorem scTInit : FnScope nTIn ["self", "rows", "numbers"] (defScope sTInit) := ⟨rfl, rfl, rfl, by decide +kernel, rfl, by decide +kernel, by decide +kernel⟩
theorem ok_tinit {f C : Addr} {fd : FuncData} (F : Fun K "__init__" "Turns.__init__" sTInit f fd) (T : Tx K C) {z o : Addr} (mz : mg "ZERO" = some (.ref z)) (fz : ∀ H, Fr K H (.ref z) 0) (mo : mg "ONE" = some (.ref o)) (fo : ∀ H, Fr K H (.ref o) 1)
    (zN : mg "len" = none) (zE : mg "enumerate" = none) (zL : mg "list" = none) (zR : mg "range" = none) :
    FnOk P w K mg base CX0 1 f fd ["self", "rows", "numbers"] (spTInit K C) := by
  refine F.ok scTInit (fun vs H Q E h => ?_) (fun cdv A outer s H vs Q E hr h => ?_)
  · obtain ⟨p, dx, la, ga, m, n, R, g, rfl, _⟩ := h
    rfl
  · obtain ⟨p, dx, la, ga, m, n, R, g, rfl, hp, ⟨ls, hls, hll, hlr⟩, hg, hm0, hm, hn, k⟩ := h
    refine ⟨_, pss_cons (ps_asg (pe_tup (pa_cons (pe_callB call_len_seq (by rfl) zN PySem.boot_len (pa_cons (pv 1) pa_nil)) (pa_cons (pe_callB call_len_seq (by rfl) zN PySem.boot_len (pa_cons (pe_ix (r := rIxL K) ix_list (pv 1) pe_int (fun _ _ => rfl)) pa_nil)) pa_nil)))
        (pg_tup rfl (pgs_cons (pg_attr (pv 0)) (pgs_cons (pg_attr (pv 0)) pgs_nil))))
      (pss_cons (ps_asg (pe_tup (pa_cons (pe_lst pa_nil) (pa_cons (pe_lst pa_nil) pa_nil))) (pg_tup rfl (pgs_cons (pg_attr (pv 0)) (pgs_cons (pg_attr (pv 0)) pgs_nil))))
      (pss_one (ps_for PassesOwn.never rfl (pi_enum (by rfl) zE (pa_cons (pv 1) pa_nil)) (pg_tup rfl (pgs_cons (pg_name (i := 3) scTInit.nd rfl (.inr rfl)) (pgs_cons (pg_name (i := 4) scTInit.nd rfl (.inl rfl)) pgs_nil)))
        (pss_cons (ps_set (i := 5) scTInit.nd rfl (.inl rfl) (pe_op op_cat (pe_callTy call_list_of (by rfl) zL PyProof.Rows.boot_list (pa_cons (pv 4) pa_nil))
          (pe_lc (own := [("place", 6)]) (g := gName 6) (tt := tYes) rfl scTInit.nd (pi_range1 (by rfl) zR (pa_cons (pe_fld (pv 0) rfl) pa_nil))
            (blkOk_by (N := nTIn) (sc := defScope sTInit) (by decide +kernel))
            (fun _ _ _ _ _ => pg_name (i := 6) scTInit.nd rfl (.inl rfl)) (fun _ _ _ _ _ => pts_nil)
            (fun _ _ _ _ _ => pe_ifExp (pt_cmpR op_eq (pv 3) (pv 6) (nomark _)) (pe_glob (v := V.ref o) (by rfl) mo rfl) (pe_glob (v := V.ref z) (by rfl) mz rfl)))))
        (pss_cons (ps_expr (pe_bm PySem.F.plainAttrs_list PySem.F.slot_list_append PySem.F.type_list_append mt_append (pe_fld (pv 0) rfl) (pa_cons (pe_op op_cat (pv 5) (pe_lst (pa_cons (pe_ix (r := rIxL K) ix_list (pv 2) (pv 3) (fun _ _ => rfl)) pa_nil))) pa_nil)))
        (pss_one (ps_expr (pe_bm PySem.F.plainAttrs_list PySem.F.slot_list_append PySem.F.type_list_append mt_append (pe_fld (pv 0) rfl) (pa_cons (pe_op op_add (pe_fld (pv 0) rfl) (pv 3)) pa_nil))))))))), ?_⟩
    obtain ⟨a0, ea0, w0, hw0, fw0⟩ := FrM.row hll hlr hm0
    have nHM : ¬ (("high" : Str) = "many") := by decide +kernel
    have nHR : ¬ (("high" : Str) = "rows") := by decide +kernel
    have nHB : ¬ (("high" : Str) = "base") := by decide +kernel
    have nMR : ¬ (("many" : Str) = "rows") := by decide +kernel
    have nMB : ¬ (("many" : Str) = "base") := by decide +kernel
    have nRB : ¬ (("rows" : Str) = "base") := by decide +kernel
    refine ⟨_, rfl, la, ls, rfl, .inl (SqL.of hls), _, rfl, la, ls, _, _, rfl, rfl, SqL.of hls, atI_nat (j := 0) ea0, a0, w0, rfl, .inl (SqL.of hw0), sz2, fun t nt => ?_⟩
    rw [hll, fw0.1]
    have st := Same.upd (o := .tup [.int (m : Int), .int (n : Int)]) nt
    have ht : (upd H t (.tup [.int (m : Int), .int (n : Int)])) t = some (.tup [.int (m : Int), .int (n : Int)]) := upd_same
    generalize upd H t (.tup [.int (m : Int), .int (n : Int)]) = H1 at st ht
    refine ⟨t, _, rfl, SqT.of ht, rfl, _, _, rfl, _, rfl, p, C, dx, [], rfl, st _ _ hp, T.cl, T.nH, (by decide), ?_⟩
    refine ⟨_, _, rfl, _, rfl, p, C, dx, _, rfl, upd_same, T.cl, T.nM, (by show 1 < 1000; decide), rfl, ?_⟩
    rw [upd_upd]
    have k1 : KpP p H (upd H1 p (.ins C dx (putF "many" (.int (n : Int)) (putF "high" (.int (m : Int)) [])))) := (KpP.of st).trans KpP.upd
    have hp1 : (upd H1 p (.ins C dx (putF "many" (.int (n : Int)) (putF "high" (.int (m : Int)) [])))) p = some (.ins C dx [("high", .int (m : Int)), ("many", .int (n : Int))]) := by
      rw [upd_same]
      show some (HO.ins C dx (if ("high" : Str) = "many" then _ else _)) = _
      rw [if_neg nHM]; rfl
    generalize upd H1 p (.ins C dx (putF "many" (.int (n : Int)) (putF "high" (.int (m : Int)) []))) = H2 at k1 hp1
    refine ⟨by decide, fun r0 nr0 => ⟨by decide, fun b0 nb0 => ⟨sz2, fun t2 nt2 => ?_⟩⟩⟩
    have s3 := Same.upd (o := .lst []) nr0
    have hr3 : (upd H2 r0 (.lst [])) r0 = some (.lst []) := upd_same
    generalize upd H2 r0 (.lst []) = H3 at s3 hr3 nb0 nt2
    have s4 := Same.upd (o := .lst []) nb0
    have hb4 : (upd H3 b0 (.lst [])) b0 = some (.lst []) := upd_same
    generalize upd H3 b0 (.lst []) = H4 at s4 hb4 nt2
    have s5 := Same.upd (o := .tup [.ref r0, .ref b0]) nt2
    have ht5 : (upd H4 t2 (.tup [.ref r0, .ref b0])) t2 = some (.tup [.ref r0, .ref b0]) := upd_same
    generalize upd H4 t2 (.tup [.ref r0, .ref b0]) = H5 at s5 ht5
    have s25 := (s3.trans s4).trans s5
    have nrb : r0 ≠ b0 := ne_of_none hr3 nb0
    have nrp : r0 ≠ p := fun z => by subst z; rw [hp1] at nr0; cases nr0
    have nbp : b0 ≠ p := fun z => by subst z; rw [s3 _ _ hp1] at nb0; cases nb0
    have freeH : ∀ a, a ≠ p → H2 a = none → H a = none := fun a ne hn => by
      cases q : H a with
      | none => rfl
      | some o => rw [k1 a o q ne] at hn; cases hn
    have nr0H := freeH r0 nrp nr0
    have nb0H := freeH b0 nbp (s3.free nb0)
    refine ⟨t2, _, rfl, SqT.of ht5, rfl, _, _, rfl, _, rfl, p, C, dx, _, rfl, s25 _ _ hp1, T.cl, T.nR, (by show 2 < 1000; decide), ?_⟩
    refine ⟨_, _, rfl, _, rfl, p, C, dx, _, rfl, upd_same, T.cl, T.nB, Nat.lt_of_le_of_lt (length_putF _ _ _) (by show 3 < 1000; decide), rfl, ?_⟩
    rw [upd_upd]
    have k2 : KpP p H (upd H5 p (.ins C dx (putF "base" (.ref b0) (putF "rows" (.ref r0) [("high", .int (m : Int)), ("many", .int (n : Int))])))) := (k1.trans (.of s25)).trans KpP.upd
    have hp6 : (upd H5 p (.ins C dx (putF "base" (.ref b0) (putF "rows" (.ref r0) [("high", .int (m : Int)), ("many", .int (n : Int))])))) p = some (.ins C dx (tf m n r0 b0)) := by
      rw [upd_same]
      simp only [putF, if_neg nHR, if_neg nMR, if_neg nHB, if_neg nMB, if_neg nRB]
      rfl
    have hr6 : (upd H5 p (.ins C dx (putF "base" (.ref b0) (putF "rows" (.ref r0) [("high", .int (m : Int)), ("many", .int (n : Int))])))) r0 = some (.lst []) := by
      rw [upd_ne nrp]; exact s5 _ _ (s4 _ _ hr3)
    have hb6 : (upd H5 p (.ins C dx (putF "base" (.ref b0) (putF "rows" (.ref r0) [("high", .int (m : Int)), ("many", .int (n : Int))])))) b0 = some (.lst []) := by
      rw [upd_ne nbp]; exact s5 _ _ hb4
    generalize upd H5 p (.ins C dx (putF "base" (.ref b0) (putF "rows" (.ref r0) [("high", .int (m : Int)), ("many", .int (n : Int))]))) = H6 at k2 hp6 hr6 hb6
    obtain ⟨wg, hwg, fwg⟩ := id hg
    refine ⟨_, rfl, la, ls, rfl, SqL.of (k2.lst hp hls), for_it (walk_enum (K := K) (a := la) (xs := ls))
      (fun i σ H7 => KpP p H H7 ∧ (∃ o1 o2 o3, σ = [some (.ref p), some (.ref la), some (.ref ga), o1, o2, o3, none]) ∧ H7 p = some (.ins C dx (tf m n r0 b0)) ∧ H7 b0 = some (.lst (baseL i (tab0 m n R g))) ∧
        ∃ rs, H7 r0 = some (.lst rs) ∧ rs.length = i ∧ ∀ k v, rs[k]? = some v → ∃ ad, v = .ref ad ∧ ad ≠ r0 ∧ ad ≠ b0 ∧ FrL K H7 ad (n + m + 1) ((tab0 m n R g).r k))
      ⟨k2, ⟨none, none, none, rfl⟩, hp6, hb6, [], hr6, rfl, fun k v e => by simp at e⟩ (fun i σ H7 _ h => SqL.of (h.1.lst hp hls)) ?_ ?_⟩
    · rintro i x σ H7 H8 hi ⟨k7, ⟨o1, o2, o3, rfl⟩, hp7, hb7, rs, hr7, hrl, hrr⟩ ⟨t3, x1, x2, rfl, nt3, rfl, e1, e2⟩
      have him : i < m := by omega
      have e1' : x1 = .int (i : Int) := (Option.some.inj e1).symm
      subst e1'
      obtain ⟨ai, eai, rowi⟩ := FrM.row hll hlr him
      have e2' : x2 = .ref ai := by
        have e2 : ls[i]? = some x2 := e2
        rw [eai] at e2
        exact (Option.some.inj e2).symm
      subst e2'
      have s8 := Same.upd (o := .tup [.int (i : Int), .ref ai]) nt3
      have ht8 : (upd H7 t3 (.tup [.int (i : Int), .ref ai])) t3 = some (.tup [.int (i : Int), .ref ai]) := upd_same
      generalize upd H7 t3 (.tup [.int (i : Int), .ref ai]) = H8 at s8 ht8
      have k8 := k7.trans (.of s8)
      obtain ⟨wi, hwi, fwi⟩ := k8.frL hp rowi
      refine ⟨t3, _, rfl, SqT.of ht8, rfl, _, _, rfl, _, _, rfl, rfl, ?_⟩
      refine ⟨_, rfl, ai, wi, rfl, .inl (SqL.of hwi), fun l1 nl1 => ?_⟩
      have s9 := Same.upd (o := .lst wi) nl1
      have hl9 : (upd H8 l1 (.lst wi)) l1 = some (.lst wi) := upd_same
      generalize upd H8 l1 (.lst wi) = H9 at s9 hl9
      have s79 := s8.trans s9
      refine ⟨_, rfl, p, C, dx, _, _, rfl, s79 _ _ hp7, T.cl, T.nH, tf_high, (m : Int), rfl, by omega, by omega, fun D nD => lcF (K := K) (walk_range (lo := 0) (n := (m : Int).toNat)) (fun j => if i = j then 1 else 0) nD (by omega) (fun _ _ => True.intro) ?_ ?_⟩
      · rintro j x Ha Hb Q' hj sa ⟨rfl, rfl⟩ kk
        rw [Int.toNat_natCast] at hj
        refine ⟨rfl, ?_⟩
        refine ⟨_, rfl, _, rfl, rfl, _, rfl, ite2 (fun hc => ?_) fun hc => ?_⟩
        · have e : i = j := by
            have := V.int.inj (of_decide_eq_true hc)
            omega
          refine kk _ _ (Same.refl _) ?_
          simp only [if_pos e]
          exact fo _
        · have e : ¬ i = j := fun z => hc (decide_eq_true (by rw [z]; exact congrArg V.int (by omega)))
          refine kk _ _ (Same.refl _) ?_
          simp only [if_neg e]
          exact fz _
      · rintro Ha acc sa hDa hfa
        rw [Int.toNat_natCast] at hfa
        have s7a := s79.trans sa
        refine ⟨l1, D, wi, acc, rfl, rfl, sa _ _ hl9, hDa, Nat.le_of_lt (small1000 (by rw [fwi.1, hfa.1]; omega)), fun l2 nl2 => ?_⟩
        have sb := Same.upd (o := .lst (wi ++ acc)) nl2
        have hlb : (upd Ha l2 (.lst (wi ++ acc))) l2 = some (.lst (wi ++ acc)) := upd_same
        generalize upd Ha l2 (.lst (wi ++ acc)) = Hb at sb hlb
        have s7b := s7a.trans sb
        obtain ⟨vg, evg, frg⟩ := fwg.at him
        have k7b := k7.trans (.of s7b)
        have frgb := k7b.fr hp frg
        refine ⟨_, rfl, p, C, dx, _, _, rfl, s7b _ _ hp7, T.cl, T.nR, tf_rows, .inl ⟨rfl, _, SqL.of (s7b _ _ hr7)⟩, ?_⟩
        refine ⟨_, rfl, _, rfl, _, rfl, ga, wg, _, _, rfl, rfl, SqL.of (k7b.lst hp hwg), atI_nat evg, (by decide : (1 : Nat) ≤ sizeLine), fun l3 nl3 => ?_⟩
        have sc := Same.upd (o := .lst [vg]) nl3
        have hlc : (upd Hb l3 (.lst [vg])) l3 = some (.lst [vg]) := upd_same
        generalize upd Hb l3 (.lst [vg]) = Hc at sc hlc
        refine ⟨l2, l3, _, _, rfl, rfl, sc _ _ hlb, hlc, Nat.le_of_lt (small1000 (by rw [List.length_append, fwi.1, hfa.1]; show n + m + 1 ≤ 1000; omega)), fun l4 nl4 => ?_⟩
        have sd := Same.upd (o := .lst (wi ++ acc ++ [vg])) nl4
        have hld : (upd Hc l4 (.lst (wi ++ acc ++ [vg]))) l4 = some (.lst (wi ++ acc ++ [vg])) := upd_same
        generalize upd Hc l4 (.lst (wi ++ acc ++ [vg])) = Hd at sd hld
        have sbd := sc.trans sd
        have s7d := s7b.trans sbd
        have hrd := s7d _ _ hr7
        have hbd := s7d _ _ hb7
        have row : FrL K Hd l4 (n + m + 1) ((tab0 m n R g).r i) := by
          refine ⟨_, hld, ?_⟩
          have f1 := FrS.app (h := (tab0 m n R g).r i) ((((fwi.same s9).same sa).same sb).same sbd) ((hfa.same sb).same sbd) (fun j hj => tab0_lo hj) (fun j hj => tab0_mid hj)
          refine f1.snoc ?_
          rw [tab0_hi]
          exact frgb.same sbd
        have n41 : l4 ≠ r0 := fun z => by subst z; rw [(s7b.trans sc) _ _ hr7] at nl4; cases nl4
        have n42 : l4 ≠ b0 := fun z => by subst z; rw [(s7b.trans sc) _ _ hb7] at nl4; cases nl4
        refine ⟨r0, rs, _, rfl, rfl, hrd, small1000 (by omega), ?_⟩
        have kr : KpD r0 Hd (upd Hd r0 (.lst (rs ++ [.ref l4]))) := ⟨⟨_, hrd⟩, fun b o ne e => by rw [upd_ne ne]; exact e⟩
        have hre : (upd Hd r0 (.lst (rs ++ [.ref l4]))) r0 = some (.lst (rs ++ [.ref l4])) := upd_same
        generalize upd Hd r0 (.lst (rs ++ [.ref l4])) = He at kr hre
        have hpe := kr.2 _ _ (Ne.symm nrp) (s7d _ _ hp7)
        have hbe := kr.2 _ _ (Ne.symm nrb) hbd
        refine ⟨_, rfl, p, C, dx, _, _, rfl, hpe, T.cl, T.nB, tf_base, .inl ⟨rfl, _, SqL.of hbe⟩, ?_⟩
        refine ⟨_, rfl, p, C, dx, _, _, rfl, hpe, T.cl, T.nM, tf_many, _, rfl, _, _, rfl, rfl, b0, _, _, rfl, rfl, hbe, small1000 (by rw [baseL_len]; omega), ?_⟩
        have kb : KpD b0 He (upd He b0 (.lst (baseL i (tab0 m n R g) ++ [.int ((n : Int) + (i : Int))]))) := ⟨⟨_, hbe⟩, fun b o ne e => by rw [upd_ne ne]; exact e⟩
        have hbf : (upd He b0 (.lst (baseL i (tab0 m n R g) ++ [.int ((n : Int) + (i : Int))]))) b0 = some (.lst (baseL (i + 1) (tab0 m n R g))) := by
          rw [upd_same, baseL_succ]
          exact congrArg (fun z : Int => some (HO.lst (_ ++ [V.int z]))) (show (n : Int) + (i : Int) = ((n + i : Nat) : Int) by omega)
        generalize upd He b0 (.lst (baseL i (tab0 m n R g) ++ [.int ((n : Int) + (i : Int))])) = Hf at kb hbf
        have kall : KpP p H Hf := fun b o e ne => by
          have x1 := (k7.trans (.of s7d)) b o e ne
          have ne1 : b ≠ r0 := ne_of_none e nr0H
          have ne2 : b ≠ b0 := ne_of_none e nb0H
          exact kb.2 _ _ ne2 (kr.2 _ _ ne1 x1)
        refine ⟨kall, ⟨_, _, _, rfl⟩, kb.2 _ _ (Ne.symm nbp) hpe, hbf, _, kb.2 _ _ nrb hre, by rw [List.length_append, hrl]; rfl, fun j v e => ?_⟩
        by_cases hj : j < rs.length
        · rw [List.getElem?_append_left hj] at e
          obtain ⟨ad, e', m1, m2, fr'⟩ := hrr j v e
          exact ⟨ad, e', m1, m2, kb.frL m2 (kr.frL m1 (fr'.same s7d))⟩
        · rw [List.getElem?_append_right (by omega)] at e
          have hz : j - rs.length = 0 := by
            by_cases z : j - rs.length = 0
            · exact z
            · rw [List.getElem?_eq_none (by simp; omega)] at e
              cases e
          rw [hz] at e
          have ev : V.ref l4 = v := by simpa using e
          have ej : j = i := by omega
          subst ev ej
          exact ⟨l4, rfl, n41, n42, kb.frL n42 (kr.frL n41 row)⟩
    · rintro σ H7 ⟨k7, ⟨o1, o2, o3, rfl⟩, hp7, hb7, rs, hr7, hrl, hrr⟩
      rw [hll] at hb7 hrl
      refine k H7 b0 k7 nb0H ⟨⟨dx, r0, rs, hp7, hr7, hrl, fun i v e => ?_⟩, hb7⟩
      obtain ⟨ad, e1, _, _, e4⟩ := hrr i v e
      exact ⟨ad, e1, e4⟩
end
end K1
set_option Elab.async false
set_option linter.all false
set_option maxRecDepth 100000
namespace K1
open PySem L2 Kz Sx
abbrev sSigns : Stmt := top 16
abbrev sLed : Stmt := top 17
abbrev sFitted : Stmt := top 18
abbrev sLeast : Stmt := top 19
def sg (g : Nat → Rat) (k : Nat) : Rat := if g k < 0 then -1 else 1
theorem sg_sq (g : Nat → Rat) (k : Nat) : sg g k * sg g k = 1 := by unfold sg; split <;> grind
theorem sg_nn (g : Nat → Rat) (k : Nat) : 0 ≤ sg g k * g k := by unfold sg; split <;> grind
theorem sg_ne (g : Nat → Rat) (k : Nat) : sg g k ≠ 0 := by unfold sg; split <;> grind
theorem sg_sz (g : Nat → Rat) (k : Nat) : Sm 1 (sg g k) := by unfold sg; split <;> exact ⟨by decide, by decide⟩
theorem sg_bd {g : Nat → Rat} {k : Nat} {b : Nat} {q : Rat} (h : Bd b q) : Bd b (sg g k * q) := by
  obtain ⟨z, rfl, hz⟩ := h
  unfold sg
  split
  · exact ⟨-z, by rw [Rat.intCast_neg]; grind, by omega⟩
  · exact ⟨z, by grind, hz⟩
def R0 (R : Nat → Nat → Rat) (g : Nat → Rat) : Nat → Nat → Rat := fun i j => sg g i * R i j
def g0 (g : Nat → Rat) : Nat → Rat := fun i => sg g i * g i
def Fe (m n : Nat) (R : Nat → Nat → Rat) (g x : Nat → Rat) : Prop := (∀ j, j < n → 0 ≤ x j) ∧ ∀ k, k < m → sm n (fun j => R k j * x j) = g k
def Du (m n : Nat) (R : Nat → Nat → Rat) (c y : Nat → Rat) : Prop := ∀ j, j < n → sm m (fun k => y k * R k j) ≤ c j
abbrev T0 (m n : Nat) (R : Nat → Nat → Rat) (g : Nat → Rat) : Tb := tab0 m n (R0 R g) (g0 g)
/-- rows and numbers that are small -/
structure Sml (m n : Nat) (R : Nat → Nat → Rat) (g : Nat → Rat) : Prop where
  hm : m = 1 ∨ m = 2 ∨ m = 3
  hn : n ≤ 4
  bR : ∀ i, i < m → ∀ j, j < n → Bd Bq (R i j * 4)
  bg : ∀ i, i < m → Bd Bq (g i * 4)
section
variable {m n : Nat} {R : Nat → Nat → Rat} {g c x y : Nat → Rat}
theorem tab0_one {S : Nat → Nat → Rat} {d : Nat → Rat} {i k : Nat} (hk : k < m) : (tab0 m n S d).r i (n + k) = if i = k then 1 else 0 := tab0_mid hk
theorem gd0 (S : Sml m n R g) : Gd m n (T0 m n R g).r (T0 m n R g) where
  hm := S.hm
  hn := S.hn
  val := {
    bl := fun i hi => by show n + i < n + m; omega
    id := fun i hi k hk => tab0_one hk
    cm := fun i hi j hj => by
      rw [sm_one (k := i) m hi fun k hk ne => by rw [tab0_one hk, if_neg (fun z => ne z.symm)]; grind]
      rw [tab0_one hi, if_pos rfl]; grind
    iv := fun k hk j hj => by
      rw [sm_one (k := k) m hk fun i hi ne => by
        show (T0 m n R g).r k (n + i) * _ = 0
        rw [tab0_one hi, if_neg (fun z => ne z.symm)]; grind]
      show _ = (T0 m n R g).r k (n + k) * _
      rw [tab0_one hk, if_pos rfl]; grind }
  nn := fun i hi => by rw [tab0_hi]; exact sg_nn g i
  bd := fun k hk j hj => by
    by_cases h1 : j < n
    · rw [tab0_lo h1]
      have := sg_bd (g := g) (k := k) (S.bR k hk j h1)
      show Bd Bq (sg g k * R k j * 4)
      rw [show sg g k * R k j * 4 = sg g k * (R k j * 4) by grind]
      exact this
    · by_cases h2 : j < n + m
      · obtain ⟨l, rfl⟩ : ∃ l, j = n + l := ⟨j - n, by omega⟩
        rw [tab0_one (by omega)]
        split
        · exact ⟨4, by grind, by decide⟩
        · exact ⟨0, by grind, by decide⟩
      · have : j = n + m := by omega
        subst this
        rw [tab0_hi]
        have := sg_bd (g := g) (k := k) (S.bg k hk)
        show Bd Bq (sg g k * g k * 4)
        rw [show sg g k * g k * 4 = sg g k * (g k * 4) by grind]
        exact this
theorem feA_iff : FeA m n (T0 m n R g).r x ↔ Fe m n R g x := by
  have e : ∀ k, sm n (fun j => (T0 m n R g).r k j * x j) = sg g k * sm n (fun j => R k j * x j) := fun k => by
    rw [← sm_mul]
    exact sm_ext n fun j hj => by rw [tab0_lo hj]; show sg g k * R k j * x j = _; grind
  refine ⟨fun h => ⟨h.1, fun k hk => ?_⟩, fun h => ⟨h.1, fun k hk => ?_⟩⟩
  · have h2 := h.2 k hk
    rw [e, tab0_hi] at h2
    have h2 : sg g k * sm n (fun j => R k j * x j) = sg g k * g k := h2
    have h3 := sg_sq g k
    generalize sm n (fun j => R k j * x j) = u at *
    generalize sg g k = s at *
    grind
  · rw [e, tab0_hi, h.2 k hk]
    rfl
theorem duA_iff : DuA m n (T0 m n R g).r c y ↔ Du m n R c (fun k => sg g k * y k) := by
  have e : ∀ j, j < n → sm m (fun k => y k * (T0 m n R g).r k j) = sm m (fun k => sg g k * y k * R k j) := fun j hj =>
    sm_ext m fun k _ => by rw [tab0_lo hj]; show y k * (sg g k * R k j) = _; grind
  exact ⟨fun h j hj => by rw [← e j hj]; exact h j hj, fun h j hj => by rw [e j hj]; exact h j hj⟩
end
/-- a tuple of tuples of fractions -/
def FrMT (K : PySem.W.Frag) (H : Hp) (v : V) (m n : Nat) (R : Nat → Nat → Rat) : Prop := ∃ a ls, v = .ref a ∧ SqT K H a ls ∧ ls.length = m ∧ ∀ i u, ls[i]? = some u → FrA true K H u n (R i)
theorem FrMT.same {K : PySem.W.Frag} {H H' : Hp} {v : V} {m n : Nat} {R : Nat → Nat → Rat} (e : Same H H') (h : FrMT K H v m n R) : FrMT K H' v m n R := by
  obtain ⟨a, ls, h1, h2, h3, h4⟩ := h
  exact ⟨a, ls, h1, Same.sqT e h2, h3, fun i u hu => (h4 i u hu).same e⟩
def spSigns (K : PySem.W.Frag) : Sp := fun vs H Q _ => ∃ v m g, vs = [v] ∧ FrA true K H v m g ∧ m ≤ 10 ∧ ∀ H' a, Same H H' → FrL K H' a m (sg g) → Q (.ref a) H'
def spLed (K : PySem.W.Frag) : Sp := fun vs H Q _ => ∃ u v m n R g, vs = [u, v] ∧ FrMT K H u m n R ∧ FrA true K H v m g ∧ m ≤ 3 ∧ n ≤ 4 ∧ (∀ i, i < m → ∀ j, j < n → Sm 100 (R i j)) ∧ (∀ i, i < m → Sm 100 (g i)) ∧
  ∀ H' t la ga, Same H H' → H' t = some (.tup [.ref la, .ref ga]) → FrM K H' la m n (R0 R g) → FrL K H' ga m (g0 g) → Q (.ref t) H'
section
variable {P : Program} {w : World} {K : PySem.W.Frag} {mg : Str → Option Value} {base : Heap}
theorem scSigns : FnScope ["numbers", "number"] ["numbers"] (defScope sSigns) := ⟨rfl, rfl, rfl, by decide +kernel, rfl, by decide +kernel, by decide +kernel⟩
theorem ok_signs {f : Addr} {fd : FuncData} (F : Fun K "signs_of" "signs_of" sSigns f fd) {o : Addr} (mo : mg "ONE" = some (.ref o)) (fo : ∀ H, Fr K H (.ref o) 1) : FnOk P w K mg base CX0 1 f fd ["numbers"] (spSigns K) := by
  refine F.ok scSigns (fun vs H Q E h => ?_) (fun cdv A outer s H vs Q E hr h => ?_)
  · obtain ⟨v, m, g, rfl, _⟩ := h
    rfl
  · obtain ⟨v, m, g, rfl, ⟨a, ws, rfl, hS, hF⟩, hm, k⟩ := h
    refine ⟨_, pss_one (ps_ret (pe_lc (own := [("number", 1)]) (g := gName 1) (tt := tYes) rfl scSigns.nd (pi_tup (pv 0))
      (blkOk_by (N := ["numbers", "number"]) (sc := defScope sSigns) (by decide +kernel))
      (fun _ _ _ _ _ => pg_name (i := 1) scSigns.nd rfl (.inl rfl)) (fun _ _ _ _ _ => pts_nil)
      (fun _ _ _ _ _ => pe_ifExp (pt_cmpR op_lt (pe_ix (r := rIxT K) ix_tup (pv 1) pe_int (fun _ _ => rfl)) pe_int (nomark _)) (pe_tup (pa_cons (pe_un un_neg pe_int) (pa_cons pe_int pa_nil))) (pe_glob (v := V.ref o) (by rfl) mo rfl)))), ?_⟩
    refine ⟨_, rfl, a, rfl, ⟨_, hS⟩, fun D nD => lcF (K := K) (walk_tup (K := K) (a := a) (xs := ws)) (sg g) nD (by rw [hF.1]; omega) (fun H1 s1 => Same.sqT s1 hS) ?_ ?_⟩
    · rintro i x H1 H2 Q' hi s1 ⟨rfl, hx⟩ kk
      obtain ⟨b, rfl, hb⟩ := (hF.2 i _ hx).same s1
      refine ⟨rfl, ?_⟩
      refine ⟨_, rfl, b, _, _, _, rfl, rfl, hb, at0, _, _, rfl, rfl, _, rfl, ?_⟩
      by_cases hneg : g i < 0
      · rw [decide_eq_true (num_neg.mpr hneg)]
        refine iteT ⟨1, rfl, sz2, fun t nt => ?_⟩
        refine kk _ _ (Same.upd nt) ⟨t, rfl, SqT.of ?_⟩
        rw [upd_same]
        unfold sg
        rw [if_pos hneg]
        rfl
      · rw [decide_eq_false (fun z => hneg (num_neg.mp z))]
        refine iteF (kk _ _ (Same.refl _) ?_)
        unfold sg
        rw [if_neg hneg]
        exact fo _
    · rintro H1 acc s1 hD hf
      rw [hF.1] at hf
      exact k H1 D s1 ⟨acc, hD, hf⟩
abbrev nLed : List Str := ["rows", "numbers", "signs", "lines", "sign", "row", "one", "number"]
theorem scLed : FnScope nLed ["rows", "numbers"] (defScope sLed) := ⟨rfl, rfl, rfl, by decide +kernel, rfl, by decide +kernel, by decide +kernel⟩
theorem ok_led {f : Addr} {fd : FuncData} (F : Fun K "led_up" "led_up" sLed f fd) (DS : Df P w K mg base CX0 1 "signs_of" ["numbers"] (spSigns K)) (DT : Df P w K mg base CX0 3 "times" ["one", "other"] (spBin K (fun _ _ => True) fun p q => p * q)) (zZ : mg "zip" = none) :
    FnOk P w K mg base CX0 4 f fd ["rows", "numbers"] (spLed K) := by
  refine F.ok scLed (fun vs H Q E h => ?_) (fun cdv A outer s H vs Q E hr h => ?_)
  · obtain ⟨u, v, m, n, R, g, rfl, _⟩ := h
    rfl
  · obtain ⟨u, v, m, n, R, g, rfl, ⟨ra, ls, rfl, hS, hl, hrow⟩, ⟨na, ws, rfl, hN, hF⟩, hm, hn, zR, zg, k⟩ := h
    refine ⟨_, pss_cons (ps_set (i := 2) scLed.nd rfl (.inl rfl) (pe_callD DS hr (by decide) (by rfl) pass0 (pa_cons (pv 1) pa_nil)))
      (pss_cons (ps_setLc (own := [("sign", 4), ("row", 5)]) (i := 3) (g := gTup K 2 (gCons (gName 4) (gCons (gName 5) gNil))) (tt := tYes) rfl scLed.nd rfl rfl (sw_true rfl rfl rfl (by decide +kernel))
        (pi_zipM (by rfl) zZ (pa_cons (pv 2) (pa_cons (pv 0) pa_nil)))
        (blkOk_by (N := nLed) (sc := defScope sLed) (by decide +kernel))
        (fun _ _ _ _ _ => pg_tup rfl (pgs_cons (pg_name (i := 4) scLed.nd rfl (.inr rfl)) (pgs_cons (pg_name (i := 5) scLed.nd rfl (.inl rfl)) pgs_nil)))
        (fun _ _ _ _ _ => pts_nil)
        (fun _ _ _ _ _ => pe_lc (own := [("one", 6)]) (wi := iTup K (tVar 5)) (g := gName 6) (tt := tYes) (te := tCall (spBin K (fun _ _ => True) fun p q => p * q) [] E0 (tCons (tVar 4) (tCons (tVar 6) tNil))) rfl scLed.nd (pi_tup (pv 5))
          (blkOk_by (by rfl)) (fun _ _ _ _ _ => pg_name (i := 6) scLed.nd rfl (.inl rfl)) (fun _ _ _ _ _ => pts_nil)
          (fun _ _ _ _ _ => pe_callD DT hr (by decide) (by rfl) pass0 (pa_cons (pv 4) (pa_cons (pv 6) pa_nil)))))
      (pss_one (ps_ret (pe_tup (pa_cons (pv 3) (pa_cons
        (pe_lc (own := [("sign", 4), ("number", 7)]) (g := gTup K 2 (gCons (gName 4) (gCons (gName 7) gNil))) (tt := tYes) rfl scLed.nd
          (pi_zipM (by rfl) zZ (pa_cons (pv 2) (pa_cons (pv 1) pa_nil)))
          (blkOk_by (N := nLed) (sc := defScope sLed) (by decide +kernel))
          (fun _ _ _ _ _ => pg_tup rfl (pgs_cons (pg_name (i := 4) scLed.nd rfl (.inl rfl)) (pgs_cons (pg_name (i := 7) scLed.nd rfl (.inl rfl)) pgs_nil)))
          (fun _ _ _ _ _ => pts_nil)
          (fun _ _ _ _ _ => pe_callD DT hr (by decide) (by rfl) pass0 (pa_cons (pv 4) (pa_cons (pv 7) pa_nil)))) pa_nil)))))), ?_⟩
    refine ⟨_, rfl, _, m, g, rfl, ⟨na, ws, rfl, hN, hF⟩, by omega, fun H1 sa s1 fsg => ?_⟩
    obtain ⟨wsg, hsg, fwsg⟩ := id fsg
    refine ⟨_, rfl, _, rfl, false, true, sa, ra, wsg, ls, rfl, SqL.of hsg, Same.sqT s1 hS, fun D nD => lcR (walkM fwsg.1 hl) (fun i y Hh => ∃ ad, y = .ref ad ∧ ad ≠ D ∧ FrL K Hh ad n (R0 R g i)) (fun i y Ha Hb kp ⟨ad, e1, e2, e3⟩ => ⟨ad, e1, e2, kp.frL e2 e3⟩) nD (by omega)
      (fun H2 s2 => ⟨SqL.of (s2 _ _ hsg), Same.sqT (s1.trans s2) hS⟩) ?_ ?_⟩
    · rintro i x H2 H3 Q' hi s2 ⟨xs0, hD0⟩ ⟨t, y1, y2, rfl, nt, rfl, e1, e2⟩ kk
      have st := Same.upd (o := .tup [y1, y2]) nt
      have ht : (upd H2 t (.tup [y1, y2])) t = some (.tup [y1, y2]) := upd_same
      generalize upd H2 t (.tup [y1, y2]) = H3 at st ht
      have f1 := ((fwsg.2 i _ e1).same s2).same st
      obtain ⟨rb, wr, rfl, hwr, fwr⟩ := (((hrow i _ e2).same s1).same s2).same st
      refine ⟨t, _, rfl, SqT.of ht, rfl, _, _, rfl, _, _, rfl, rfl, rfl, ?_⟩
      refine ⟨_, rfl, rb, rfl, ⟨_, hwr⟩, fun D2 nD2 => lcF (K := K) (walk_tup (K := K) (a := rb) (xs := wr)) (R0 R g i) nD2 (by rw [fwr.1]; omega) (fun H4 s4 => Same.sqT s4 hwr) ?_ ?_⟩
      · rintro j x H4 H5 Q2 hj s4 ⟨rfl, hx⟩ kk2
        rw [fwr.1] at hj
        refine ⟨rfl, ?_⟩
        refine ⟨_, rfl, _, rfl, _, _, _, _, rfl, f1.same s4, (fwr.2 j _ hx).same s4, (sg_sz g i).mono (by decide), (zR i hi j hj).mono (by decide), True.intro, fun H6 r s6 fr => kk2 _ _ s6 fr⟩
      · rintro H4 acc s4 hD4 hf4
        rw [fwr.1] at hf4
        refine kk _ _ (st.trans s4) ⟨D2, rfl, fun z => ?_, acc, hD4, hf4⟩
        subst z
        rw [st _ _ hD0] at nD2
        cases nD2
    · rintro H2 acc s2 hD2 hlen hR2
      have hDf : FrM K H2 D m n (R0 R g) := ⟨acc, hD2, hlen, fun i v hv => let ⟨ad, e1, _, e3⟩ := hR2 i v hv; ⟨ad, e1, e3⟩⟩
      refine ⟨_, rfl, ?_⟩
      have s12 := s1.trans s2
      refine ⟨_, rfl, _, rfl, false, true, sa, na, wsg, ws, rfl, SqL.of (s2 _ _ hsg), Same.sqT s12 hN, fun D3 nD3 => lcF (K := K) (walkM fwsg.1 hF.1) (g0 g) nD3 (by omega) (fun H3 s3 => ⟨SqL.of (s3 _ _ (s2 _ _ hsg)), Same.sqT (s12.trans s3) hN⟩) ?_ ?_⟩
      · rintro i x H3 H4 Q' hi s3 ⟨t, y1, y2, rfl, nt, rfl, e1, e2⟩ kk
        have st := Same.upd (o := .tup [y1, y2]) nt
        have s4 := s3.trans st
        refine ⟨t, _, rfl, SqT.of upd_same, rfl, _, _, rfl, _, _, rfl, rfl, rfl, ?_⟩
        refine ⟨_, rfl, _, rfl, _, _, _, _, rfl, ((fwsg.2 i _ e1).same s2).same s4, ((hF.2 i _ e2).same s12).same s4, (sg_sz g i).mono (by decide), (zg i hi).mono (by decide), True.intro, fun H5 r s5 fr => kk _ _ (st.trans s5) fr⟩
      · rintro H3 acc3 s3 hD3 hf3
        refine ⟨sz2, fun t nt => ?_⟩
        have st := Same.upd (o := .tup [.ref D, .ref D3]) nt
        exact k _ t D D3 ((s12.trans s3).trans st) upd_same ((hDf.same s3).same st) ⟨acc3, st _ _ hD3, hf3.same st⟩
end
end K1
set_option Elab.async false
set_option linter.all false
set_option maxRecDepth 100000
namespace K1
open PySem L2 Kz Sx
/-! ### a class by its name -/
structure Dk (P : Program) (w : World) (K : PySem.W.Frag) (mg : Str → Option Value) (base : Heap) (C : Addr) (k : Nat) (x : Str) (ps : List Str) (sp : Sp) : Prop where
  ex : ∃ (f : Addr) (fd : FuncData), FnOk P w K mg base CX0 k f fd ps sp ∧ Mk K C f ∧ mg x = some (.ref C) ∧ Binds K fd ps []
theorem pe_makeD {X : Cx} {C : Addr} {k j : Nat} {x : Str} {ps : List Str} {sp : Sp} {e : Expr} {es : List Expr} {t : TA} {p pos : Pos} (D : Dk X.prog X.w X.K X.mg X.base C k x ps sp) (hr : Room j X.A) (hk : k + 1 ≤ j) (hg : Gl X x) (ha : PA X (e :: es) t) (hdb : (x == ("__debug__" : Str)) = false := by decide)
    (he : starEach (e :: es) X.env = (false, eval e X.env) :: starEach es X.env := by rfl) (hpl : (backTo pos (starEach es X.env)).any (·.1) = false := by rfl) : PE X (.Call (.Name x p) (e :: es) [] pos) (tMake C sp [] E0 t) := by
  obtain ⟨f, fd, F, M, hm, hb⟩ := D.ex
  exact pe_make M F (hr.mono hk) hg hm hb .nil pass0 ha hdb he hpl
theorem KpT.frT {K : PySem.W.Frag} {H H' : Hp} {p ba C dx : Addr} {fs : List (Str × V)} {bs : List V} {v : V} {k : Nat} {f : Nat → Rat} (e : KpT p ba H H') (hp : H p = some (.ins C dx fs)) (hb : H ba = some (.lst bs)) (h : FrA true K H v k f) : FrA true K H' v k f := by
  obtain ⟨a, vs, h1, h2, h3⟩ := h
  exact ⟨a, vs, h1, e.sqT hp hb h2, e.frS hp hb h3⟩
theorem sameK {H H3 H4 : Hp} {p ba : Addr} (s : Same H H3) (k : KpT p ba H3 H4) (n1 : H p = none) (n2 : H ba = none) : Same H H4 := fun b o e => k b o (s b o e) (ne_of_none e n1) (ne_of_none e n2)
theorem csz1 {m n : Nat} : CSz (n + m) (c1 m n) where
  sz := fun j _ => by unfold c1; split <;> (try split) <;> exact ⟨by decide, by decide⟩
  zr := c1_N
theorem ones {K : PySem.W.Frag} {H : Hp} {m n : Nat} {z o : Addr} (fz : Fr K H (.ref z) 0) (fo : Fr K H (.ref o) 1) : FrS K H (List.replicate n (V.ref z) ++ List.replicate m (V.ref o)) (n + m) (c1 m n) :=
  FrS.app (FrS.rep fz) (FrS.rep fo) (fun j hj => c1_lo hj) (fun j hj => c1_hi (by omega) (by omega))
theorem bd_sm {q : Rat} (h : Bd Bq (q * 4)) : Sm 100 q := by
  have := sz_of (X := Bq) (q := q) (p := q * 4) (d := 4) h ⟨4, by rfl, by decide⟩ (by grind) rfl
  exact ⟨Nat.lt_of_le_of_lt this.1 (by decide), Nat.lt_of_le_of_lt this.2 (by decide)⟩
/-- what is known of rows and numbers in the heap -/
structure Inp (K : PySem.W.Frag) (H : Hp) (u v : V) (m n : Nat) (R : Nat → Nat → Rat) (g : Nat → Rat) : Prop where
  rows : FrMT K H u m n R
  nums : FrA true K H v m g
  sml : Sml m n R g
def spFitted (K : PySem.W.Frag) : Sp := fun vs H Q _ => ∃ u v m n R g, vs = [u, v] ∧ Inp K H u v m n R g ∧
  (∀ H' t y, Same H H' → H' t = some (.tup [.str "bar", y]) → (∀ x, ¬ Fe m n R g x) → Q (.ref t) H') ∧ (∀ H' t y, Same H H' → H' t = some (.tup [.str "x", y]) → (∃ x, Fe m n R g x) → Q (.ref t) H')
theorem fac_sz {m n k : Nat} {c : Nat → Rat} {T : Tb} (S : TSz m n T) (Z : CSz (n + m) c) (hk : k < m) : Sm 1000 (fac m n c T k) := by
  have e : c (n + k) - line m c T (n + k) = fac m n c T k := by unfold line fac; grind
  rw [← e]
  exact ((Z.sz _ (by omega)).sub (line_sz S Z (by omega))).mono (by decide)
theorem Inp.same {K : PySem.W.Frag} {H H' : Hp} {u v : V} {m n : Nat} {R : Nat → Nat → Rat} {g : Nat → Rat} (e : Same H H') (h : Inp K H u v m n R g) : Inp K H' u v m n R g := ⟨h.rows.same e, h.nums.same e, h.sml⟩
section
variable {P : Program} {w : World} {K : PySem.W.Frag} {mg : Str → Option Value} {base : Heap}
abbrev nFit : List Str := ["rows", "numbers", "lines", "goals", "turns", "first", "sign", "one"]
theorem scFitted : FnScope nFit ["rows", "numbers"] (defScope sFitted) := ⟨rfl, rfl, rfl, by decide +kernel, rfl, by decide +kernel, by decide +kernel⟩
theorem ok_fitted {f C : Addr} {fd : FuncData} (F : Fun K "fitted" "fitted" sFitted f fd) (T : Tx K C) (DU : Df P w K mg base CX0 4 "led_up" ["rows", "numbers"] (spLed K)) (DK : Dk P w K mg base C 1 "Turns" ["self", "rows", "numbers"] (spTInit K C))
    (DI : Dm P w K mg base C 5 "improve" ["self", "costs", "most"] (spImprove K C)) (DL : Dm P w K mg base C 4 "left" ["self", "costs"] (spLeft K C)) (DA : Dm P w K mg base C 1 "amounts" ["self"] (spAmounts K C)) (DF : Dm P w K mg base C 5 "factors" ["self", "costs"] (spFactors K C))
    (DS : Df P w K mg base CX0 1 "signs_of" ["numbers"] (spSigns K)) (DT : Df P w K mg base CX0 3 "times" ["one", "other"] (spBin K (fun _ _ => True) fun p q => p * q))
    {z o : Addr} (mz : mg "ZERO" = some (.ref z)) (fz : ∀ H, Fr K H (.ref z) 0) (mo : mg "ONE" = some (.ref o)) (fo : ∀ H, Fr K H (.ref o) 1) (zN : mg "len" = none) (zZ : mg "zip" = none) (zT : mg "tuple" = none) :
    FnOk P w K mg base CX0 6 f fd ["rows", "numbers"] (spFitted K) := by
  refine F.ok scFitted (fun vs H Q E h => ?_) (fun cdv A outer s H vs Q E hr h => ?_)
  · obtain ⟨u, v, m, n, R, g, rfl, _⟩ := h
    rfl
  · obtain ⟨u, v, m, n, R, g, rfl, ⟨hR, hN, S⟩, kb, kx⟩ := h
    refine ⟨_, pss_cons (ps_if (pt_cmpR op_eq (pe_callB call_len_seq (by rfl) zN PySem.boot_len (pa_cons (pv 0) pa_nil)) pe_int (nomark _)) pss_never pss_nil)
      (pss_cons (ps_asg (pe_callD DU hr (by decide) (by rfl) pass0 (pa_cons (pv 0) (pa_cons (pv 1) pa_nil))) (pg_tup rfl (pgs_cons (pg_name (i := 2) scFitted.nd rfl (.inl rfl)) (pgs_cons (pg_name (i := 3) scFitted.nd rfl (.inl rfl)) pgs_nil))))
      (pss_cons (ps_set (i := 4) scFitted.nd rfl (.inl rfl) (pe_makeD DK hr (by decide) (by rfl) (pa_cons (pv 2) (pa_cons (pv 3) pa_nil))))
      (pss_cons (ps_set (i := 5) scFitted.nd rfl (.inl rfl) (pe_op op_cat (pe_op op_rep (pe_lst (pa_cons (pe_glob (v := V.ref z) (by rfl) mz rfl) pa_nil)) (pe_fld (pv 4) rfl)) (pe_op op_rep (pe_lst (pa_cons (pe_glob (v := V.ref o) (by rfl) mo rfl) pa_nil)) (pe_fld (pv 4) rfl))))
      (pss_cons (ps_expr (pe_methD DI T.cl hr (by decide) (pv 4) (pa_cons (pv 5) (pa_cons (pe_op op_add (pe_fld (pv 4) rfl) (pe_fld (pv 4) rfl)) pa_nil))))
      (pss_cons (ps_if (pt_cmpR op_ne (pe_ix (r := rIxT K) ix_tup (pe_ix (r := rIxL K) ix_list (pe_methD DL T.cl hr (by decide) (pv 4) (pa_cons (pv 5) pa_nil)) (pe_un un_neg pe_int) (fun _ _ => rfl)) pe_int (fun _ _ => rfl)) pe_int (nomark _))
        (pss_one (ps_ret (pe_tup (pa_cons pe_str (pa_cons (pe_callTy call_tuple_of (by rfl) zT PyProof.Rows.boot_tuple (pa_cons
          (pe_lc (own := [("sign", 6), ("one", 7)]) (g := gTup K 2 (gCons (gName 6) (gCons (gName 7) gNil))) (tt := tYes) rfl scFitted.nd
            (pi_zipM (by rfl) zZ (pa_cons (pe_callD DS hr (by decide) (by rfl) pass0 (pa_cons (pv 1) pa_nil)) (pa_cons (pe_methD DF T.cl hr (by decide) (pv 4) (pa_cons (pv 5) pa_nil)) pa_nil)))
            (blkOk_by (N := nFit) (sc := defScope sFitted) (by decide +kernel))
            (fun _ _ _ _ _ => pg_tup rfl (pgs_cons (pg_name (i := 6) scFitted.nd rfl (.inl rfl)) (pgs_cons (pg_name (i := 7) scFitted.nd rfl (.inl rfl)) pgs_nil)))
            (fun _ _ _ _ _ => pts_nil)
            (fun _ _ _ _ _ => pe_callD DT hr (by decide) (by rfl) pass0 (pa_cons (pv 6) (pa_cons (pv 7) pa_nil)))) pa_nil)) pa_nil))))) pss_nil)
      (pss_one (ps_ret (pe_tup (pa_cons pe_str (pa_cons (pe_methD0 DA T.cl hr (by decide) (pv 4)) pa_nil)))))))))), ?_⟩
    obtain ⟨ra, ls, rfl, hra, hll, hrow⟩ := id hR
    have hm3 : m ≤ 3 := by rcases S.hm with e | e | e <;> omega
    have hm0 : 0 < m := by rcases S.hm with e | e | e <;> omega
    have hn := S.hn
    refine ⟨_, rfl, ra, ls, rfl, .inr hra, rfl, _, rfl, ?_⟩
    rw [decide_eq_false (fun z => by have := V.int.inj z; omega)]
    refine iteF ?_
    refine ⟨_, rfl, _, rfl, _, _, m, n, R, g, rfl, hR, hN, hm3, hn, fun i hi j hj => bd_sm (S.bR i hi j hj), fun i hi => bd_sm (S.bg i hi), fun H1 t la ga s1 ht hla hga => ?_⟩
    refine ⟨t, _, rfl, SqT.of ht, rfl, _, _, rfl, _, _, rfl, rfl, ?_⟩
    refine ⟨_, rfl, _, rfl, fun p dx np ndx nex => ?_⟩
    have smk : Same H1 (upd (upd H1 dx (.own p)) p (.ins C dx [])) := (Same.upd ndx).trans (Same.upd (by rw [upd_ne (Ne.symm nex)]; exact np))
    refine ⟨p, dx, la, ga, m, n, R0 R g, g0 g, rfl, upd_same, hla.same smk, hga.same smk, hm0, hm3, hn, fun H2 ba kp nba hT => ⟨rfl, ?_⟩⟩
    have s12 : Same H1 H2 := Same.made np ndx kp
    have s2 := s1.trans s12
    have npH : H p = none := s1.free np
    have nbH : H ba = none := s1.free (smk.free nba)
    obtain ⟨⟨dx2, ra2, rs2, hp2, _, _, _⟩, hba2⟩ := id hT
    refine ⟨(by decide : (1 : Nat) ≤ sizeLine), fun l1 nl1 => ?_⟩
    have t1 := Same.upd (o := .lst [.ref z]) nl1
    have e1 : (upd H2 l1 (.lst [.ref z])) l1 = some (.lst [.ref z]) := upd_same
    generalize upd H2 l1 (.lst [.ref z]) = H3 at t1 e1
    refine ⟨_, rfl, p, C, dx2, _, _, rfl, t1 _ _ hp2, T.cl, T.nM, tf_many, l1, (n : Int), [.ref z], rfl, rfl, e1, by omega, by omega, (by rw [Int.toNat_natCast]; exact Nat.le_of_lt (small1000 (by show 1 * n ≤ 1000; omega))), fun q1 nq1 => ?_⟩
    rw [Int.toNat_natCast, rep1]
    have t2 := Same.upd (o := .lst (List.replicate n (V.ref z))) nq1
    have e2 : (upd H3 q1 (.lst (List.replicate n (V.ref z)))) q1 = some (.lst (List.replicate n (V.ref z))) := upd_same
    generalize upd H3 q1 (.lst (List.replicate n (V.ref z))) = H4 at t2 e2
    refine ⟨(by decide : (1 : Nat) ≤ sizeLine), fun l2 nl2 => ?_⟩
    have t3 := Same.upd (o := .lst [.ref o]) nl2
    have e3 : (upd H4 l2 (.lst [.ref o])) l2 = some (.lst [.ref o]) := upd_same
    generalize upd H4 l2 (.lst [.ref o]) = H5 at t3 e3
    refine ⟨_, rfl, p, C, dx2, _, _, rfl, ((t1.trans t2).trans t3) _ _ hp2, T.cl, T.nH, tf_high, l2, (m : Int), [.ref o], rfl, rfl, e3, by omega, by omega, (by rw [Int.toNat_natCast]; exact Nat.le_of_lt (small1000 (by show 1 * m ≤ 1000; omega))), fun q2 nq2 => ?_⟩
    rw [Int.toNat_natCast, rep1]
    have t4 := Same.upd (o := .lst (List.replicate m (V.ref o))) nq2
    have e4 : (upd H5 q2 (.lst (List.replicate m (V.ref o)))) q2 = some (.lst (List.replicate m (V.ref o))) := upd_same
    generalize upd H5 q2 (.lst (List.replicate m (V.ref o))) = H6 at t4 e4
    refine ⟨q1, q2, _, _, rfl, rfl, t4 _ _ (t3 _ _ e2), e4, Nat.le_of_lt (small1000 (by rw [List.length_replicate, List.length_replicate]; omega)), fun fa nfa => ?_⟩
    have t5 := Same.upd (o := .lst (List.replicate n (V.ref z) ++ List.replicate m (V.ref o))) nfa
    have e5 : (upd H6 fa (.lst (List.replicate n (V.ref z) ++ List.replicate m (V.ref o)))) fa = some (.lst (List.replicate n (V.ref z) ++ List.replicate m (V.ref o))) := upd_same
    generalize upd H6 fa (.lst (List.replicate n (V.ref z) ++ List.replicate m (V.ref o))) = H7 at t5 e5
    have t26 := ((t1.trans t2).trans t3).trans t4
    have t27 := t26.trans t5
    have hT7 := hT.same t27
    have hfa : FrL K H7 fa (n + m) (c1 m n) := ⟨_, e5, ones (fz _) (fo _)⟩
    have nfb : fa ≠ ba := fun y => by
      subst y
      rw [t26 _ _ hba2] at nfa
      cases nfa
    have hp7 := t27 _ _ hp2
    have hba7 := t27 _ _ hba2
    have s7 := s2.trans t27
    refine ⟨_, rfl, p, dx2, _, rfl, hp7, tf_no (by decide +kernel) (by decide +kernel) (by decide +kernel) (by decide +kernel), _, rfl, _, rfl, p, C, dx2, _, _, rfl, hp7, T.cl, T.nM, tf_many, _, rfl, p, C, dx2, _, _, rfl, hp7, T.cl, T.nH, tf_high, _, _, rfl, rfl,
      p, ba, m, n, T0 m n R g, (T0 m n R g).r, fa, c1 m n, n + m, (by rw [Int.natCast_add]; rfl), hT7, gd0 S, hfa, nfb, csz1, Nat.le_refl _, fun H8 T' kp8 hT8 G8 _ hall => ?_, fun H8 T' _ _ _ _ ⟨q, _, h1, h2⟩ => (first_ends h1 h2).elim⟩
    have s8 := sameK s7 kp8 npH nbH
    have hfa8 := kp8.frL hp7 hba7 nfb hfa
    obtain ⟨⟨dx8, ra8, rs8, hp8, _, _, _⟩, hba8⟩ := id hT8
    refine ⟨_, rfl, p, dx8, _, rfl, hp8, tf_no (by decide +kernel) (by decide +kernel) (by decide +kernel) (by decide +kernel), _, rfl, p, ba, m, n, T', _, c1 m n, rfl, hT8, G8.tsz, hfa8.toA, csz1, fun H9 la9 s89 fl9 => ?_⟩
    obtain ⟨wl, hwl, fwl⟩ := id fl9
    obtain ⟨vN, evN, ⟨aN, rfl, haN⟩⟩ := at_last fwl
    have s9 := s8.trans s89
    refine ⟨1, rfl, la9, wl, _, _, rfl, rfl, SqL.of hwl, evN, aN, _, _, _, rfl, rfl, haN, at0, rfl, _, rfl, ?_⟩
    have hp9 := s89 _ _ hp8
    by_cases h0 : line m (c1 m n) T' (n + m) = 0
    · rw [show decide (V.int (line m (c1 m n) T' (n + m)).num = V.int 0) = true from decide_eq_true (by rw [h0]; rfl)]
      refine iteF ?_
      refine ⟨_, rfl, p, dx8, _, rfl, hp9, tf_no (by decide +kernel) (by decide +kernel) (by decide +kernel) (by decide +kernel), p, ba, m, n, T', rfl, hT8.same s89, hm3, hn, fun i k hi hk e => G8.val.inj hi hk e, fun Ha r sa fr => ?_⟩
      refine ⟨sz2, fun tt ntt => ?_⟩
      exact kx _ tt r ((s9.trans sa).trans (Same.upd ntt)) upd_same ⟨_, feA_iff.mp (G8.val.fe G8.nn (first_x G8.val G8.nn h0))⟩
    · rw [show decide (V.int (line m (c1 m n) T' (n + m)).num = V.int 0) = false from decide_eq_false (fun y => h0 (Rat.num_eq_zero.mp (V.int.inj y)))]
      refine iteT ?_
      refine ⟨_, rfl, _, m, g, rfl, hN.same s9, by omega, fun Ha sa sHa fsa => ?_⟩
      have hpa := sHa _ _ hp9
      refine ⟨_, rfl, p, dx8, _, rfl, hpa, tf_no (by decide +kernel) (by decide +kernel) (by decide +kernel) (by decide +kernel), _, rfl, p, ba, m, n, T', fa, c1 m n, rfl, (hT8.same s89).same sHa, G8.tsz, (hfa8.same s89).same sHa, csz1, fun Hb r sHb fr => ?_⟩
      obtain ⟨wsg, hsg, fwsg⟩ := fsa.same sHb
      obtain ⟨ya, wy, rfl, hy, fwy⟩ := fr
      refine ⟨false, true, sa, ya, wsg, wy, rfl, SqL.of hsg, hy, fun D nD => lcF (K := K) (walkM fwsg.1 fwy.1) (fun k => sg g k * fac m n (c1 m n) T' k) nD (by omega) (fun Hc sc => ⟨SqL.of (sc _ _ hsg), Same.sqT sc hy⟩) ?_ ?_⟩
      · rintro i x Hc Hd Q' hi sc ⟨tt, y1, y2, rfl, nt, rfl, g1, g2⟩ kk
        have st := Same.upd (o := .tup [y1, y2]) nt
        refine ⟨tt, _, rfl, SqT.of upd_same, rfl, _, _, rfl, _, _, rfl, rfl, rfl, ?_⟩
        refine ⟨_, rfl, _, rfl, _, _, _, _, rfl, ((fwsg.2 i _ g1).same sc).same st, ((fwy.2 i _ g2).same sc).same st, (sg_sz g i).mono (by decide), (fac_sz G8.tsz csz1 hi).mono (by decide), True.intro, fun He r se fr => kk _ _ (st.trans se) fr⟩
      · rintro Hc acc sc hD hf
        refine ⟨D, acc, rfl, .inl ⟨SqL.of hD, fun l nl => ?_⟩⟩
        refine ⟨sz2, fun tt ntt => ?_⟩
        exact kb _ tt (.ref l) (((((s9.trans sHa).trans sHb).trans sc).trans (Same.upd nl)).trans (Same.upd ntt)) upd_same fun x hx => first_bar G8.val G8.nn hall h0 x (feA_iff.mpr hx)
end
end K1
set_option Elab.async false
set_option linter.all false
set_option maxRecDepth 100000
/-! an own exception below an own exception, each __init__ saying super().__init__(..) -/
namespace KX
open PySem PySem.W PySem.Spec PyProof.Rows L2
/-- the context of a def that closes over __class__ -/
def cxS (CX : CXT) (P : Program) (w : World) (K : PySem.W.Frag) (mg : Str → Option Value) (base : Heap) (N : List Str) (qual : Str) (scope : Scope) (f : Addr) (cd : Value) (cc : Addr) (A : Around) (outer : List Env) (s : Shared) (H : Hp) (E : XK) : Cx :=
  { prog := P, w := w, K := K, mg := mg, base := base, A := A.deeper (ksEnv qual scope s.heap.objs.size f cd cc), N := N, s_0 := s, H_0 := H, env := ksEnv qual scope s.heap.objs.size f cd cc, outer := outer,
    stack := ksEnv qual scope s.heap.objs.size f cd cc :: outer, ex := [], calm := true, fn := fun _ => false, pn := [],
    xe := fun e s' => wpAny (model P w) (A.deeper (ksEnv qual scope s.heap.objs.size f cd cc)) (leaving (ksEnv qual scope s.heap.objs.size f cd cc) e) (fun _ t => CX outer H s E e t) (fun x t => CX outer H s E x t) s' }
/-- how its names stand -/
structure ScS (N ps : List Str) (sc : Scope) : Prop where
  kind : sc.kind = .function
  co : sc.isCoroutine = false
  gen : sc.isGenerator = false
  par : ∀ x ∈ ps, sc.names.lookup x = some .local
  nocell : ∀ y ∈ sc.names, y.2 ≠ .cell
  only : ∀ x, sc.names.lookup x = some .free → x = "__class__"
  pre : N = ps
section
variable {CX : CXT} {P : Program} {w : World} {K : PySem.W.Frag} {mg : Str → Option Value} {base : Heap} {N ps : List Str} {qual : Str} {scope : Scope} {f cc : Addr} {cd : Value} {A : Around} {outer : List Env} {s : Shared} {H : Hp} {E : XK}
theorem cls_look {cc : Addr} {x : Str} {c : Addr} (h : ([("__class__", cc)] : List (Str × Addr)).lookup x = some c) : x = "__class__" ∧ c = cc := by
  by_cases e : (x == ("__class__" : Str)) = true
  · simp only [List.lookup, e, Option.some.injEq] at h
    exact ⟨eq_of_beq e, h.symm⟩
  · have e' : (x == ("__class__" : Str)) = false := by simpa using e
    simp [List.lookup, e'] at h
theorem nocell_lookup {names : List (Str × NameKind)} (h : ∀ y ∈ names, y.2 ≠ .cell) (x : Str) : names.lookup x ≠ some .cell := fun e => h _ (PySem.mem_of_lookup e) rfl
theorem inv_startS {us : List Value} {vs : List V} {h0 : Heap} {tk : Nat} {D : Addr} {co : Value} {cdd : Option Addr} {csl : Array (Option Value)} (S : ScS N ps scope) (hd : A.handled = none) (e0 : Env0 P w K mg base A outer s H) (hl : vs.length = ps.length) (r : Vals vs us)
    (hns : h0.Ns s.heap.objs.size (fun x => (ps.zip us).reverse.lookup x)) (hk : ∀ b o, s.heap.get? b = some o → h0.get? b = some o)
    (hlk : ∀ (i : Nat) (x : Str) (u : Value), ps[i]? = some x → us[i]? = some u → (ps.zip us).reverse.lookup x = some u) (hc : K.lookup cc = some ⟨co, cdd, .cell (some (.ref D)), csl⟩) :
    Inv (cxS CX P w K mg base N qual scope f cd cc A outer s H E) [] (L2.start N vs) H { s with heap := h0, toks := tk } := by
  have hcb : base.get? cc = some ⟨co, cdd, .cell (some (.ref D)), csl⟩ := e0.mod.kin _ _ hc
  have nil : ∀ b : Addr, b ∉ (cxS CX P w K mg base N qual scope f cd cc A outer s H E).ex := fun b z => by cases z
  refine ⟨{
    mod := e0.mod
    kind := S.kind
    glob := rfl
    blt := rfl
    above := Nat.le_refl _
    inj := fun x y c h1 h2 => (cls_look h1).1.trans (cls_look h2).1.symm
    has := fun x hx => by
      rcases hx with hx | hx
      · exact absurd hx (nocell_lookup S.nocell x)
      · rw [S.only x hx]
        exact ⟨cc, rfl⟩
    cab := fun x c z => Bool.noConfusion z
    hd := fun _ => hd
    frames := Around.frames_deeper e0.frames
    stk := .inr ⟨rfl, rfl⟩
    exf := fun b z => absurd z (nil b)
    bs := e0.bs
    bsz := e0.bsz
    noex := fun b o _ => nil b
    exfs := fun b z => absurd z (nil b)
    funs := e0.funs
    frf := e0.frf }, rfl, e0.bare, Un.kept hk, ⟨_, hns, fun i x v h1 h2 _ => ?_⟩, fun x c h => ?_, e0.hok.fresh (Nat.le_refl _), fun x c h => ?_, fun p hp => absurd (show p ∈ ([] : List (Addr × Obj)) from hp) (List.not_mem_nil), e0.hok.kept hk, ?_⟩
  · have h2 : (L2.start N vs)[i]? = some (some v) := h2
    unfold L2.start at h2
    have hNl : N.length = vs.length := by rw [S.pre, hl]
    rw [show N.length - vs.length = 0 by omega, List.replicate_zero, List.append_nil, List.getElem?_map] at h2
    cases e : vs[i]? with
    | none => rw [e] at h2; cases h2
    | some v' =>
      rw [e] at h2
      obtain rfl : v' = v := Option.some.inj (Option.some.inj h2)
      obtain ⟨u, hu, ru⟩ := r.get e
      have h1 : N[i]? = some x := h1
      rw [S.pre] at h1
      exact ⟨u, ru, .inl ⟨S.par x (List.mem_of_getElem? h1), hlk i x u h1 hu⟩⟩
  · obtain ⟨_, rfl⟩ := cls_look h
    exact ⟨_, _, hk _ _ (e0.bs _ _ hcb).1, rfl⟩
  · obtain ⟨_, rfl⟩ := cls_look h
    exact (e0.bs _ _ hcb).2
  · show (L2.start N vs).length = N.length
    unfold L2.start
    rw [List.length_append, List.length_map, List.length_replicate, S.pre]
    omega
end
/-- a def of the text that closes over __class__, by its body -/
theorem fn_ofS {CX : CXT} {P : Program} {w : World} {K : PySem.W.Frag} {mg : Str → Option Value} {base : Heap} {k : Nat} {f cc D : Addr} {name qual : Str} {params : Arguments} {body : List Stmt} {scope : Scope} {dV kV doc pm cdv ct oc co : Value} {an od cdd : Option Addr} {osl csl : Array (Option Value)}
    {N ps : List Str} {sp : Sp} (lk : K.lookup f = some ⟨oc, od, .func (ksFn name qual params body scope dV kV doc pm an cdv ct cc), osl⟩) (hcd : codeIn K cdv qual = true) (hc : K.lookup cc = some ⟨co, cdd, .cell (some (.ref D)), csl⟩) (S : ScS N ps scope)
    (hlk : ∀ us : List Value, us.length = ps.length → ∀ (i : Nat) (x : Str) (u : Value), ps[i]? = some x → us[i]? = some u → (ps.zip us).reverse.lookup x = some u) (len : ∀ vs H Q E, sp vs H Q E → vs.length = ps.length)
    (hbody : ∀ (A : Around) (outer : List Env) (s s1 : Shared) (H : Hp) (vs : List V) (Q : VK) (E : XK), Room k (A.deeper (ksEnv qual scope s.heap.objs.size f cdv cc)) → sp vs H Q E → Inv (cxS CX P w K mg base N qual scope f cdv cc A outer s H E) [] (L2.start N vs) H s1 →
      PySem.wpAt (model P w) (A.deeper (ksEnv qual scope s.heap.objs.size f cdv cc)) (.func body (ksEnv qual scope s.heap.objs.size f cdv cc)) (execs body (ksEnv qual scope s.heap.objs.size f cdv cc))
        (SP (cxS CX P w K mg base N qual scope f cdv cc A outer s H E) [] { nx := fun _ H' => Q .non H', rt := Q }) (cxS CX P w K mg base N qual scope f cdv cc A outer s H E).xe s1) :
    FnOk P w K mg base CX (k + 1) f (ksFn name qual params body scope dV kV doc pm an cdv ct cc) ps sp := by
  refine ⟨len, fun A outer s H args us vs Q E hr e0 hb r hsp => ?_⟩
  have hl := len _ _ _ _ hsp
  have hul : us.length = ps.length := by rw [← hl, r.length]
  have up : ∀ b o, base.get? b = some o → s.heap.get? b = some o := fun b o e => (e0.bs b o e).1
  have KX := e0.mod.kin.keeps up
  refine ks_codeAny_call_defAt (fd := ksFn name qual params body scope dV kV doc pm an cdv ct cc) (body := body) hr.depth (KX _ _ lk) rfl (e0.mod.nolimit.keeps up) (codeRec_of KX hcd) rfl hb (fun y hy => S.nocell y hy)
    (fun y hy => S.par y.1 (List.of_mem_zip hy).1) (fun h0 hns hk => ?_) S.co S.gen S.kind
  have I := inv_startS (CX := CX) (qual := qual) (f := f) (cd := cdv) (E := E) (tk := s.toks + (ps.zip us).length) S hr.hd e0 hl r hns hk (hlk us hul) hc
  refine ks_wpAt_mono (hbody A outer s _ H vs Q E (hr.deeper _) hsp I) (fun fl s' hs => ?_) fun e s' hs => hs
  have fin : ∀ {σ' : L2.St} {H' : Hp} {v : V} {u : Value}, Inv (cxS CX P w K mg base N qual scope f cdv cc A outer s H E) [] σ' H' s' → RelV v u → Q v H' → CE outer P w H s Q u s' :=
    fun {σ' H' v u} J rv q => ⟨v, H', J.os, J.bare, J.base, J.hok, rv, q⟩
  cases fl with
  | next =>
    obtain ⟨σ', H', J, q⟩ := hs
    exact fin (v := V.non) (u := Value.none) J rfl q
  | ret u =>
    obtain ⟨v, σ', H', J, rv, q⟩ := hs
    exact fin J rv q
  | brk => obtain ⟨_, _, _, q⟩ := hs; exact q.elim
  | cont => obtain ⟨_, _, _, q⟩ := hs; exact q.elim
/-! ### super() in such a def -/
/-- what the text and the written part say of a def of the class at D, made for objects of the class at C -/
structure Sup (X : Cx) (f cc D C : Addr) (sf : Str) : Prop where
  sup : X.env.kindOf "super" = some .globalImplicit
  cls : X.env.kindOf "__class__" = some .free
  cel : X.env.cells.lookup ("__class__" : Str) = some cc
  fu : X.env.func = some f
  fk : ∃ (oc : Value) (od : Option Addr) (fd : FuncData) (osl : Array (Option Value)) (ar : Arg), X.K.lookup f = some ⟨oc, od, .func fd, osl⟩ ∧ (fd.params.posonlyargs ++ fd.params.args).head? = some ar ∧ ar.arg = sf
  co : ∃ (cda : Addr) (ccl : Value) (cdd : Option Addr) (vs : Array Value) (ccs : Array (Option Value)) (file : Str) (tf : Tok), X.env.code = .ref cda ∧ X.K.lookup cda = some ⟨ccl, cdd, .fields vs, ccs⟩ ∧ vs[2]? = some (.str file tf) ∧ ((X.prog.main.file : Str) == file) = true
  ck : ∃ (cl : Value) (cld : Option Addr) (csl : Array (Option Value)), X.K.lookup cc = some ⟨cl, cld, .cell (some (.ref D)), csl⟩
  dk : ∃ cdD, clsIn X.K D = some cdD
  sub : mroIn X.K C (.ref D) = some true
  ms : X.mg "super" = none
  tp : (X.prog.main.scope.names.lookup ("super" : Str)).isSome = false
  n0 : X.N[0]? = some sf
  l0 : X.env.scope.names.lookup sf = some .local
section
variable {X : Cx} {pins : List (Addr × Obj)} {σ : L2.St} {H : Hp} {s : Shared} {f cc D C x : Addr} {sf : Str}
theorem ld_super {E : Value → Shared → Prop} {Q : Value → Shared → Prop} (I : Inv X pins σ H s) (hg : X.env.kindOf "super" = some .globalImplicit) (hm : X.mg "super" = none) (h : Q (.type "super") s) : wpAny (model X.prog X.w) X.A (loadName X.env "super") Q E s := by
  obtain ⟨mb, b1, b2⟩ := I.mod.blt
  exact ks_loadName_global I.ok.kind hg (Calls.loadGlobal_builtin (by rw [I.ok.glob]; exact I.mod.glob.keeps I.bk) hm (by rw [I.ok.blt]; exact b1.keeps I.bk) ((b2 _ (by decide +kernel)).trans Boot.«super») h)
theorem super_at {body : List Stmt} {attr : Str} {p0 p1 : Pos} {whole : Sem Value} (T : Sup X f cc D C sf) (I : Inv X pins σ H s) (h0 : σ[0]? = some (some (.ref x))) (hx : H x = some (exo x C none)) (hat : (attr == ("__class__" : Str)) = false) :
    PySem.wpAt (model X.prog X.w) X.A (.func body X.env) (attributeBase (.Call (.Name "super" p0) [] [] p1) attr X.env whole)
      (fun v s' => ∃ so, v = .ref so ∧ Inv X pins σ H s' ∧ s'.heap.get? so = some (ks_superObj D x C)) X.xe s := by
  obtain ⟨oc, od, fd, osl, ar, fk, hp, har⟩ := T.fk
  obtain ⟨cda, ccl, cdd, vs, ccs, file, tf, hco, hcda, hvs, hfile⟩ := T.co
  obtain ⟨cl, cld, csl, hcc⟩ := T.ck
  obtain ⟨cdD, hD⟩ := T.dk
  have KI := I.kIn
  obtain ⟨t1, ho⟩ := exo_at I.hok hx
  obtain ⟨oD, hD1, hD2⟩ : ∃ oD, s.heap.get? D = some oD ∧ oD.data = .cls cdD := by
    unfold clsIn at hD
    split at hD
    · rename_i c d cd' sl ho
      cases hD
      exact ⟨_, KI _ _ ho, rfl⟩
    · cases hD
  refine ks_wpAt_super_base T.sup T.cls hat T.fu (KI _ _ fk) rfl hp hco (KI _ _ hcda) rfl hvs hfile T.tp ?_
  refine ld_super I T.sup T.ms ⟨rfl, wpAny_loadName_free I.ok.kind T.cls T.cel ⟨_, KI _ _ hcc, rfl⟩ ?_⟩
  obtain ⟨m, hn, hl⟩ := I.loc
  obtain ⟨u, ru, lk⟩ := hl 0 sf (.ref x) T.n0 h0 (.inl T.l0)
  obtain rfl : u = Value.ref x := ru
  have lk' : m ar.arg = some (.ref x) := by
    rw [har]
    rcases lk with ⟨_, z⟩ | ⟨z, _⟩
    · exact z
    · have hz : X.env.scope.names.lookup sf = some .cell ∨ X.env.scope.names.lookup sf = some .free := z
      rw [T.l0] at hz
      rcases hz with hz | hz <;> cases hz
  refine wpAny_loadName_local I.ok.kind (by show X.env.scope.names.lookup ar.arg = _; rw [har]; exact T.l0) hn lk' ?_
  obtain ⟨hh, g, d, t, os⟩ := s
  refine ks_wpAny_isType_cls hD1 hD2 ⟨rfl, ks_wpAny_call_super hD1 hD2 ho rfl (fun c z => by cases z) (looks_mroIn KI T.sub) fun h' e k => ?_⟩
  exact ⟨_, rfl, I.kept (t' := t) k, e⟩
/-- the built-in __init__, bound to the object, called -/
theorem call_mw {A : Around} {E : Value → Shared → Prop} {u : Addr} {us : List Value} {Q : Value → Shared → Prop} (T : OexC X.K C) (I : Inv X pins σ H s) (hx : H x = some (exo x C none)) (hu : s.heap.get? u = some (kxs_mw "ValueError.__init__" x)) (hl : us.length ≤ sizeLine)
    (h : ∀ s', Inv X pins σ H s' → Q .none s') : wpAny (model X.prog X.w) A (call (.ref u) us) Q E s := by
  obtain ⟨nm, q, N, bs, bm, sn, sub, ab, col, dd, k0, k1, k2, k3, k5, hC, hbm⟩ := T.cls
  obtain ⟨t1, ho⟩ := exo_at I.hok hx
  have hC' := I.kIn _ _ hC
  obtain ⟨hh, g, d, tk, os⟩ := s
  refine wpAny_call (codeAny_of_tree (show wpAny _ A.in1 (callAny (.ref u) ⟨us, []⟩) _ _ _ from ?_))
  simp only [callAny]
  refine wpAny_bind (wpAny_load hu ?_)
  have z1 : (Value.type "method-wrapper" == Value.type "method" || Value.type "method-wrapper" == Value.type "builtin_function_or_method" || Value.type "method-wrapper" == Value.type "method-wrapper") = true := by decide
  simp only [kxs_mw, z1, if_true]
  refine KFB.if_so (by decide) (wpAny_bind (check_bound_init F.excBase_ValueError.toExcCallFacts hC' ho rfl ?_))
  refine wpAny_bind (wpAny_pure (wpAny_pure ⟨plainId_quiet F.excBase_ValueError.init.plain _, codeAny_builtin F.excBase_ValueError.initEntry ?_⟩))
  refine exc_init_tree (cls := .ref C) (t0 := t1) (dv := none) (c2 := .none) (c3 := .none) (b4 := .bool false) ho hl fun h' kk hx' _ => ?_
  have J := I.write (t' := tk) (x := x) (e := x) (o := exo x C none) (by rw [hx]; exact True.intro) (.inl rfl) kk ⟨_, hx'⟩ (exo_ok hx')
  have eu : upd H x (exo x C none) = H := by
    funext b
    by_cases hb : b = x
    · rw [hb, upd_same, hx]
    · rw [upd_ne hb]
  rw [eu] at J
  exact h _ J
/-- a new record of ours stands while the arguments are worked out -/
theorem pin1 {u : Addr} {o : Obj} (I : Inv X pins σ H s) (hu : s.heap.get? u = some o) (hn : H u = none) (hl : u ≠ X.env.locals) (hf : u ∉ X.fs) (hc : ∀ v, o.data ≠ .cell v) : Inv X ((u, o) :: pins) σ H s :=
  I.pins_of fun p hp => by
    rcases List.mem_cons.mp hp with rfl | hp
    · exact ⟨hu, hn, hl, hf, hc⟩
    · exact I.pin p (List.mem_append_right _ hp)
theorem unpin1 {u : Addr} {o : Obj} (I : Inv X ((u, o) :: pins) σ H s) : s.heap.get? u = some o ∧ Inv X pins σ H s :=
  ⟨(I.pin (u, o) (List.mem_append_right _ (List.mem_cons_self ..))).1, I.pins_of fun p hp => I.pin p (List.mem_append_right _ (List.mem_cons_of_mem _ hp))⟩
variable {body : List Stmt} {e : Expr} {es : List Expr} {ta : TA} {p0 p1 p2 p3 p4 : Pos} {Dn : Ends}
/-- super().__init__(e, ..), the built-in one -/
theorem sup_builtin {pl : Sem Bool} (T : Sup X f cc D C sf) (O : OexC X.K C) (hst : nsIn X.K cStatics "thirdparty.any" = some none) (hm : ks_superIn X.K C D "__init__" = some (some (.builtin "ValueError.__init__"))) (hB : subIn X.K (.ref C) (.type "ValueError") = some true)
    (I : Inv X pins σ H s) (h0 : σ[0]? = some (some (.ref x))) (hx : H x = some (exo x C none)) (ha : PA X (e :: es) ta) (h : ta σ H fun vs H1 => H1 x = some (exo x C none) ∧ vs.length ≤ 1000 ∧ Dn.nx σ H1)
    (he : eval (.Call (.Attribute (.Call (.Name "super" p0) [] [] p1) "__init__" p2) (e :: es) [] p3) X.env = (do
      let ov ← attributeBase (.Call (.Name "super" p0) [] [] p1) "__init__" X.env (eval (.Call (.Name "super" p0) [] [] p1) X.env)
      standAt p2.atName
      let (f, first) ← holding [ov] (getMethod ov "__init__" pl)
      callWith p3 f first (backTo p3 (starEach (e :: es) X.env)) []) := by rfl)
    (hsw : swapsWith (.Call (.Attribute (.Call (.Name "super" p0) [] [] p1) "__init__" p2) (e :: es) [] p3) none p4.line X.env = pure false := by rfl)
    (hsa : starEach (e :: es) X.env = (false, eval e X.env) :: starEach es X.env := by rfl) (hpl : (backTo p3 (starEach es X.env)).any (·.1) = false := by rfl) :
    PySem.wpAt (model X.prog X.w) X.A (.func body X.env) (exec (.Expr (.Call (.Attribute (.Call (.Name "super" p0) [] [] p1) "__init__" p2) (e :: es) [] p3) p4) X.env) (SP X pins Dn) X.xe s := by
  refine ks_wpAt_Expr_any (ks_wpAt_MethodCall (pl := pl) (ks_wpAt_mono (super_at T I h0 hx (by decide)) (fun v s1 h1 => ?_) fun _ _ z => z) he) I.quiet hsw
  obtain ⟨so, rfl, I1, hso⟩ := h1
  have K1 := I1.kIn
  obtain ⟨t1, hob⟩ := exo_at I1.hok hx
  have IA : InstAt s1.heap x { cls := .ref C, dict := none, data := .fields #[.ref t1, .none, .none, .none, .bool false, .none] } C none := ⟨hob, rfl, rfl, trivial⟩
  have hI : Looks (model X.prog X.w) s1.heap (isInstance (.ref x) (.type "ValueError")) true := IA.type.andThen (looks_subIn K1 hB)
  cases hc : clsIn X.K C with
  | none => unfold ks_superIn at hm; rw [hc] at hm; cases hm
  | some cd =>
    unfold ks_superIn at hm
    rw [hc] at hm
    have hC : Looks (model X.prog X.w) s1.heap (mroOf (.ref C)) cd.mro := fun A Q E s k q => wpAny_bind ((looks_clsIn K1 hc) A _ E s k (wpAny_pure q))
    obtain ⟨hh, g, d, t, os⟩ := s1
    refine kxs_getMethod kxs_ValueError hso (looks_opaque K1 hst) hC rfl K1 hm hI (ks_ne K1 IA hc) (by decide) ?_
    have I2 : Inv X pins σ H ⟨hh.push (kxs_mw "ValueError.__init__" x), g, d, t + 1, os⟩ := I1.kept (t' := t + 1) fun b o e => Heap.get?_push_of_some _ e
    have hu : (hh.push (kxs_mw "ValueError.__init__" x)).get? hh.objs.size = some (kxs_mw "ValueError.__init__" x) := Heap.get?_push_at rfl rfl
    have I3 := pin1 I2 hu (I1.hok.fresh (Nat.le_refl _)) (Nat.ne_of_gt I1.lt) (I1.nofs (Nat.le_refl _)) (fun v z => by cases z)
    refine kxs_callWith (i := "ValueError.__init__") (x := x) (by rw [hsa]; show (false || (backTo p3 (starEach es X.env)).any (·.1)) = false; rw [hpl]; rfl) ?_
    rw [hsa]
    refine PySem.Calls.evalArgs_plain ?_
    have hrun := ha.run p3 _ _ σ H _ I3 h
    rw [hsa] at hrun
    refine wpAny_mono hrun (fun us s4 ⟨vs, H4, I4, r4, hx4, hl4, q4⟩ => ?_) fun _ _ z => z
    obtain ⟨hu4, I5⟩ := unpin1 I4
    refine ⟨hu4, call_mw O I5 hx4 hu4 ?_ fun s6 I6 => ⟨σ, H4, I6, q4⟩⟩
    show ([] ++ us : List Value).length ≤ sizeLine
    rw [List.nil_append, ← r4.length]
    exact Nat.le_of_lt (small1000 hl4)
/-- super().__init__(e, ..), one of the text -/
theorem sup_own {pl : Sem Bool} {k : Nat} {g : Addr} {fd : FuncData} {ps : List Str} {sp : Sp} (T : Sup X f cc D C sf) (hst : nsIn X.K cStatics "thirdparty.any" = some none) (hm : ks_superIn X.K C D "__init__" = some (some (.ref g))) (hgt : typeIn X.K (.ref g) = some (.type "function")) (hgf : fnIn X.K g = true)
    (F : FnOk X.prog X.w X.K X.mg X.base CX0 k g fd ps sp) (hr : Room k X.A) (hb : Binds X.K fd ps [])
    (I : Inv X pins σ H s) (h0 : σ[0]? = some (some (.ref x))) (hx : H x = some (exo x C none)) (ha : PA X (e :: es) ta) (h : ta σ H fun vs H1 => sp (.ref x :: vs) H1 (fun _ H2 => Dn.nx σ H2) E0)
    (he : eval (.Call (.Attribute (.Call (.Name "super" p0) [] [] p1) "__init__" p2) (e :: es) [] p3) X.env = (do
      let ov ← attributeBase (.Call (.Name "super" p0) [] [] p1) "__init__" X.env (eval (.Call (.Name "super" p0) [] [] p1) X.env)
      standAt p2.atName
      let (f, first) ← holding [ov] (getMethod ov "__init__" pl)
      callWith p3 f first (backTo p3 (starEach (e :: es) X.env)) []) := by rfl)
    (hsw : swapsWith (.Call (.Attribute (.Call (.Name "super" p0) [] [] p1) "__init__" p2) (e :: es) [] p3) none p4.line X.env = pure false := by rfl)
    (hsa : starEach (e :: es) X.env = (false, eval e X.env) :: starEach es X.env := by rfl) (hpl : (backTo p3 (starEach es X.env)).any (·.1) = false := by rfl) :
    PySem.wpAt (model X.prog X.w) X.A (.func body X.env) (exec (.Expr (.Call (.Attribute (.Call (.Name "super" p0) [] [] p1) "__init__" p2) (e :: es) [] p3) p4) X.env) (SP X pins Dn) X.xe s := by
  refine ks_wpAt_Expr_any (ks_wpAt_MethodCall (pl := pl) (ks_wpAt_mono (super_at T I h0 hx (by decide)) (fun v s1 h1 => ?_) fun _ _ z => z) he) I.quiet hsw
  obtain ⟨so, rfl, I1, hso⟩ := h1
  have K1 := I1.kIn
  obtain ⟨t1, hob⟩ := exo_at I1.hok hx
  have IA : InstAt s1.heap x { cls := .ref C, dict := none, data := .fields #[.ref t1, .none, .none, .none, .bool false, .none] } C none := ⟨hob, rfl, rfl, trivial⟩
  obtain ⟨og, hog, hogc⟩ : ∃ o, s1.heap.get? g = some o ∧ o.cls = .type "function" := by
    have z : (X.K.lookup g).map (·.cls) = some (.type "function") := hgt
    cases y : X.K.lookup g with
    | none => rw [y] at z; cases z
    | some o => rw [y] at z; exact ⟨o, K1 _ _ y, Option.some.inj z⟩
  cases hc : clsIn X.K C with
  | none => unfold ks_superIn at hm; rw [hc] at hm; cases hm
  | some cd =>
    unfold ks_superIn at hm
    rw [hc] at hm
    have hC : Looks (model X.prog X.w) s1.heap (mroOf (.ref C)) cd.mro := fun A Q E s k q => wpAny_bind ((looks_clsIn K1 hc) A _ E s k (wpAny_pure q))
    obtain ⟨hh, gg, d, t, os⟩ := s1
    refine ks_wpAny_getMethod_super hso (looks_opaque K1 hst) hC rfl K1 hm hog hogc (ks_ne K1 IA hc) (by decide) ?_
    have I2 : Inv X pins σ H ⟨hh.push (methodObj (.ref g) (.ref x)), gg, d, t + 1, os⟩ := I1.kept (t' := t + 1) fun b o e => Heap.get?_push_of_some _ e
    have hu : (hh.push (methodObj (.ref g) (.ref x))).get? hh.objs.size = some (methodObj (.ref g) (.ref x)) := Heap.get?_push_at rfl rfl
    have I3 := pin1 I2 hu (I1.hok.fresh (Nat.le_refl _)) (Nat.ne_of_gt I1.lt) (I1.nofs (Nat.le_refl _)) (fun v z => by cases z)
    refine callWith_of (by rw [hsa]; show ((false || (backTo p3 (starEach es X.env)).any (·.1)) || false) = false; rw [hpl]; rfl) (keeps_M (q := hh.objs.size) (self := .ref x) hgf) ?_
    rw [hsa]
    refine PySem.Calls.evalArgs_plain ?_
    have hrun := ha.run p3 _ _ σ H _ I3 h
    rw [hsa] at hrun
    refine wpAny_mono hrun (fun us s4 ⟨vs, H4, I4, r4, q4⟩ => ?_) fun _ _ z => z
    obtain ⟨hu4, I5⟩ := unpin1 I4
    refine ⟨⟨hu4, I5.kIn⟩, ?_⟩
    have r5 : Vals (.ref x :: vs) (.ref x :: us) := .cons rfl r4
    have hl : (Value.ref x :: us ++ []).length = ps.length := by
      rw [List.append_nil, ← r5.length]
      exact F.len _ _ _ _ q4
    have hbd := hb s4 (.ref x :: us) I5.kIn hl
    rw [List.append_nil] at hbd
    refine wpAny_call (ks_codeAny_call_bound hu4 (codeAny_mono (F.run X.A X.stack s4 H4 _ (.ref x :: us) _ _ E0 hr I5.env0 hbd r5 q4) fun r s' hq => ?_))
    cases r with
    | error er => exact False.elim hq
    | ok fl =>
      cases fl with
      | ret u =>
        obtain ⟨v, H6, I6, _, q6⟩ := I5.after hq
        exact ⟨σ, H6, I6, q6⟩
      | next => exact False.elim hq
      | brk => exact False.elim hq
      | cont => exact False.elim hq
end
/-! ### C(), C's own __init__ keeping sp -/
def tMk0 (C : Addr) (sp : Sp) : L2.St → Hp → XK → Prop := fun _ H Q => ∀ a, H a = none → sp [.ref a] (upd H a (exo a C none))
  (fun v H2 => v = .non ∧ ∃ (d : Addr) (fs : List (Str × V)), H2 a = some (exo a C (some d)) ∧ H2 d = some (exd d fs) ∧ H d = none ∧ Q (.ref C) (some d) (upd (del H2 a) d (.xd fs))) E0
theorem pmk_new0 {X : Cx} {nmX : Str} {C fI : Addr} {k : Nat} {fd : FuncData} {ps : List Str} {sp : Sp} {p pos : Pos} (T : OexC X.K C) (iC : findIn X.K (.ref C) "__init__" = some (some (.ref fI))) (tI : typeIn X.K (.ref fI) = some (.type "function"))
    (F1 : FnOk X.prog X.w X.K X.mg X.base CX0 k fI fd ps sp) (hr : Room (k + 1) X.A) (hb : Binds X.K fd ps []) (hg : Gl X nmX) (hm : X.mg nmX = some (.ref C)) (hdb : (nmX == ("__debug__" : Str)) = false := by decide) :
    PMk X (.Call (.Name nmX p) [] [] pos) (tMk0 C sp) := fun pins s σ H Q I h => by
  obtain ⟨nm, q, N, bs, bm, sn, sub, ab, col, dd, k0, k1, k2, k3, k5, hC, hbm⟩ := T.cls
  refine wpAny_Call_Name_kw (ld_glob I hg hm (callWith_K0 I.kIn T.kC ?_) hdb)
  obtain ⟨hp, g, dr, tk, os⟩ := s
  have sz1 : hp.objs.size ≤ hp.objs.size + 1 := Nat.le_succ _
  have q0 := h (hp.objs.size + 1) (I.hok.fresh sz1)
  have stay : ∀ b o, hp.get? b = some o → ((hp.push (kdv_tup [])).push (PySem.HandSPX.excO C hp.objs.size)).get? b = some o := fun b o z => Heap.get?_push_of_some _ (Heap.get?_push_of_some _ z)
  have made : ((hp.push (kdv_tup [])).push (PySem.HandSPX.excO C hp.objs.size)).get? (hp.objs.size + 1) = some (PySem.HandSPX.excO C hp.objs.size) := by heap_get
  have J : Inv X pins σ (upd H (hp.objs.size + 1) (exo (hp.objs.size + 1) C none)) ⟨(hp.push (kdv_tup [])).push (PySem.HandSPX.excO C hp.objs.size), g, dr, tk, os⟩ :=
    I.laid (t' := tk) (o := exo (hp.objs.size + 1) C none) stay sz1 (exo_ok made)
  have rv : Vals [V.ref (hp.objs.size + 1)] [Value.ref (hp.objs.size + 1)] := .cons rfl .nil
  have len1 : ([Value.ref (hp.objs.size + 1)] ++ [] : List Value).length = ps.length := (F1.len _ _ _ _ q0 :)
  have bd := hb _ [Value.ref (hp.objs.size + 1)] J.kIn len1
  refine wpAny_call (PySem.HandSPX.call_own F.excBase_ValueError (fun Y => PySem.HandSPX.refsVE_contains Y bm hbm) (I.kIn _ _ hC) (looks_findIn I.kIn iC) (fun sf => bind_fn I.kIn sf tI) (Nat.zero_le _)
    (codeAny_mono (F1.run _ X.stack _ _ ⟨[Value.ref (hp.objs.size + 1)], []⟩ [Value.ref (hp.objs.size + 1)] _ _ E0 (hr.make C [] []) (J.env0.make C [] []) bd rv q0) fun r s' hq => ?_))
  match r, hq with
  | .error er, hq => exact False.elim hq
  | .ok .next, hq => exact False.elim hq
  | .ok .brk, hq => exact False.elim hq
  | .ok .cont, hq => exact False.elim hq
  | .ok (.ret u), hq =>
    obtain ⟨v, H2, os2, bare2, un2, hok2, ru, ev, d, fs, ea, ed, hd1, q2⟩ := hq
    subst ev
    obtain ⟨h2, g2, d2, t2, os'⟩ := s'
    exact ⟨ru, mk_end (raises_own T.exC T.tyC) I sz1 stay un2 hok2 os2 bare2 ea ed hd1 q2⟩
end KX
set_option Elab.async false
set_option linter.all false
set_option maxRecDepth 100000
namespace K1
open PySem L2 KX
abbrev sVInit : Stmt := inClass (top 1) 0
abbrev sNInit : Stmt := inClass (top 2) 0
/-- an __init__ of the text that closes over __class__ -/
structure InitF (P : Program) (K : PySem.W.Frag) (mg : Str → Option Value) (qual : Str) (st : Stmt) (f D : Addr) (fd : FuncData) : Prop where
  ex : ∃ (oc : Value) (od : Option Addr) (kV doc pm : Value) (an : Option Addr) (cda : Addr) (ct : Value) (osl : Array (Option Value)) (cc : Addr), fd = PySem.W.ksFn "__init__" qual (defArgs st) (defBody st) (defScope st) .none kV doc pm an (.ref cda) ct cc ∧
    K.lookup f = some ⟨oc, od, .func fd, osl⟩ ∧ PySem.W.codeIn K (.ref cda) qual = true ∧
    (∃ (ccl : Value) (cdd : Option Addr) (vs : Array Value) (ccs : Array (Option Value)) (file : Str) (tf : Tok), K.lookup cda = some ⟨ccl, cdd, .fields vs, ccs⟩ ∧ vs[2]? = some (.str file tf) ∧ ((P.main.file : Str) == file) = true) ∧
    ∃ (cl : Value) (cld : Option Addr) (csl : Array (Option Value)), K.lookup cc = some ⟨cl, cld, .cell (some (.ref D)), csl⟩
  dk : ∃ cdD, PySem.W.clsIn K D = some cdD
  ms : mg "super" = none
  tp : (P.main.scope.names.lookup ("super" : Str)).isSome = false
/-- the classes: CV the one above, CN the one below -/
structure ErrF (P : Program) (K : PySem.W.Frag) (CV CN fV fN : Addr) : Prop where
  O : OexC K CN
  wd : PySem.W.findIn K (.ref CN) "word" = some none
  st : PySem.W.nsIn K PySem.cStatics "thirdparty.any" = some none
  mV : PySem.W.mroIn K CN (.ref CV) = some true
  mN : PySem.W.mroIn K CN (.ref CN) = some true
  sV : PySem.W.ks_superIn K CN CV "__init__" = some (some (.builtin "ValueError.__init__"))
  sN : PySem.W.ks_superIn K CN CN "__init__" = some (some (.ref fV))
  vE : PySem.W.subIn K (.ref CN) (.type "ValueError") = some true
  tV : PySem.W.typeIn K (.ref fV) = some (.type "function")
  fnV : PySem.W.fnIn K fV = true
  iN : PySem.W.findIn K (.ref CN) "__init__" = some (some (.ref fN))
  tN : PySem.W.typeIn K (.ref fN) = some (.type "function")
def spVInit (CN : Addr) : Sp := fun vs H Q _ => ∃ x wd, vs = [.ref x, .str wd] ∧ H x = some (exo x CN none) ∧ ∀ d, H d = none → d ≠ x → Q .non (upd (upd H d (exd d [("word", .str wd)])) x (exo x CN (some d)))
def spNInit (CN : Addr) : Sp := fun vs H Q _ => ∃ x, vs = [.ref x] ∧ H x = some (exo x CN none) ∧ ∀ d, H d = none → d ≠ x → Q .non (upd (upd H d (exd d [("word", .str "nofraction")])) x (exo x CN (some d)))
section
variable {P : Program} {w : World} {K : PySem.W.Frag} {mg : Str → Option Value} {base : Heap} {CV CN fV fN : Addr} {fd fd2 : FuncData}
theorem lk2 (us : List Value) (h : us.length = 2) : ∀ (i : Nat) (x : Str) (u : Value), (["self", "word"] : List Str)[i]? = some x → us[i]? = some u → ((["self", "word"] : List Str).zip us).reverse.lookup x = some u := by
  match us, h with
  | [a, b], _ =>
    intro i x u h1 h2
    have n1 : (("self" : Str) == "word") = false := by decide +kernel
    match i with
    | 0 =>
      cases h1; cases h2
      show ([("word", b), ("self", a)] : List (Str × Value)).lookup ("self" : Str) = some a
      simp [List.lookup, n1]
    | 1 =>
      cases h1; cases h2
      show ([("word", b), ("self", a)] : List (Str × Value)).lookup ("word" : Str) = some b
      simp [List.lookup]
    | i + 2 => simp at h1
theorem lk1 (us : List Value) (h : us.length = 1) : ∀ (i : Nat) (x : Str) (u : Value), (["self"] : List Str)[i]? = some x → us[i]? = some u → ((["self"] : List Str).zip us).reverse.lookup x = some u := by
  match us, h with
  | [a], _ =>
    intro i x u h1 h2
    match i with
    | 0 =>
      cases h1; cases h2
      show ([("self", a)] : List (Str × Value)).lookup ("self" : Str) = some a
      simp [List.lookup]
    | i + 1 => simp at h1
theorem only_cls {names : List (Str × NameKind)} (h : names.all (fun y => y.2 != .free || y.1 == "__class__") = true) (x : Str) (e : names.lookup x = some .free) : x = "__class__" := by
  have := List.all_eq_true.mp h _ (PySem.mem_of_lookup e)
  simpa using this
theorem scVInit : ScS ["self", "word"] ["self", "word"] (defScope sVInit) := ⟨rfl, rfl, rfl, by decide +kernel, by decide +kernel, only_cls (by decide +kernel), rfl⟩
theorem scNInit : ScS ["self"] ["self"] (defScope sNInit) := ⟨rfl, rfl, rfl, by decide +kernel, by decide +kernel, only_cls (by decide +kernel), rfl⟩
theorem ok_vinit (IF : InitF P K mg "VerdictError.__init__" sVInit fV CV fd) (EF : ErrF P K CV CN fV fN) : FnOk P w K mg base CX0 1 fV fd ["self", "word"] (spVInit CN) := by
  obtain ⟨oc, od, kV, doc, pm, an, cda, ct, osl, cc, rfl, lk, hcd, ⟨ccl, cdd, vs0, ccs, file, tf, kc, h2, hfile⟩, cl, cld, csl, hcc⟩ := IF.ex
  refine fn_ofS lk hcd hcc scVInit lk2 (fun vs H Q E h => ?_) fun A outer s s1 H vs Q E hr h I => ?_
  · obtain ⟨x, wd, rfl, _⟩ := h
    rfl
  · obtain ⟨x, wd, rfl, hx, k⟩ := h
    have TS : Sup (cxS CX0 P w K mg base ["self", "word"] "VerdictError.__init__" (defScope sVInit) fV (.ref cda) cc A outer s H E) fV cc CV CN "self" :=
      ⟨rfl, rfl, by rfl, rfl, ⟨_, _, _, _, _, lk, rfl, rfl⟩, ⟨cda, ccl, cdd, vs0, ccs, file, tf, rfl, kc, h2, hfile⟩, ⟨cl, cld, csl, hcc⟩, IF.dk, EF.mV, IF.ms, IF.tp, rfl, rfl⟩
    refine ks_wpAt_execs_cons (ks_wpAt_mono (sup_builtin (x := x) (Dn := { nx := fun σ' H' => tOst K "word" (tVar 0) (tVar 1) { nx := fun _ H' => Q .non H', rt := Q } σ' H', rt := fun _ _ => False }) TS EF.O EF.st EF.sV EF.vE I rfl hx (pa_cons (pv 1) pa_nil) ?_) (fun fl s' hs => ?_) fun _ _ z => z)
    · refine ⟨_, rfl, hx, (by show 1 ≤ 1000; decide), ?_⟩
      refine ⟨_, rfl, _, rfl, x, CN, rfl, EF.O, EF.wd, .inl ⟨hx, fun d nd ne => ?_⟩⟩
      exact k d nd ne
    · cases fl with
      | next =>
        obtain ⟨σ', H', I', q⟩ := hs
        exact PySem.wpAt_of_wpAny ((pss_one (ps_ost (f := "word") (pv 0) (pv 1))).run [] s' σ' H' { nx := fun _ H' => Q .non H', rt := Q } I' q)
      | ret v => obtain ⟨_, _, _, _, _, q⟩ := hs; exact q.elim
      | brk => obtain ⟨_, _, _, q⟩ := hs; exact q.elim
      | cont => obtain ⟨_, _, _, q⟩ := hs; exact q.elim
theorem ok_ninit (IF : InitF P K mg "NoFraction.__init__" sNInit fN CN fd2) (EF : ErrF P K CV CN fV fN) (FV : FnOk P w K mg base CX0 1 fV fd ["self", "word"] (spVInit CN)) (hb : Binds K fd ["self", "word"] []) : FnOk P w K mg base CX0 2 fN fd2 ["self"] (spNInit CN) := by
  obtain ⟨oc, od, kV, doc, pm, an, cda, ct, osl, cc, rfl, lk, hcd, ⟨ccl, cdd, vs0, ccs, file, tf, kc, h2, hfile⟩, cl, cld, csl, hcc⟩ := IF.ex
  refine fn_ofS lk hcd hcc scNInit lk1 (fun vs H Q E h => ?_) fun A outer s s1 H vs Q E hr h I => ?_
  · obtain ⟨x, rfl, _⟩ := h
    rfl
  · obtain ⟨x, rfl, hx, k⟩ := h
    have TS : Sup (cxS CX0 P w K mg base ["self"] "NoFraction.__init__" (defScope sNInit) fN (.ref cda) cc A outer s H E) fN cc CN CN "self" :=
      ⟨rfl, rfl, by rfl, rfl, ⟨_, _, _, _, _, lk, rfl, rfl⟩, ⟨cda, ccl, cdd, vs0, ccs, file, tf, rfl, kc, h2, hfile⟩, ⟨cl, cld, csl, hcc⟩, IF.dk, EF.mN, IF.ms, IF.tp, rfl, rfl⟩
    refine ks_wpAt_execs_cons (ks_wpAt_mono (sup_own (x := x) (Dn := { nx := fun _ H' => Q .non H', rt := fun _ _ => False }) TS EF.st EF.sN EF.tV EF.fnV FV hr hb I rfl hx (pa_cons pe_str pa_nil) ?_) (fun fl s' hs => ?_) fun _ _ z => z)
    · exact ⟨x, _, rfl, hx, fun d nd ne => k d nd ne⟩
    · cases fl with
      | next =>
        obtain ⟨σ', H', I', q⟩ := hs
        exact PySem.wpAt_of_wpAny (pss_nil.run [] s' σ' H' { nx := fun _ H' => Q .non H', rt := Q } I' q)
      | ret v => obtain ⟨_, _, _, _, _, q⟩ := hs; exact q.elim
      | brk => obtain ⟨_, _, _, q⟩ := hs; exact q.elim
      | cont => obtain ⟨_, _, _, q⟩ := hs; exact q.elim
end
end K1
set_option Elab.async false
set_option linter.all false
set_option maxRecDepth 100000
set_option maxHeartbeats 8000000
namespace K1
open PySem L2 Kz Sx KX
def spLeast (K : PySem.W.Frag) (CN : Addr) : Sp := fun vs H Q E => ∃ u v cv m n R g c, vs = [u, v, cv] ∧ Inp K H u v m n R g ∧ FrA true K H cv n c ∧ (∀ j, j < n → Sm 100 (c j)) ∧
  (∀ H', Same H H' → (∀ x, ¬ Fe m n R g x) → Q .non H') ∧
  (∀ H' t wv xv yv x y, Same H H' → H' t = some (.tup [wv, xv, yv]) → Fr K H' wv (sm n fun j => c j * x j) → FrA true K H' xv n x → FrA true K H' yv m y → Fe m n R g x → Du m n R c y → sm m (fun k => y k * g k) = sm n (fun j => c j * x j) → (∀ j, j < n → Sm 400 (x j)) → (∀ k, k < m → Sm 1100 (y k)) → Q (.ref t) H') ∧
  (∀ H' d, Same H H' → H' d = some (.xd [("word", .str "nofraction")]) → (∃ x, Fe m n R g x) → (∀ y, ¬ Du m n R c y) → E (.ref CN) (some d) H')
theorem csz2 {m n : Nat} {c : Nat → Rat} (h : ∀ j, j < n → Sm 100 (c j)) : CSz (n + m) (c2 n c) where
  sz := fun j _ => by
    by_cases e : j < n
    · rw [c2_lo e]; exact h j e
    · rw [c2_hi (by omega)]; exact ⟨by decide, by decide⟩
  zr := c2_hi (by omega)
theorem sol_sz {m n j : Nat} {T : Tb} (S : TSz m n T) : Sm 400 (sol m (n + m) T j) := by
  have hm := S.hm
  refine (sm_Sm (s := 100) (k := m) (f := fun i => if T.b i = j then T.r i (n + m) else 0) fun i hi => ?_).mono ?_
  · by_cases e : T.b i = j
    · rw [if_pos e]; exact S.sz i hi _ (Nat.le_refl _)
    · rw [if_neg e]; exact ⟨by decide, by decide⟩
  · have : m * (100 + 1) ≤ 3 * 101 := Nat.mul_le_mul_right _ hm
    omega
section
variable {P : Program} {w : World} {K : PySem.W.Frag} {mg : Str → Option Value} {base : Heap}
abbrev nLst : List Str := ["rows", "numbers", "costs", "lines", "goals", "turns", "first", "whole", "found", "factors", "sign", "one"]
theorem scLeast : FnScope nLst ["rows", "numbers", "costs"] (defScope sLeast) := ⟨rfl, rfl, rfl, by decide +kernel, rfl, by decide +kernel, by decide +kernel⟩
theorem ok_least {f C CV CN fV fN : Addr} {fd fdN : FuncData} (F : Fun K "least" "least" sLeast f fd) (T : Tx K C) (DU : Df P w K mg base CX0 4 "led_up" ["rows", "numbers"] (spLed K)) (DK : Dk P w K mg base C 1 "Turns" ["self", "rows", "numbers"] (spTInit K C))
    (DI : Dm P w K mg base C 5 "improve" ["self", "costs", "most"] (spImprove K C)) (DL : Dm P w K mg base C 4 "left" ["self", "costs"] (spLeft K C)) (DA : Dm P w K mg base C 1 "amounts" ["self"] (spAmounts K C)) (DF : Dm P w K mg base C 5 "factors" ["self", "costs"] (spFactors K C))
    (DE : Dm P w K mg base C 5 "settle" ["self"] (spSettle K C))
    (DS : Df P w K mg base CX0 1 "signs_of" ["numbers"] (spSigns K)) (DT : Df P w K mg base CX0 3 "times" ["one", "other"] (spBin K (fun _ _ => True) fun p q => p * q)) (DC : Df P w K mg base CX0 5 "scalar" ["one", "other"] (spScalar K))
    (EF : ErrF P K CV CN fV fN) (FN : FnOk P w K mg base CX0 2 fN fdN ["self"] (spNInit CN)) (bN : Binds K fdN ["self"] []) (mN : mg "NoFraction" = some (.ref CN))
    {z o : Addr} (mz : mg "ZERO" = some (.ref z)) (fz : ∀ H, Fr K H (.ref z) 0) (mo : mg "ONE" = some (.ref o)) (fo : ∀ H, Fr K H (.ref o) 1) (zN : mg "len" = none) (zZ : mg "zip" = none) (zT : mg "tuple" = none) (zL : mg "list" = none) :
    FnOk P w K mg base (L2.CX P w) 6 f fd ["rows", "numbers", "costs"] (spLeast K CN) := by
  refine F.okX scLeast (fun vs H Q E h => ?_) (fun cdv A outer s H vs Q E hr h => ?_)
  · obtain ⟨u, v, cv, m, n, R, g, c, rfl, _⟩ := h
    rfl
  · obtain ⟨u, v, cv, m, n, R, g, c, rfl, ⟨hR, hN, S⟩, hcv, hcs, kn, kt, ke⟩ := h
    refine ⟨_, pss_cons (ps_if (pt_cmpR op_eq (pe_callB call_len_seq (by rfl) zN PySem.boot_len (pa_cons (pv 0) pa_nil)) pe_int (nomark _)) pss_never pss_nil)
      (pss_cons (ps_asg (pe_callD DU hr (by decide) (by rfl) pass0 (pa_cons (pv 0) (pa_cons (pv 1) pa_nil))) (pg_tup rfl (pgs_cons (pg_name (i := 3) scLeast.nd rfl (.inl rfl)) (pgs_cons (pg_name (i := 4) scLeast.nd rfl (.inl rfl)) pgs_nil))))
      (pss_cons (ps_set (i := 5) scLeast.nd rfl (.inl rfl) (pe_makeD DK hr (by decide) (by rfl) (pa_cons (pv 3) (pa_cons (pv 4) pa_nil))))
      (pss_cons (ps_set (i := 6) scLeast.nd rfl (.inl rfl) (pe_op op_cat (pe_op op_rep (pe_lst (pa_cons (pe_glob (v := V.ref z) (by rfl) mz rfl) pa_nil)) (pe_fld (pv 5) rfl)) (pe_op op_rep (pe_lst (pa_cons (pe_glob (v := V.ref o) (by rfl) mo rfl) pa_nil)) (pe_fld (pv 5) rfl))))
      (pss_cons (ps_expr (pe_methD DI T.cl hr (by decide) (pv 5) (pa_cons (pv 6) (pa_cons (pe_op op_add (pe_fld (pv 5) rfl) (pe_fld (pv 5) rfl)) pa_nil))))
      (pss_cons (ps_if (pt_cmpR op_ne (pe_ix (r := rIxT K) ix_tup (pe_ix (r := rIxL K) ix_list (pe_methD DL T.cl hr (by decide) (pv 5) (pa_cons (pv 6) pa_nil)) (pe_un un_neg pe_int) (fun _ _ => rfl)) pe_int (fun _ _ => rfl)) pe_int (nomark _)) (pss_one (ps_ret pe_non)) pss_nil)
      (pss_cons (ps_expr (pe_methD0 DE T.cl hr (by decide) (pv 5)))
      (pss_cons (ps_set (i := 7) scLeast.nd rfl (.inl rfl) (pe_op op_cat (pe_callTy call_list_of (by rfl) zL PyProof.Rows.boot_list (pa_cons (pv 2) pa_nil)) (pe_op op_rep (pe_lst (pa_cons (pe_glob (v := V.ref z) (by rfl) mz rfl) pa_nil)) (pe_fld (pv 5) rfl))))
      (pss_cons (ps_if (pt_not (pt_val (pe_methD DI T.cl hr (by decide) (pv 5) (pa_cons (pv 7) (pa_cons (pe_fld (pv 5) rfl) pa_nil))))) (pss_one (ps_raise rfl (takes_of rfl rfl rfl rfl) (pmk_new0 EF.O EF.iN EF.tN FN (hr.mono (by decide)) bN (by rfl) mN))) pss_nil)
      (pss_cons (ps_set (i := 8) scLeast.nd rfl (.inl rfl) (pe_methD0 DA T.cl hr (by decide) (pv 5)))
      (pss_cons (ps_setLc (own := [("sign", 10), ("one", 11)]) (i := 9) (g := gTup K 2 (gCons (gName 10) (gCons (gName 11) gNil))) (tt := tYes) rfl scLeast.nd rfl rfl (sw_true rfl rfl rfl (by decide +kernel))
            (pi_zipM (by rfl) zZ (pa_cons (pe_callD DS hr (by decide) (by rfl) pass0 (pa_cons (pv 1) pa_nil)) (pa_cons (pe_methD DF T.cl hr (by decide) (pv 5) (pa_cons (pv 7) pa_nil)) pa_nil)))
            (blkOk_by (N := nLst) (sc := defScope sLeast) (by decide +kernel))
            (fun _ _ _ _ _ => pg_tup rfl (pgs_cons (pg_name (i := 10) scLeast.nd rfl (.inl rfl)) (pgs_cons (pg_name (i := 11) scLeast.nd rfl (.inl rfl)) pgs_nil)))
            (fun _ _ _ _ _ => pts_nil)
            (fun _ _ _ _ _ => pe_callD DT hr (by decide) (by rfl) pass0 (pa_cons (pv 10) (pa_cons (pv 11) pa_nil))))
      (pss_one (ps_ret (pe_tup (pa_cons (pe_callD DC hr (by decide) (by rfl) pass0 (pa_cons (pv 2) (pa_cons (pv 8) pa_nil))) (pa_cons (pv 8) (pa_cons (pe_callTy call_tuple_of (by rfl) zT PyProof.Rows.boot_tuple (pa_cons (pv 9) pa_nil)) pa_nil)))))))))))))))), ?_⟩
    obtain ⟨ra, ls, rfl, hra, hll, hrow⟩ := id hR
    have hm3 : m ≤ 3 := by rcases S.hm with e | e | e <;> omega
    have hm0 : 0 < m := by rcases S.hm with e | e | e <;> omega
    have hn := S.hn
    refine ⟨_, rfl, ra, ls, rfl, .inr hra, rfl, _, rfl, ?_⟩
    rw [decide_eq_false (fun z => by have := V.int.inj z; omega)]
    refine iteF ?_
    refine ⟨_, rfl, _, rfl, _, _, m, n, R, g, rfl, hR, hN, hm3, hn, fun i hi j hj => bd_sm (S.bR i hi j hj), fun i hi => bd_sm (S.bg i hi), fun H1 t la ga s1 ht hla hga => ?_⟩
    refine ⟨t, _, rfl, SqT.of ht, rfl, _, _, rfl, _, _, rfl, rfl, ?_⟩
    refine ⟨_, rfl, _, rfl, fun p dx np ndx nex => ?_⟩
    have smk : Same H1 (upd (upd H1 dx (.own p)) p (.ins C dx [])) := (Same.upd ndx).trans (Same.upd (by rw [upd_ne (Ne.symm nex)]; exact np))
    refine ⟨p, dx, la, ga, m, n, R0 R g, g0 g, rfl, upd_same, hla.same smk, hga.same smk, hm0, hm3, hn, fun H2 ba kp nba hT => ⟨rfl, ?_⟩⟩
    have s12 : Same H1 H2 := Same.made np ndx kp
    have s2 := s1.trans s12
    have npH : H p = none := s1.free np
    have nbH : H ba = none := s1.free (smk.free nba)
    obtain ⟨⟨dx2, ra2, rs2, hp2, _, _, _⟩, hba2⟩ := id hT
    refine ⟨(by decide : (1 : Nat) ≤ sizeLine), fun l1 nl1 => ?_⟩
    have t1 := Same.upd (o := .lst [.ref z]) nl1
    have e1 : (upd H2 l1 (.lst [.ref z])) l1 = some (.lst [.ref z]) := upd_same
    generalize upd H2 l1 (.lst [.ref z]) = H3 at t1 e1
    refine ⟨_, rfl, p, C, dx2, _, _, rfl, t1 _ _ hp2, T.cl, T.nM, tf_many, l1, (n : Int), [.ref z], rfl, rfl, e1, by omega, by omega, (by rw [Int.toNat_natCast]; exact Nat.le_of_lt (small1000 (by show 1 * n ≤ 1000; omega))), fun q1 nq1 => ?_⟩
    rw [Int.toNat_natCast, rep1]
    have t2 := Same.upd (o := .lst (List.replicate n (V.ref z))) nq1
    have e2 : (upd H3 q1 (.lst (List.replicate n (V.ref z)))) q1 = some (.lst (List.replicate n (V.ref z))) := upd_same
    generalize upd H3 q1 (.lst (List.replicate n (V.ref z))) = H4 at t2 e2
    refine ⟨(by decide : (1 : Nat) ≤ sizeLine), fun l2 nl2 => ?_⟩
    have t3 := Same.upd (o := .lst [.ref o]) nl2
    have e3 : (upd H4 l2 (.lst [.ref o])) l2 = some (.lst [.ref o]) := upd_same
    generalize upd H4 l2 (.lst [.ref o]) = H5 at t3 e3
    refine ⟨_, rfl, p, C, dx2, _, _, rfl, ((t1.trans t2).trans t3) _ _ hp2, T.cl, T.nH, tf_high, l2, (m : Int), [.ref o], rfl, rfl, e3, by omega, by omega, (by rw [Int.toNat_natCast]; exact Nat.le_of_lt (small1000 (by show 1 * m ≤ 1000; omega))), fun q2 nq2 => ?_⟩
    rw [Int.toNat_natCast, rep1]
    have t4 := Same.upd (o := .lst (List.replicate m (V.ref o))) nq2
    have e4 : (upd H5 q2 (.lst (List.replicate m (V.ref o)))) q2 = some (.lst (List.replicate m (V.ref o))) := upd_same
    generalize upd H5 q2 (.lst (List.replicate m (V.ref o))) = H6 at t4 e4
    refine ⟨q1, q2, _, _, rfl, rfl, t4 _ _ (t3 _ _ e2), e4, Nat.le_of_lt (small1000 (by rw [List.length_replicate, List.length_replicate]; omega)), fun fa nfa => ?_⟩
    have t5 := Same.upd (o := .lst (List.replicate n (V.ref z) ++ List.replicate m (V.ref o))) nfa
    have e5 : (upd H6 fa (.lst (List.replicate n (V.ref z) ++ List.replicate m (V.ref o)))) fa = some (.lst (List.replicate n (V.ref z) ++ List.replicate m (V.ref o))) := upd_same
    generalize upd H6 fa (.lst (List.replicate n (V.ref z) ++ List.replicate m (V.ref o))) = H7 at t5 e5
    have t26 := ((t1.trans t2).trans t3).trans t4
    have t27 := t26.trans t5
    have hT7 := hT.same t27
    have hfa : FrL K H7 fa (n + m) (c1 m n) := ⟨_, e5, ones (fz _) (fo _)⟩
    have nfb : fa ≠ ba := fun y => by
      subst y
      rw [t26 _ _ hba2] at nfa
      cases nfa
    have hp7 := t27 _ _ hp2
    have hba7 := t27 _ _ hba2
    have s7 := s2.trans t27
    refine ⟨_, rfl, p, dx2, _, rfl, hp7, tf_no (by decide +kernel) (by decide +kernel) (by decide +kernel) (by decide +kernel), _, rfl, _, rfl, p, C, dx2, _, _, rfl, hp7, T.cl, T.nM, tf_many, _, rfl, p, C, dx2, _, _, rfl, hp7, T.cl, T.nH, tf_high, _, _, rfl, rfl,
      p, ba, m, n, T0 m n R g, (T0 m n R g).r, fa, c1 m n, n + m, (by rw [Int.natCast_add]; rfl), hT7, gd0 S, hfa, nfb, csz1, Nat.le_refl _, fun H8 T' kp8 hT8 G8 _ hall => ?_, fun H8 T' _ _ _ _ ⟨q, _, h1, h2⟩ => (first_ends h1 h2).elim⟩
    have s8 := sameK s7 kp8 npH nbH
    have hfa8 := kp8.frL hp7 hba7 nfb hfa
    obtain ⟨⟨dx8, ra8, rs8, hp8, _, _, _⟩, hba8⟩ := id hT8
    refine ⟨_, rfl, p, dx8, _, rfl, hp8, tf_no (by decide +kernel) (by decide +kernel) (by decide +kernel) (by decide +kernel), _, rfl, p, ba, m, n, T', _, c1 m n, rfl, hT8, G8.tsz, hfa8.toA, csz1, fun H9 la9 s89 fl9 => ?_⟩
    obtain ⟨wl, hwl, fwl⟩ := id fl9
    obtain ⟨vN, evN, ⟨aN, rfl, haN⟩⟩ := at_last fwl
    have s9 := s8.trans s89
    refine ⟨1, rfl, la9, wl, _, _, rfl, rfl, SqL.of hwl, evN, aN, _, _, _, rfl, rfl, haN, at0, rfl, _, rfl, ?_⟩
    have hp9 := s89 _ _ hp8
    by_cases h0 : line m (c1 m n) T' (n + m) = 0
    · rw [show decide (V.int (line m (c1 m n) T' (n + m)).num = V.int 0) = true from decide_eq_true (by rw [h0]; rfl)]
      refine iteF ?_
      have hT9 := hT8.same s89
      have zz := first_x G8.val G8.nn h0
      -- settle
      refine ⟨_, rfl, p, dx8, _, rfl, hp9, tf_no (by decide +kernel) (by decide +kernel) (by decide +kernel) (by decide +kernel), p, ba, m, n, T', (T0 m n R g).r, rfl, hT9, G8, zz, fun Ha T1 kpa hTa Ga Aa => ?_⟩
      have hba9 := s89 _ _ hba8
      have sa := sameK s9 kpa npH nbH
      obtain ⟨⟨dxa, raa, rsa, hpa, _, _, _⟩, hbaa⟩ := id hTa
      obtain ⟨ca, wc, rfl, hwc, fwc⟩ := id hcv
      have fea : Fe m n R g (sol m (n + m) T1) := feA_iff.mp (Ga.val.fe Ga.nn fun i hi hb => (Aa i hi hb).1)
      -- whole
      refine ⟨_, rfl, ca, wc, rfl, .inr (Same.sqT sa hwc), fun l1 nl1 => ?_⟩
      have u1 := Same.upd (o := .lst wc) nl1
      have f1 : (upd Ha l1 (.lst wc)) l1 = some (.lst wc) := upd_same
      generalize upd Ha l1 (.lst wc) = Hb at u1 f1
      refine ⟨(by decide : (1 : Nat) ≤ sizeLine), fun l2 nl2 => ?_⟩
      have u2 := Same.upd (o := .lst [.ref z]) nl2
      have f2 : (upd Hb l2 (.lst [.ref z])) l2 = some (.lst [.ref z]) := upd_same
      generalize upd Hb l2 (.lst [.ref z]) = Hc at u2 f2
      refine ⟨_, rfl, p, C, dxa, _, _, rfl, (u1.trans u2) _ _ hpa, T.cl, T.nH, tf_high, l2, (m : Int), [.ref z], rfl, rfl, f2, by omega, by omega, (by rw [Int.toNat_natCast]; exact Nat.le_of_lt (small1000 (by show 1 * m ≤ 1000; omega))), fun l3 nl3 => ?_⟩
      rw [Int.toNat_natCast, rep1]
      have u3 := Same.upd (o := .lst (List.replicate m (V.ref z))) nl3
      have f3 : (upd Hc l3 (.lst (List.replicate m (V.ref z)))) l3 = some (.lst (List.replicate m (V.ref z))) := upd_same
      generalize upd Hc l3 (.lst (List.replicate m (V.ref z))) = Hd at u3 f3
      refine ⟨l1, l3, _, _, rfl, rfl, u3 _ _ (u2 _ _ f1), f3, Nat.le_of_lt (small1000 (by rw [fwc.1, List.length_replicate]; omega)), fun wa nwa => ?_⟩
      have u4 := Same.upd (o := .lst (wc ++ List.replicate m (V.ref z))) nwa
      have f4 : (upd Hd wa (.lst (wc ++ List.replicate m (V.ref z)))) wa = some (.lst (wc ++ List.replicate m (V.ref z))) := upd_same
      generalize upd Hd wa (.lst (wc ++ List.replicate m (V.ref z))) = He at u4 f4
      have uad := (u1.trans u2).trans u3
      have uae := uad.trans u4
      have nwb : wa ≠ ba := fun y => by
        subst y
        rw [uad _ _ hbaa] at nwa
        cases nwa
      have se := sa.trans uae
      have hwa : FrL K He wa (n + m) (c2 n c) := ⟨_, f4, FrS.app (fwc.same se) (FrS.rep (fz _)) (fun j hj => c2_lo hj) (fun j _ => c2_hi (by omega))⟩
      have Z2 : CSz (n + m) (c2 n c) := csz2 hcs
      have hpe := uae _ _ hpa
      have hbae := uae _ _ hbaa
      refine ⟨_, rfl, p, dxa, _, rfl, hpe, tf_no (by decide +kernel) (by decide +kernel) (by decide +kernel) (by decide +kernel), _, rfl, _, rfl, p, C, dxa, _, _, rfl, hpe, T.cl, T.nM, tf_many,
        p, ba, m, n, T1, (T0 m n R g).r, wa, c2 n c, n, rfl, hTa.same uae, Ga, hwa, nwb, Z2, Nat.le_add_right _ _, fun Hf T2 kpf hTf Gf Rf hall2 => ?_, fun Hf T2 kpf hTf Gf Rf hbad => ?_⟩
      · refine ⟨_, rfl, ?_⟩
        refine iteF ?_
        have sf := sameK se kpf npH nbH
        have hwf := kpf.frL hpe hbae nwb hwa
        have A2 : Ar m n T2 := Ar.rch (T := T1) (fun i hi hb => Aa i hi hb) Rf
        obtain ⟨du, val⟩ := second_told Gf.val A2 hall2
        have fef : Fe m n R g (sol m (n + m) T2) := feA_iff.mp (Gf.val.fe Gf.nn fun i hi hb => (A2 i hi hb).1)
        obtain ⟨⟨dxf, raf, rsf, hpf, _, _, _⟩, hbaf⟩ := id hTf
        refine ⟨_, rfl, p, dxf, _, rfl, hpf, tf_no (by decide +kernel) (by decide +kernel) (by decide +kernel) (by decide +kernel), p, ba, m, n, T2, rfl, hTf, hm3, hn, fun i k hi hk e => Gf.val.inj hi hk e, fun Hg xv sfg frx => ?_⟩
        have sg' := sf.trans sfg
        -- factors
        refine ⟨_, rfl, _, m, g, rfl, hN.same sg', by omega, fun Hh sa2 sgh fsa => ?_⟩
        have hph := sgh _ _ (sfg _ _ hpf)
        refine ⟨_, rfl, p, dxf, _, rfl, hph, tf_no (by decide +kernel) (by decide +kernel) (by decide +kernel) (by decide +kernel), _, rfl, p, ba, m, n, T2, wa, c2 n c, rfl, (hTf.same sfg).same sgh, Gf.tsz, (hwf.same sfg).same sgh, Z2, fun Hi r shi fr => ?_⟩
        obtain ⟨wsg, hsg, fwsg⟩ := fsa.same shi
        obtain ⟨ya, wy, rfl, hy, fwy⟩ := fr
        refine ⟨false, true, sa2, ya, wsg, wy, rfl, SqL.of hsg, hy, fun D nD => lcF (K := K) (walkM fwsg.1 fwy.1) (fun k => sg g k * fac m n (c2 n c) T2 k) nD (by omega) (fun Hj sj => ⟨SqL.of (sj _ _ hsg), Same.sqT sj hy⟩) ?_ ?_⟩
        · rintro i x Hj Hk Q' hi sj ⟨tt, y1, y2, rfl, nt, rfl, g1, g2⟩ kk
          have st := Same.upd (o := .tup [y1, y2]) nt
          refine ⟨tt, _, rfl, SqT.of upd_same, rfl, _, _, rfl, _, _, rfl, rfl, rfl, ?_⟩
          refine ⟨_, rfl, _, rfl, _, _, _, _, rfl, ((fwsg.2 i _ g1).same sj).same st, ((fwy.2 i _ g2).same sj).same st, (sg_sz g i).mono (by decide), (fac_sz Gf.tsz Z2 hi).mono (by decide), True.intro, fun Hl r sl fr => kk _ _ (st.trans sl) fr⟩
        · rintro Hj acc sj hD hf
          have sgj := (sgh.trans shi).trans sj
          have sj' := sg'.trans sgj
          have xz : ∀ j, j < n → Sm 400 (sol m (n + m) T2 j) := fun j _ => sol_sz Gf.tsz
          refine ⟨_, rfl, _, rfl, _, _, n, c, sol m (n + m) T2, true, true, rfl, ⟨ca, wc, rfl, Same.sqT sj' hwc, fwc.same sj'⟩, frx.same sgj, by omega, hcs, xz, fun Hk wv sk fw => ?_⟩
          refine ⟨_, rfl, _, rfl, D, acc, rfl, .inl ⟨SqL.of (sk _ _ hD), fun l nl => ?_⟩⟩
          have sl := Same.upd (o := .tup acc) nl
          refine ⟨(by decide : (3 : Nat) ≤ sizeLine), fun tt ntt => ?_⟩
          have st := Same.upd (o := .tup [wv, xv, .ref l]) ntt
          refine kt _ tt wv xv (.ref l) (sol m (n + m) T2) (fun k => sg g k * fac m n (c2 n c) T2 k) ((sj'.trans sk).trans (sl.trans st)) upd_same ((fw.same sl).same st) ((((frx.same sgj).same sk).same sl).same st) ⟨l, acc, rfl, SqT.of (st _ _ upd_same), ((hf.same sk).same sl).same st⟩ fef (duA_iff.mp du) ?_ xz (fun k hk => ((sg_sz g k).mul (fac_sz Gf.tsz Z2 hk)).mono (by decide))
          rw [← val]
          exact sm_ext m fun k _ => by
            rw [tab0_hi]
            show sg g k * fac m n (c2 n c) T2 k * g k = fac m n (c2 n c) T2 k * (sg g k * g k)
            grind
      · refine ⟨_, rfl, ?_⟩
        refine iteT ?_
        have sf := sameK se kpf npH nbH
        have A2 : Ar m n T2 := Ar.rch (T := T1) (fun i hi hb => Aa i hi hb) Rf
        obtain ⟨q, hq, hl, hcol⟩ := hbad
        intro a na
        refine ⟨a, rfl, upd_same, fun d nd ne => ⟨rfl, d, [("word", .str "nofraction")], upd_same, (by rw [upd_ne ne]; exact upd_same), ?_, ?_⟩⟩
        · rw [upd_ne ne] at nd
          exact nd
        · have nd' : Hf d = none := by rw [upd_ne ne] at nd; exact nd
          refine ke _ d (fun b o e => ?_) upd_same ⟨_, fea⟩ fun y hy => second_ends Gf.val A2 hq hl hcol (fun k => sg g k * y k) (duA_iff.mpr ?_)
          · have e2 := sf b o e
            have n1 : b ≠ a := ne_of_none e2 na
            have n2 : b ≠ d := ne_of_none e2 nd'
            rw [upd_ne n2, del_ne n1, upd_ne n1, upd_ne n2, upd_ne n1]
            exact e2
          · intro j hj
            rw [sm_ext m (g := fun k => y k * R k j) fun k _ => by
              have := sg_sq g k
              show sg g k * (sg g k * y k) * R k j = _
              grind]
            exact hy j hj
    · rw [show decide (V.int (line m (c1 m n) T' (n + m)).num = V.int 0) = false from decide_eq_false (fun y => h0 (Rat.num_eq_zero.mp (V.int.inj y)))]
      refine iteT ?_
      exact kn _ s9 fun x hx => first_bar G8.val G8.nn hall h0 x (feA_iff.mpr hx)
end
end K1
set_option Elab.async false
set_option linter.all false
set_option maxRecDepth 100000
set_option maxHeartbeats 4000000
namespace K1
open PySem L2 Kz Sx
abbrev sLCommon : Stmt := top 23
abbrev sLLow : Stmt := top 24
abbrev sLScal : Stmt := top 25
abbrev sLLess : Stmt := top 26
abbrev sLIsRow : Stmt := top 27
abbrev sLColumn : Stmt := top 29
abbrev sLJudged : Stmt := top 30
/-- _law_low: a positive bottom -/
def spLow (K : PySem.W.Frag) : Sp := fun vs H Q _ => ∃ t b : Int, vs = [.int t, .int b] ∧ 0 < b ∧ b.natAbs < 2 ^ 8900 ∧ ∀ H' r, Same H H' → Fr K H' r (Rat.divInt t b) → Q r H'
def spLScal (K : PySem.W.Frag) : Sp := fun vs H Q _ => ∃ u v k f g b c, ∃ x y : Nat, vs = [u, v] ∧ FrA b K H u k f ∧ FrA c K H v k g ∧ k ≤ 4 ∧ (∀ j, j < k → Sm x (f j)) ∧ (∀ j, j < k → Sm y (g j)) ∧ 0 < x ∧ 0 < y ∧ x + y ≤ 1500 ∧ ∀ H' r, Same H H' → Fr K H' r (sm k fun j => f j * g j) → Q r H'
def spIsRow (K : PySem.W.Frag) : Sp := fun vs H Q _ => ∃ v, ∃ k : Nat, ∃ f, vs = [v, .int (k : Int)] ∧ FrA true K H v k f ∧ Q (.bl true) H
def spColumn (K : PySem.W.Frag) : Sp := fun vs H Q _ => ∃ u m n R, ∃ j : Nat, vs = [u, .int (j : Int)] ∧ FrMT K H u m n R ∧ j < n ∧ m ≤ 10 ∧ ∀ H' a, Same H H' → FrL K H' a m (fun i => R i j) → Q (.ref a) H'
section
variable {P : Program} {w : World} {K : PySem.W.Frag} {mg : Str → Option Value} {base : Heap}
theorem scLCommon : FnScope ["one", "other"] ["one", "other"] (defScope sLCommon) := ⟨rfl, rfl, rfl, by decide +kernel, rfl, by decide +kernel, by decide +kernel⟩
theorem ok_lcommon {f : Addr} {fd : FuncData} (F : Fun K "_law_common" "_law_common" sLCommon f fd) (zA : mg "abs" = none) (zI : mg "int" = none) : FnOk P w K mg base CX0 1 f fd ["one", "other"] spCommon := by
  refine F.ok scLCommon (fun vs H Q E h => ?_) (fun cdv A outer s H vs Q E hr h => ?_)
  · obtain ⟨a, b, rfl, _⟩ := h
    rfl
  · obtain ⟨a, b, rfl, k⟩ := h
    refine ⟨_, pss_cons (ps_par (i := 0) (j := 1) rfl scLCommon.nd rfl rfl (by decide) rfl rfl
        (pa_cons (pe_callB call_abs (by rfl) zA PyProof.Rows.boot_abs (pa_cons (pv 0) pa_nil)) (pa_cons (pe_callB call_abs (by rfl) zA PyProof.Rows.boot_abs (pa_cons (pv 1) pa_nil)) pa_nil)) rfl)
      (pss_cons (ps_while PassesOwn.never (pt_cmpR op_gt (pv 1) pe_int (nomark _))
        (pss_one (ps_par (i := 0) (j := 1) rfl scLCommon.nd rfl rfl (by decide) rfl rfl
          (pa_cons (pv 1) (pa_cons (pe_op op_mod (pe_callTy call_int1 (by rfl) zI PyProof.Rows.boot_int (pa_cons (pv 0) pa_nil)) (pv 1)) pa_nil)) rfl)))
      (pss_one (ps_ret (pv 0)))), ?_⟩
    refine ⟨_, rfl, a, rfl, _, rfl, b, rfl, _, _, rfl, ?_⟩
    refine ⟨fun m σ H1 => ∃ x y : Int, 0 ≤ x ∧ 0 ≤ y ∧ m = y.toNat ∧ H1 = H ∧ σ = [some (.int x), some (.int y)] ∧ Int.gcd x y = Int.gcd a b,
      ⟨_, _, _, ?_, ?_, rfl, rfl, rfl, ?_⟩, ?_⟩
    · split <;> omega
    · split <;> omega
    · split <;> split <;> simp [Int.gcd]
    · rintro m σ H1 ⟨x, y, hx, hy, rfl, rfl, rfl, hg⟩
      refine ⟨_, rfl, _, _, rfl, rfl, _, rfl, ite2 (fun hc => ?_) fun hc => ?_⟩
      · have hy' : 0 < y := of_decide_eq_true hc
        refine ⟨fun σ' H' => ∃ m', m' < y.toNat ∧ ∃ x y : Int, 0 ≤ x ∧ 0 ≤ y ∧ m' = y.toNat ∧ H' = H1 ∧ σ' = [some (.int x), some (.int y)] ∧ Int.gcd x y = Int.gcd a b, fun _ _ q => q, ?_⟩
        refine ⟨_, rfl, _, rfl, .inl ⟨x, rfl, _, rfl, _, _, rfl, rfl, hy', _, _, rfl, _, ?_, _, _, hy, Int.emod_nonneg _ (by omega), rfl, rfl, rfl, ?_⟩⟩
        · have h1 := Int.emod_nonneg x (b := y) (by omega)
          have h2 := Int.emod_lt_of_pos x hy'
          omega
        · rw [gcd_step hx hy', hg]
      · have hy' : ¬ 0 < y := fun z => hc (decide_eq_true z)
        have ey : y = 0 := by omega
        subst ey
        refine ⟨_, rfl, ?_⟩
        have : x = ((Int.gcd a b : Nat) : Int) := by
          rw [← hg, Int.gcd_zero_right]
          omega
        rw [← this] at k
        exact k
theorem scLLow : FnScope ["top", "bottom", "by"] ["top", "bottom"] (defScope sLLow) := ⟨rfl, rfl, rfl, by decide +kernel, rfl, by decide +kernel, by decide +kernel⟩
theorem ok_llow {f : Addr} {fd : FuncData} (F : Fun K "_law_low" "_law_low" sLLow f fd) (D : Df P w K mg base CX0 1 "_law_common" ["one", "other"] spCommon) : FnOk P w K mg base CX0 2 f fd ["top", "bottom"] (spLow K) := by
  refine F.ok scLLow (fun vs H Q E h => ?_) (fun cdv A outer s H vs Q E hr h => ?_)
  · obtain ⟨a, b, rfl, _⟩ := h
    rfl
  · obtain ⟨t, b, rfl, h0, hb, k⟩ := h
    refine ⟨_, pss_cons (ps_set (i := 2) scLLow.nd rfl (.inl rfl) (pe_callD D hr (by decide) (by rfl) pass0 (pa_cons (pv 0) (pa_cons (pv 1) pa_nil))))
      (pss_one (ps_ret (pe_tup (pa_cons (pe_op op_fdivW (pv 0) (pv 2)) (pa_cons (pe_op op_fdivW (pv 1) (pv 2)) pa_nil))))), ?_⟩
    have dv : ∀ i, CDivW i (Int.gcd t b : Nat) := fun i => by
      have h3 := Int.gcd_pos_of_ne_zero_right t (b := b) (by omega)
      have h4 : Int.gcd t b ≤ b.natAbs := Nat.le_of_dvd (by omega) (Int.gcd_dvd_natAbs_right t b)
      exact wide_div (b := 8900) (by omega) (Nat.lt_of_le_of_lt h4 hb) (by decide) (by decide)
    refine ⟨_, rfl, _, rfl, t, b, rfl, ?_⟩
    refine ⟨_, rfl, _, rfl, _, _, rfl, rfl, dv _, _, rfl, _, rfl, _, _, rfl, rfl, dv _, sz2, fun p np => ?_⟩
    obtain ⟨e1, e2⟩ := frac_num h0 (t := t) (g := (Int.gcd t b : Nat)) rfl
    exact k _ _ (Same.upd np) ⟨p, rfl, SqT.of (by rw [upd_same, ← e1, ← e2])⟩
abbrev nLSc : List Str := ["one", "other", "found", "a", "b", "part"]
theorem scLScal : FnScope nLSc ["one", "other"] (defScope sLScal) := ⟨rfl, rfl, rfl, by decide +kernel, rfl, by decide +kernel, by decide +kernel⟩
theorem ok_lscal {f : Addr} {fd : FuncData} (F : Fun K "_law_scalar" "_law_scalar" sLScal f fd) (D : Df P w K mg base CX0 2 "_law_low" ["top", "bottom"] (spLow K)) (zZ : mg "zip" = none) : FnOk P w K mg base CX0 3 f fd ["one", "other"] (spLScal K) := by
  refine F.ok scLScal (fun vs H Q E h => ?_) (fun cdv A outer s H vs Q E hr h => ?_)
  · obtain ⟨u, v, k, f, g, b, c, x, y, rfl, _⟩ := h
    rfl
  · obtain ⟨u, v, n, f, g, b, c, x, y, rfl, ⟨a1, us, rfl, hS1, hF1⟩, ⟨a2, ws, rfl, hS2, hF2⟩, hn, z1, z2, x0, y0, hxy, k⟩ := h
    refine ⟨_, pss_cons (ps_set (i := 2) scLScal.nd rfl (.inl rfl) (pe_tup (pa_cons pe_int (pa_cons pe_int pa_nil))))
      (pss_cons (ps_for PassesOwn.never rfl (pi_zipM (by rfl) zZ (pa_cons (pv 0) (pa_cons (pv 1) pa_nil))) (pg_tup rfl (pgs_cons (pg_name (i := 3) scLScal.nd rfl (.inl rfl)) (pgs_cons (pg_name (i := 4) scLScal.nd rfl (.inl rfl)) pgs_nil)))
        (pss_cons (ps_set (i := 5) scLScal.nd rfl (.inl rfl) (pe_tup (pa_cons (pe_op op_mulW (pe_ix (r := rIxT K) ix_tup (pv 3) pe_int (fun _ _ => rfl)) (pe_ix (r := rIxT K) ix_tup (pv 4) pe_int (fun _ _ => rfl))) (pa_cons (pe_op op_mulW (pe_ix (r := rIxT K) ix_tup (pv 3) pe_int (fun _ _ => rfl)) (pe_ix (r := rIxT K) ix_tup (pv 4) pe_int (fun _ _ => rfl))) pa_nil))))
        (pss_one (ps_set (i := 2) scLScal.nd rfl (.inl rfl) (pe_callD D hr (by decide) (by rfl) pass0
          (pa_cons (pe_op op_add (pe_op op_mulW (pe_ix (r := rIxT K) ix_tup (pv 2) pe_int (fun _ _ => rfl)) (pe_ix (r := rIxT K) ix_tup (pv 5) pe_int (fun _ _ => rfl))) (pe_op op_mulW (pe_ix (r := rIxT K) ix_tup (pv 5) pe_int (fun _ _ => rfl)) (pe_ix (r := rIxT K) ix_tup (pv 2) pe_int (fun _ _ => rfl))))
          (pa_cons (pe_op op_mulW (pe_ix (r := rIxT K) ix_tup (pv 2) pe_int (fun _ _ => rfl)) (pe_ix (r := rIxT K) ix_tup (pv 5) pe_int (fun _ _ => rfl))) pa_nil)))))))
      (pss_one (ps_ret (pv 2)))), ?_⟩
    refine ⟨sz2, fun t0 nt0 => ?_⟩
    have s0 := Same.upd (o := .tup [.int 0, .int 1]) nt0
    refine ⟨_, rfl, _, rfl, b, c, a1, a2, us, ws, rfl, Same.sq s0 hS1, Same.sq s0 hS2, for_it (walkM hF1.1 hF2.1) (fun i σ H1 => Same H H1 ∧ ∃ r o3 o4 o5, σ = [some (.ref a1), some (.ref a2), some r, o3, o4, o5] ∧ Fr K H1 r (sm i fun j => f j * g j))
      ⟨s0, _, none, none, none, rfl, t0, rfl, SqT.of upd_same⟩ (fun i σ H1 _ q => ⟨Same.sq q.1 hS1, Same.sq q.1 hS2⟩) ?_ ?_⟩
    · rintro i x1 σ H1 H2 hi ⟨s1, r, o3, o4, o5, rfl, fr⟩ ⟨t, y1, y2, rfl, nt, rfl, e1, e2⟩
      have st := Same.upd (o := .tup [y1, y2]) nt
      have ht : (upd H1 t (.tup [y1, y2])) t = some (.tup [y1, y2]) := upd_same
      generalize upd H1 t (.tup [y1, y2]) = H2 at st ht
      have s2 := s1.trans st
      obtain ⟨b1, rfl, hb1⟩ := (hF1.2 i _ e1).same s2
      obtain ⟨b2, rfl, hb2⟩ := (hF2.2 i _ e2).same s2
      obtain ⟨b3, rfl, hb3⟩ := fr.same st
      have q1 := z1 i hi
      have q2 := z2 i hi
      have q3 : Sm 6010 (sm i fun j => f j * g j) := (sm_Sm (s := x + y) fun j hj => (z1 j (by omega)).mul (z2 j (by omega))).mono (by
        have : i * (x + y + 1) ≤ 4 * 1501 := Nat.mul_le_mul (by omega) (by omega)
        omega)
      refine ⟨t, _, rfl, SqT.of ht, rfl, _, _, rfl, _, _, rfl, rfl, ?_⟩
      refine ⟨_, rfl, b1, _, _, _, rfl, rfl, hb1, at0, _, rfl, b2, _, _, _, rfl, rfl, hb2, at0, _, _, rfl, rfl, wide_mul q1.1 q2.1 x0 y0 (by omega), _, rfl, b1, _, _, _, rfl, rfl, hb1, at1, _, rfl, b2, _, _, _, rfl, rfl, hb2, at1, _, _, rfl, rfl, wide_mul q1.d q2.d x0 y0 (by omega), sz2, fun t2 nt2 => ?_⟩
      have st2 := Same.upd (o := .tup [.int ((f i).num * (g i).num), .int ((f i).den * (g i).den)]) nt2
      have ht2 : (upd H2 t2 (.tup [.int ((f i).num * (g i).num), .int ((f i).den * (g i).den)])) t2 = some (.tup [.int ((f i).num * (g i).num), .int ((f i).den * (g i).den)]) := upd_same
      change gName 5 _ _ (upd H2 t2 (.tup [.int ((f i).num * (g i).num), .int ((f i).den * (g i).den)])) _
      generalize upd H2 t2 (.tup [.int ((f i).num * (g i).num), .int ((f i).den * (g i).den)]) = H3 at st2 ht2
      have p1 : ((f i).num * (g i).num).natAbs < 2 ^ (x + y) := mulI q1.1 q2.1
      have p2 : ((f i).den * (g i).den : Int).natAbs < 2 ^ (x + y) := mulI q1.d q2.d
      have hb3' := Same.sqT st2 hb3
      have mq : ∀ {i j : Int}, i.natAbs < 2 ^ 6010 → j.natAbs < 2 ^ (x + y) → CMulW i j := fun h1 h2 => wide_mul h1 h2 (by decide) (by omega) (by omega)
      have mq' : ∀ {i j : Int}, i.natAbs < 2 ^ (x + y) → j.natAbs < 2 ^ 6010 → CMulW i j := fun h1 h2 => wide_mul h1 h2 (by omega) (by decide) (by omega)
      refine ⟨_, rfl, b3, _, _, _, rfl, rfl, hb3', at0, _, rfl, t2, _, _, _, rfl, rfl, SqT.of ht2, at1, _, _, rfl, rfl, mq q3.1 p2, _, rfl, t2, _, _, _, rfl, rfl, SqT.of ht2, at0, _, rfl, b3, _, _, _, rfl, rfl, hb3', at1, _, _, rfl, rfl, mq' p1 q3.d, _, _, rfl, rfl,
        _, rfl, b3, _, _, _, rfl, rfl, hb3', at1, _, rfl, t2, _, _, _, rfl, rfl, SqT.of ht2, at1, _, _, rfl, rfl, mq q3.d p2, _, _, rfl, ?_, ?_, fun H4 r4 s4 fr4 => ⟨s2.trans (st2.trans s4), _, _, _, _, rfl, ?_⟩⟩
      · have d1 := (sm i fun j => f j * g j).den_nz
        have d2 := (f i).den_nz
        have d3 := (g i).den_nz
        exact Int.mul_pos (by omega) (Int.mul_pos (by omega) (by omega))
      · exact Nat.lt_of_lt_of_le (mulI q3.d p2) (two_le (by omega))
      · have e : sm (i + 1) (fun j => f j * g j) = Rat.divInt ((sm i fun j => f j * g j).num * ((f i).den * (g i).den) + (f i).num * (g i).num * (sm i fun j => f j * g j).den) ((sm i fun j => f j * g j).den * ((f i).den * (g i).den)) := by
          show (sm i fun j => f j * g j) + f i * g i = _
          rw [mul_eq]
          conv => lhs; rw [rat_split (sm i fun j => f j * g j), Rat.divInt_add_divInt _ _ (den_ne _) (den_dd (f i) (g i))]
        rw [e]
        exact fr4
    · rintro σ H1 ⟨s1, r, o3, o4, o5, rfl, fr⟩
      exact ⟨_, rfl, k H1 r s1 fr⟩
end
end K1
set_option Elab.async false
set_option linter.all false
set_option maxRecDepth 100000
set_option maxHeartbeats 4000000
namespace K1
open PySem L2 Kz Sx
theorem tyT {K : PySem.W.Frag} {H : Hp} {a : Addr} {xs : List V} (h : SqT K H a xs) : TyX K H (.ref a) (.type "tuple") := by
  rcases h with (h | ⟨o, h⟩) | ⟨o, its, n, h1, h2, _⟩
  · exact .base (.tup h)
  · exact .fTuple h
  · exact .kTuple h1 h2
def spLLess (K : PySem.W.Frag) : Sp := fun vs H Q _ => ∃ u v p q, vs = [u, v] ∧ Fr K H u p ∧ Fr K H v q ∧ Sm 7000 p ∧ Sm 7000 q ∧ Q (.bl (decide (p < q))) H
/-- fractions as data -/
def dl : Nat → (Nat → Rat) → List PyData
  | 0, _ => []
  | k + 1, f => dF (f 0) :: dl k fun j => f (j + 1)
theorem dl_dp {K : PySem.W.Frag} {H : Hp} : ∀ {k : Nat} {f : Nat → Rat} {vs : List V}, FrS K H vs k f → DpAll K H vs (dl k f)
  | 0, f, vs, h => by
    have : vs = [] := List.length_eq_zero_iff.mp h.1
    subst this
    exact .nil
  | k + 1, f, [], h => by have := h.1; simp at this
  | k + 1, f, v :: vs, h => .cons (h.2 0 v rfl).dp (dl_dp ⟨by have := h.1; simpa using this, fun j u hu => h.2 (j + 1) u (by simpa using hu)⟩)
theorem dl_lay : ∀ (k : Nat) (f : Nat → Rat), PyData.canLayAll0 (dl k f) = true ∧ PyData.depthAll (dl k f) ≤ 1
  | 0, f => by simp [dl, PyData.canLayAll0, PyData.depthAll]
  | k + 1, f => by
    obtain ⟨h1, h2⟩ := dl_lay k fun j => f (j + 1)
    constructor
    · simp only [dl, dF, PyData.canLayAll0, PyData.canLay0, h1, Bool.and_true]
    · have : PyData.depth (dF (f 0)) = 1 := by simp [dF, PyData.depth, PyData.depthAll]
      simp only [dl, PyData.depthAll, this]
      omega
theorem dl_shaped (k : Nat) (f : Nat → Rat) : SeqAt.shaped (.list (dl k f)) = true := by
  obtain ⟨h1, h2⟩ := dl_lay k f
  have e : PyData.depth (.list (dl k f)) = PyData.depthAll (dl k f) + 1 := by simp [PyData.depth]
  have e2 : PyData.canLay0 (.list (dl k f)) = true := by simp only [PyData.canLay0]; exact h1
  unfold SeqAt.shaped
  rw [e2, Bool.true_and]
  exact decide_eq_true (by omega)
theorem dl_eq : ∀ (k : Nat) (f : Nat → Rat), PyData.eqvAll (dl k f) (dl k f) = true
  | 0, f => by simp [dl, PyData.eqvAll]
  | k + 1, f => by simp [dl, PyData.eqvAll, eqv_dF, dl_eq k]
theorem all_false {acc : List V} {n : Nat} (hl : acc.length = n) (h : ∀ (j : Nat) (y : V), acc[j]? = some y → y = .bl false) : acc = (List.replicate n false).map V.bl := by
  refine List.ext_getElem? fun j => ?_
  rw [List.getElem?_map, List.getElem?_replicate]
  by_cases hj : j < n
  · rw [if_pos hj, List.getElem?_eq_getElem (by omega)]
    exact congrArg some (h j _ (List.getElem?_eq_getElem (by omega)))
  · rw [if_neg hj, List.getElem?_eq_none (by omega)]
    rfl
theorem any_rep (n : Nat) : (List.replicate n false).any id = false := by
  induction n with
  | zero => rfl
  | succ n ih => rw [List.replicate_succ, List.any_cons, ih]; rfl
/-- what least has told -/
structure Told (K : PySem.W.Frag) (H : Hp) (tv : V) (m n : Nat) (R : Nat → Nat → Rat) (g c : Nat → Rat) (val : Rat) (x y : Nat → Rat) : Prop where
  ex : ∃ t wv xv yv, tv = .ref t ∧ SqT K H t [wv, xv, yv] ∧ Fr K H wv val ∧ FrA true K H xv n x ∧ FrA true K H yv m y
  fe : Fe m n R g x
  du : Du m n R c y
  vx : val = sm n fun j => c j * x j
  vy : sm m (fun k => y k * g k) = val
  sx : ∀ j, j < n → Sm 400 (x j)
  sy : ∀ k, k < m → Sm 1100 (y k)
def spJudged (K : PySem.W.Frag) : Sp := fun vs H Q _ => ∃ u v cv tv m n R g c val x y, vs = [u, v, cv, tv] ∧ Inp K H u v m n R g ∧ FrA true K H cv n c ∧ (∀ j, j < n → Sm 100 (c j)) ∧ Told K H tv m n R g c val x y ∧ ∀ H', Same H H' → Q (.bl true) H'
section
variable {P : Program} {w : World} {K : PySem.W.Frag} {mg : Str → Option Value} {base : Heap}
theorem scLLess : FnScope ["one", "other"] ["one", "other"] (defScope sLLess) := ⟨rfl, rfl, rfl, by decide +kernel, rfl, by decide +kernel, by decide +kernel⟩
theorem ok_lless {f : Addr} {fd : FuncData} (F : Fun K "_law_less" "_law_less" sLLess f fd) : FnOk P w K mg base CX0 1 f fd ["one", "other"] (spLLess K) := by
  refine F.ok scLLess (fun vs H Q E h => ?_) (fun cdv A outer s H vs Q E hr h => ?_)
  · obtain ⟨u, v, p, q, rfl, _⟩ := h
    rfl
  · obtain ⟨u, v, p, q, rfl, ⟨a, rfl, ha⟩, ⟨b, rfl, hb⟩, sp, sq, k⟩ := h
    have mv : ∀ {i j : Int}, i.natAbs < 2 ^ 7000 → j.natAbs < 2 ^ 7000 → CMulW i j := fun h k => wide_mul h k (by decide) (by decide) (by decide)
    refine ⟨_, pss_one (ps_ret (pe_cmpR op_lt (pe_op op_mulW (pe_ix ix_tup (pv 0) pe_int (fun _ _ => rfl)) (pe_ix ix_tup (pv 1) pe_int (fun _ _ => rfl))) (pe_op op_mulW (pe_ix ix_tup (pv 1) pe_int (fun _ _ => rfl)) (pe_ix ix_tup (pv 0) pe_int (fun _ _ => rfl))) (nomark _))), ?_⟩
    refine ⟨_, rfl, a, _, _, _, rfl, rfl, ha, at0, _, rfl, b, _, _, _, rfl, rfl, hb, at1, _, _, rfl, rfl, mv sp.1 sq.d,
      _, rfl, b, _, _, _, rfl, rfl, hb, at0, _, rfl, a, _, _, _, rfl, rfl, ha, at1, _, _, rfl, rfl, mv sq.1 sp.d, _, _, rfl, rfl, ?_⟩
    show Q (.bl (decide (p.num * q.den < q.num * p.den))) H
    rw [show decide (p.num * q.den < q.num * p.den) = decide (p < q) from decide_eq_decide.mpr (lt_eq p q).symm]
    exact k
theorem scLIsRow : FnScope ["thing", "many", "one"] ["thing", "many"] (defScope sLIsRow) := ⟨rfl, rfl, rfl, by decide +kernel, rfl, by decide +kernel, by decide +kernel⟩
theorem ok_lisrow {f : Addr} {fd : FuncData} (F : Fun K "_law_is_row" "_law_is_row" sLIsRow f fd) (D : Df P w K mg base CX0 1 "_law_common" ["one", "other"] spCommon) (zI : mg "isinstance" = none) (zT : mg "tuple" = none) (zN : mg "len" = none) : FnOk P w K mg base CX0 2 f fd ["thing", "many"] (spIsRow K) := by
  refine F.ok scLIsRow (fun vs H Q E h => ?_) (fun cdv A outer s H vs Q E hr h => ?_)
  · obtain ⟨v, k, f, rfl, _⟩ := h
    rfl
  · obtain ⟨v, n, f, rfl, ⟨a, ws, rfl, hS, hF⟩, k⟩ := h
    refine ⟨_, pss_cons (ps_if (PW.pt (pw_or (pt_not (pt_val (pe_callB call_isi (by rfl) zI PyProof.Rows.boot_isinstance (pa_cons (pv 0) (pa_cons (pe_bltn (v := V.ty "tuple") (by rfl) zT PyProof.Rows.boot_tuple rfl) pa_nil))))) (pw_or1 (pt_cmpR op_ne (pe_callB call_len_seq (by rfl) zN PySem.boot_len (pa_cons (pv 0) pa_nil)) (pv 1) (nomark _))))) pss_never pss_nil)
      (pss_cons (ps_for PassesOwn.never rfl (pi_tup (pv 0)) (pg_name (i := 2) scLIsRow.nd rfl (.inl rfl))
        (pss_one (ps_if (PW.pt (pw_or (pt_not (pt_val (pe_callB call_isi (by rfl) zI PyProof.Rows.boot_isinstance (pa_cons (pv 2) (pa_cons (pe_bltn (v := V.ty "tuple") (by rfl) zT PyProof.Rows.boot_tuple rfl) pa_nil)))))
          (pw_or (pt_cmpR op_ne (pe_callB call_len_seq (by rfl) zN PySem.boot_len (pa_cons (pv 2) pa_nil)) pe_int (nomark _))
          (pw_or (pt_cmpR op_le (pe_ix (r := rIxT K) ix_tup (pv 2) pe_int (fun _ _ => rfl)) pe_int (nomark _))
          (pw_or1 (pt_cmpR op_ne (pe_callD D hr (by decide) (by rfl) pass0 (pa_cons (pe_ix (r := rIxT K) ix_tup (pv 2) pe_int (fun _ _ => rfl)) (pa_cons (pe_ix (r := rIxT K) ix_tup (pv 2) pe_int (fun _ _ => rfl)) pa_nil))) pe_int (nomark _))))))) pss_never pss_nil)))
      (pss_one (ps_ret pe_bl))), ?_⟩
    refine ⟨_, rfl, _, _, _, _, true, rfl, .ty "tuple", tyT hS, kit_ty (by decide +kernel), _, rfl, iteF ?_⟩
    refine ⟨_, rfl, a, ws, rfl, .inr hS, _, rfl, rfl, _, rfl, ?_⟩
    rw [hF.1, show decide (V.int (n : Int) = V.int (n : Int)) = true from decide_eq_true rfl]
    refine iteF ?_
    refine ⟨_, rfl, a, rfl, ⟨_, hS⟩, for_it (walk_tup (K := K) (a := a) (xs := ws)) (fun i σ H1 => H1 = H ∧ ∃ o2, σ = [some (.ref a), some (.int (n : Int)), o2]) ⟨rfl, none, rfl⟩ (fun i σ H1 _ q => by rw [q.1]; exact hS) ?_ ?_⟩
    · rintro i x σ H1 H2 hi ⟨rfl, o2, rfl⟩ ⟨rfl, hx⟩
      obtain ⟨b, rfl, hb⟩ := hF.2 i x hx
      have d0 := (f i).den_nz
      refine ⟨_, rfl, _, _, _, _, true, rfl, .ty "tuple", tyT hb, kit_ty (by decide +kernel), _, rfl, iteF ?_⟩
      refine ⟨_, rfl, b, _, rfl, .inr hb, rfl, _, rfl, iteF ?_⟩
      refine ⟨_, rfl, b, _, _, _, rfl, rfl, hb, at1, _, _, rfl, rfl, _, rfl, ?_⟩
      rw [decide_eq_false (by omega)]
      refine iteF ?_
      refine ⟨_, rfl, b, _, _, _, rfl, rfl, hb, at0, _, rfl, b, _, _, _, rfl, rfl, hb, at1, _, _, rfl, rfl, _, rfl, ?_⟩
      have e1 : Int.gcd (f i).num ((f i).den : Int) = 1 := (f i).reduced
      rw [e1, show decide (V.int ((1 : Nat) : Int) = V.int 1) = true from decide_eq_true rfl]
      exact iteF ⟨rfl, _, rfl⟩
    · rintro σ H1 ⟨rfl, o2, rfl⟩
      exact k
theorem scLColumn : FnScope ["rows", "at", "row"] ["rows", "at"] (defScope sLColumn) := ⟨rfl, rfl, rfl, by decide +kernel, rfl, by decide +kernel, by decide +kernel⟩
theorem ok_lcolumn {f : Addr} {fd : FuncData} (F : Fun K "_law_column" "_law_column" sLColumn f fd) : FnOk P w K mg base CX0 1 f fd ["rows", "at"] (spColumn K) := by
  refine F.ok scLColumn (fun vs H Q E h => ?_) (fun cdv A outer s H vs Q E hr h => ?_)
  · obtain ⟨u, m, n, R, j, rfl, _⟩ := h
    rfl
  · obtain ⟨u, m, n, R, j, rfl, ⟨a, ls, rfl, hS, hl, hrow⟩, hj, hm, k⟩ := h
    refine ⟨_, pss_one (ps_ret (pe_lc (own := [("row", 2)]) (g := gName 2) (tt := tYes) rfl scLColumn.nd (pi_tup (pv 0))
      (blkOk_by (N := ["rows", "at", "row"]) (sc := defScope sLColumn) (by decide +kernel))
      (fun _ _ _ _ _ => pg_name (i := 2) scLColumn.nd rfl (.inl rfl)) (fun _ _ _ _ _ => pts_nil)
      (fun _ _ _ _ _ => pe_ix (r := rIxT K) ix_tup (pv 2) (pv 1) (fun _ _ => rfl)))), ?_⟩
    refine ⟨_, rfl, a, rfl, ⟨_, hS⟩, fun D nD => lcF (K := K) (walk_tup (K := K) (a := a) (xs := ls)) (fun i => R i j) nD (by omega) (fun H1 s1 => Same.sqT s1 hS) ?_ ?_⟩
    · rintro i x H1 H2 Q' hi s1 ⟨rfl, hx⟩ kk
      obtain ⟨b, ws, rfl, hw, fw⟩ := (hrow i x hx).same s1
      obtain ⟨v, ev, fv⟩ := fw.at hj
      exact ⟨rfl, _, rfl, _, rfl, b, ws, _, _, rfl, rfl, hw, atI_nat ev, kk _ _ (Same.refl _) fv⟩
    · rintro H1 acc s1 hD hf
      rw [hl] at hf
      exact k H1 D s1 ⟨acc, hD, hf⟩
abbrev nLJ : List Str := ["rows", "numbers", "costs", "told", "whole", "weights", "bars", "one", "row", "at"]
theorem scLJudged : FnScope nLJ ["rows", "numbers", "costs", "told"] (defScope sLJudged) := ⟨rfl, rfl, rfl, by decide +kernel, rfl, by decide +kernel, by decide +kernel⟩
theorem ok_ljudged {f : Addr} {fd : FuncData} (F : Fun K "_law_judged" "_law_judged" sLJudged f fd) (DR : Df P w K mg base CX0 2 "_law_is_row" ["thing", "many"] (spIsRow K)) (DS : Df P w K mg base CX0 3 "_law_scalar" ["one", "other"] (spLScal K)) (DL : Df P w K mg base CX0 1 "_law_less" ["one", "other"] (spLLess K))
    (DC : Df P w K mg base CX0 1 "_law_column" ["rows", "at"] (spColumn K)) (zI : mg "isinstance" = none) (zT : mg "tuple" = none) (zN : mg "len" = none) (zA : mg "any" = none) (zR : mg "range" = none) : FnOk P w K mg base CX0 4 f fd ["rows", "numbers", "costs", "told"] (spJudged K) := by
  refine F.ok scLJudged (fun vs H Q E h => ?_) (fun cdv A outer s H vs Q E hr h => ?_)
  · obtain ⟨u, v, cv, tv, m, n, R, g, c, val, x, y, rfl, _⟩ := h
    rfl
  · obtain ⟨u, v, cv, tv, m, n, R, g, c, val, x, y, rfl, ⟨hR, hN, S⟩, hcv, hcs, TD, k⟩ := h
    refine ⟨_, pss_cons (ps_if (PW.pt (pw_or (pt_not (pt_val (pe_callB call_isi (by rfl) zI PyProof.Rows.boot_isinstance (pa_cons (pv 3) (pa_cons (pe_bltn (v := V.ty "tuple") (by rfl) zT PyProof.Rows.boot_tuple rfl) pa_nil))))) (pw_or1 (pt_cmpR op_ne (pe_callB call_len_seq (by rfl) zN PySem.boot_len (pa_cons (pv 3) pa_nil)) pe_int (nomark _))))) pss_never pss_nil)
      (pss_cons (ps_asg (pv 3) (pg_tup rfl (pgs_cons (pg_name (i := 4) scLJudged.nd rfl (.inl rfl)) (pgs_cons (pg_name (i := 5) scLJudged.nd rfl (.inr rfl)) (pgs_cons (pg_name (i := 6) scLJudged.nd rfl (.inr rfl)) pgs_nil)))))
      (pss_cons (ps_if (PW.pt (pw_or (pt_not (pt_val (pe_callD DR hr (by decide) (by rfl) pass0 (pa_cons (pe_tup (pa_cons (pv 4) pa_nil)) (pa_cons pe_int pa_nil)))))
        (pw_or (pt_not (pt_val (pe_callD DR hr (by decide) (by rfl) pass0 (pa_cons (pv 5) (pa_cons (pe_callB call_len_seq (by rfl) zN PySem.boot_len (pa_cons (pv 2) pa_nil)) pa_nil)))))
        (pw_or1 (pt_not (pt_val (pe_callD DR hr (by decide) (by rfl) pass0 (pa_cons (pv 6) (pa_cons (pe_callB call_len_seq (by rfl) zN PySem.boot_len (pa_cons (pv 0) pa_nil)) pa_nil))))))))) pss_never pss_nil)
      (pss_cons (ps_if (pt_val (pe_callB (cr_any rfl) (by rfl) zA PyProof.Rows.boot_any (pa_cons
        (pe_lc (own := [("one", 7)]) (g := gName 7) (tt := tYes) rfl scLJudged.nd (pi_tup (pv 5))
          (blkOk_by (N := nLJ) (sc := defScope sLJudged) (by decide +kernel))
          (fun _ _ _ _ _ => pg_name (i := 7) scLJudged.nd rfl (.inl rfl)) (fun _ _ _ _ _ => pts_nil)
          (fun _ _ _ _ _ => pe_cmpR op_lt (pe_ix (r := rIxT K) ix_tup (pv 7) pe_int (fun _ _ => rfl)) pe_int (nomark _))) pa_nil))) pss_never pss_nil)
      (pss_cons (ps_if (pt_cmpR (op_neD hr.units)
          (pe_lc (own := [("row", 8)]) (g := gName 8) (tt := tYes) rfl scLJudged.nd (pi_tup (pv 0))
            (blkOk_by (N := nLJ) (sc := defScope sLJudged) (by decide +kernel))
            (fun _ _ _ _ _ => pg_name (i := 8) scLJudged.nd rfl (.inl rfl)) (fun _ _ _ _ _ => pts_nil)
            (fun _ _ _ _ _ => pe_callD DS hr (by decide) (by rfl) pass0 (pa_cons (pv 8) (pa_cons (pv 5) pa_nil))))
          (pe_lc (own := [("one", 7)]) (g := gName 7) (tt := tYes) rfl scLJudged.nd (pi_tup (pv 1))
            (blkOk_by (N := nLJ) (sc := defScope sLJudged) (by decide +kernel))
            (fun _ _ _ _ _ => pg_name (i := 7) scLJudged.nd rfl (.inl rfl)) (fun _ _ _ _ _ => pts_nil)
            (fun _ _ _ _ _ => pv 7)) (nomark _)) pss_never pss_nil)
      (pss_cons (ps_if (PW.pt (pw_or (pt_cmpR (op_neD hr.units) (pe_callD DS hr (by decide) (by rfl) pass0 (pa_cons (pv 2) (pa_cons (pv 5) pa_nil))) (pv 4) (nomark _))
          (pw_or1 (pt_cmpR (op_neD hr.units) (pe_callD DS hr (by decide) (by rfl) pass0 (pa_cons (pv 6) (pa_cons (pv 1) pa_nil))) (pv 4) (nomark _))))) pss_never pss_nil)
      (pss_one (ps_ret (pe_not (pe_callB (cr_any rfl) (by rfl) zA PyProof.Rows.boot_any (pa_cons
        (pe_lc (own := [("at", 9)]) (g := gName 9) (tt := tYes) rfl scLJudged.nd (pi_range1 (by rfl) zR (pa_cons (pe_callB call_len_seq (by rfl) zN PySem.boot_len (pa_cons (pv 2) pa_nil)) pa_nil))
          (blkOk_by (N := nLJ) (sc := defScope sLJudged) (by decide +kernel))
          (fun _ _ _ _ _ => pg_name (i := 9) scLJudged.nd rfl (.inl rfl)) (fun _ _ _ _ _ => pts_nil)
          (fun _ _ _ _ _ => pe_callD DL hr (by decide) (by rfl) pass0 (pa_cons (pe_ix (r := rIxT K) ix_tup (pv 2) (pv 9) (fun _ _ => rfl)) (pa_cons (pe_callD DS hr (by decide) (by rfl) pass0 (pa_cons (pv 6) (pa_cons (pe_callD DC hr (by decide) (by rfl) pass0 (pa_cons (pv 0) (pa_cons (pv 9) pa_nil))) pa_nil))) pa_nil)))) pa_nil)))))))))), ?_⟩
    obtain ⟨t, wv, xv, yv, rfl, ht, fw, fx, fy⟩ := TD.ex
    obtain ⟨ca, wc, rfl, hwc, fwc⟩ := id hcv
    obtain ⟨ra, ls, rfl, hra, hll, hrow⟩ := id hR
    obtain ⟨na, wn, rfl, hna, fna⟩ := id hN
    obtain ⟨xa, wx, rfl, hxa, fxa⟩ := id fx
    have hm3 : m ≤ 3 := by rcases S.hm with e | e | e <;> omega
    have hn := S.hn
    have szR : ∀ i, i < m → ∀ j, j < n → Sm 100 (R i j) := fun i hi j hj => bd_sm (S.bR i hi j hj)
    have szg : ∀ i, i < m → Sm 100 (g i) := fun i hi => bd_sm (S.bg i hi)
    refine ⟨_, rfl, _, _, _, _, true, rfl, .ty "tuple", tyT ht, kit_ty (by decide +kernel), _, rfl, iteF ?_⟩
    refine ⟨_, rfl, t, _, rfl, .inr ht, rfl, _, rfl, iteF ?_⟩
    refine ⟨_, rfl, t, _, rfl, ht, rfl, _, _, rfl, _, _, rfl, _, _, rfl, rfl, ?_⟩
    -- rows
    refine ⟨_, rfl, (by decide : (1 : Nat) ≤ sizeLine), fun t1 nt1 => ?_⟩
    have s1 := Same.upd (o := .tup [wv]) nt1
    have ht1 : (upd H t1 (.tup [wv])) t1 = some (.tup [wv]) := upd_same
    generalize upd H t1 (.tup [wv]) = H1 at s1 ht1
    refine ⟨_, 1, fun _ => val, rfl, ⟨t1, [wv], rfl, SqT.of ht1, rfl, fun j u hu => ?_⟩, ?_⟩
    · match j with
      | 0 => cases hu; exact fw.same s1
      | j + 1 => simp at hu
    refine ⟨_, rfl, iteF ?_⟩
    refine ⟨_, rfl, _, rfl, ca, wc, rfl, .inr (Same.sqT s1 hwc), ?_⟩
    rw [fwc.1]
    refine ⟨_, n, x, rfl, fx.same s1, _, rfl, iteF ?_⟩
    refine ⟨_, rfl, _, rfl, ra, ls, rfl, .inr (Same.sqT s1 hra), ?_⟩
    rw [hll]
    refine ⟨_, m, y, rfl, fy.same s1, _, rfl, iteF ?_⟩
    -- none below 0
    refine ⟨_, rfl, xa, rfl, ⟨_, Same.sqT s1 hxa⟩, fun D nD => lcR (walk_tup (K := K) (a := xa) (xs := wx)) (fun i u _ => u = .bl false) (fun _ _ _ _ _ e => e) nD (by rw [fxa.1]; omega) (fun H2 s2 => Same.sqT (s1.trans s2) hxa) ?_ ?_⟩
    · rintro i u H2 H3 Q' hi s2 _ ⟨rfl, hu⟩ kk
      rw [fxa.1] at hi
      obtain ⟨b, rfl, hb⟩ := (fxa.2 i u hu).same (s1.trans s2)
      refine ⟨rfl, _, rfl, b, _, _, _, rfl, rfl, hb, at0, _, _, rfl, rfl, kk _ _ (Same.refl _) ?_⟩
      have h0 : ¬ (x i).num < 0 := fun z => by
        have h1 := num_neg.mp z
        have h2 := TD.fe.1 i hi
        grind
      exact congrArg V.bl (decide_eq_false h0)
    · rintro H2 acc s2 hD hl hr
      have s12 := s1.trans s2
      refine ⟨D, List.replicate wx.length false, rfl, SqL.of (by rw [hD, all_false hl hr]), _, rfl, ?_⟩
      rw [any_rep]
      refine iteF ?_
      -- the numbers are made
      refine ⟨_, rfl, ra, rfl, ⟨_, Same.sqT s12 hra⟩, fun D2 nD2 => lcF (K := K) (walk_tup (K := K) (a := ra) (xs := ls)) g nD2 (by omega) (fun H3 s3 => Same.sqT (s12.trans s3) hra) ?_ ?_⟩
      · rintro i u H3 H4 Q' hi s3 ⟨rfl, hu⟩ kk
        rw [hll] at hi
        have s13 := s12.trans s3
        refine ⟨rfl, _, rfl, _, rfl, u, _, n, R i, x, true, true, 100, 400, rfl, (hrow i u hu).same s13, fx.same s13, by omega, szR i hi, TD.sx, by decide, by decide, by decide, fun H5 r s5 fr => kk _ _ s5 ?_⟩
        rw [← TD.fe.2 i hi]
        exact fr
      · rintro H3 acc2 s3 hD2 hf2
        rw [hll] at hf2
        have s13 := s12.trans s3
        refine ⟨_, rfl, na, rfl, ⟨_, Same.sqT s13 hna⟩, fun D3 nD3 => lcF (K := K) (walk_tup (K := K) (a := na) (xs := wn)) g nD3 (by rw [fna.1]; omega) (fun H4 s4 => Same.sqT (s13.trans s4) hna) ?_ ?_⟩
        · rintro i u H4 H5 Q' hi s4 ⟨rfl, hu⟩ kk
          exact ⟨rfl, _, rfl, kk _ _ (Same.refl _) ((fna.2 i u hu).same (s13.trans s4))⟩
        · rintro H4 acc3 s4 hD3 hf3
          rw [fna.1] at hf3
          have s14 := s13.trans s4
          refine ⟨_, _, .lst (SqL.of (s4 _ _ hD2)) (dl_dp (hf2.same s4)), .lst (SqL.of hD3) (dl_dp hf3), dl_shaped m g, dl_shaped m g, _, rfl, ?_⟩
          rw [show PyData.eqv (.list (dl m g)) (.list (dl m g)) = true by simp only [PyData.eqv]; exact dl_eq m g]
          refine iteF ?_
          -- the sum
          refine ⟨_, rfl, _, rfl, _, _, n, c, x, true, true, 100, 400, rfl, hcv.same s14, fx.same s14, by omega, hcs, TD.sx, by decide, by decide, by decide, fun H5 r5 s5 fr5 => ?_⟩
          rw [← TD.vx] at fr5
          have s15 := s14.trans s5
          refine ⟨_, rfl, _, _, fr5.dp, (fw.same s15).dp, shaped_dF _, shaped_dF _, _, rfl, ?_⟩
          rw [eqv_dF, decide_eq_true rfl]
          refine iteF ?_
          refine ⟨_, rfl, _, rfl, _, _, m, y, g, true, true, 1100, 100, rfl, fy.same s15, hN.same s15, by omega, TD.sy, szg, by decide, by decide, by decide, fun H6 r6 s6 fr6 => ?_⟩
          rw [TD.vy] at fr6
          have s16 := s15.trans s6
          refine ⟨_, rfl, _, _, fr6.dp, (fw.same s16).dp, shaped_dF _, shaped_dF _, _, rfl, ?_⟩
          rw [eqv_dF, decide_eq_true rfl]
          refine iteF ?_
          -- the bars
          refine ⟨_, rfl, ca, wc, rfl, .inr (Same.sqT s16 hwc), (wc.length : Int), rfl, by omega, by rw [fwc.1]; omega, fun D7 nD7 => lcR (walk_range (lo := 0) (n := (wc.length : Int).toNat)) (fun i u _ => u = .bl false) (fun _ _ _ _ _ e => e) nD7 (by rw [Int.toNat_natCast, fwc.1]; omega) (fun _ _ => True.intro) ?_ ?_⟩
          · rintro j u H7 H8 Q' hj s7 _ ⟨rfl, rfl⟩ kk
            rw [Int.toNat_natCast, fwc.1] at hj
            have s17 := s16.trans s7
            obtain ⟨vc, evc, fvc⟩ := fwc.at hj
            refine ⟨rfl, _, rfl, _, rfl, ca, wc, _, _, rfl, rfl, Same.sqT s17 hwc, at_of (Int.zero_add _) evc, ?_⟩
            refine ⟨_, rfl, _, rfl, _, rfl, _, m, n, R, j, (by show [V.ref ra, V.int (0 + (j : Int))] = [V.ref ra, V.int (j : Int)]; rw [Int.zero_add]), hR.same s17, hj, by omega, fun H9 ac s9 fcol => ?_⟩
            have s19 := s17.trans s9
            refine ⟨_, _, m, y, _, true, false, 1100, 100, rfl, fy.same s19, fcol.toA, by omega, TD.sy, fun i hi => szR i hi j hj, by decide, by decide, by decide, fun H10 r10 s10 fr10 => ?_⟩
            refine ⟨_, _, _, _, rfl, fvc.same (s19.trans s10), fr10, (hcs j hj).mono (by decide), (sm_Sm (s := 1200) fun i hi => (TD.sy i hi).mul (szR i hi j hj)).mono (by
              have : m * (1200 + 1) ≤ 3 * 1201 := Nat.mul_le_mul_right _ hm3
              omega), ?_⟩
            refine kk _ _ (s9.trans s10) (congrArg V.bl (decide_eq_false fun z => ?_))
            have := TD.du j hj
            grind
          · rintro H7 acc7 s7 hD7 hl7 hr7
            refine ⟨D7, List.replicate _ false, rfl, SqL.of (by rw [hD7, all_false hl7 hr7]), _, rfl, ?_⟩
            rw [any_rep]
            exact k _ (s16.trans s7)
end
end K1
set_option Elab.async false
set_option linter.all false
set_option maxRecDepth 100000
set_option maxHeartbeats 8000000
namespace K1
open PySem L2 Kz Sx
abbrev sLHand : Stmt := top 21
abbrev sLDraw : Stmt := top 22
abbrev sLRows : Stmt := top 28
/-- the hand at ha, its cells at ca -/
structure HandAt (H : Hp) (ha ca : Addr) (ns : List Int) : Prop where
  ex : ∃ i d s e : Int, H ha = some (.lst [.ref ca, .int i, .int d, .int s, .int e]) ∧ 0 ≤ i
  cs : H ca = some (.lst (ns.map V.int))
  ne : ca ≠ ha
  len : ns.length ≤ 63
/-- all but the hand is kept -/
def KpH (ha : Addr) (H H' : Hp) : Prop := ∀ b o, b ≠ ha → H b = some o → H' b = some o
theorem KpH.trans {ha : Addr} {H H1 H2 : Hp} (a : KpH ha H H1) (b : KpH ha H1 H2) : KpH ha H H2 := fun c o n e => b c o n (a c o n e)
theorem KpH.of {ha : Addr} {H H' : Hp} (s : Same H H') : KpH ha H H' := fun c o _ e => s c o e
theorem HandAt.same {H H' : Hp} {ha ca : Addr} {ns : List Int} (s : Same H H') (h : HandAt H ha ca ns) : HandAt H' ha ca ns := by
  obtain ⟨i, d, x, e, h1, h2⟩ := h.ex
  exact ⟨⟨i, d, x, e, s _ _ h1, h2⟩, s _ _ h.cs, h.ne, h.len⟩
theorem HandAt.at {H : Hp} {ha ca : Addr} {ns : List Int} (h : HandAt H ha ca ns) : ∃ xs, H ha = some (.lst xs) := let ⟨_, _, _, _, h1, _⟩ := h.ex; ⟨_, h1⟩
theorem KpH.d {H H' : Hp} {ha ca : Addr} {ns : List Int} (k : KpH ha H H') (h : HandAt H ha ca ns) : KpD ha H H' := ⟨h.at, k⟩
theorem KpH.sqT {K : PySem.W.Frag} {H H' : Hp} {ha ca a : Addr} {ns : List Int} {xs : List V} (k : KpH ha H H') (h : HandAt H ha ca ns) (q : SqT K H a xs) : SqT K H' a xs := (k.d h).sqT q
theorem KpD.frT {K : PySem.W.Frag} {H H' : Hp} {D : Addr} {v : V} {k : Nat} {f : Nat → Rat} (e : KpD D H H') (h : FrA true K H v k f) : FrA true K H' v k f := by
  obtain ⟨a, vs, h1, h2, h3⟩ := h
  exact ⟨a, vs, h1, e.sqT h2, e.frS h3⟩
theorem KpD.frMT {K : PySem.W.Frag} {H H' : Hp} {D : Addr} {v : V} {m n : Nat} {R : Nat → Nat → Rat} (e : KpD D H H') (h : FrMT K H v m n R) : FrMT K H' v m n R := by
  obtain ⟨a, ls, h1, h2, h3, h4⟩ := h
  exact ⟨a, ls, h1, e.sqT h2, h3, fun i u hu => e.frT (h4 i u hu)⟩
/-- a comprehension that draws -/
theorem lcH {J : It} {n : Nat} {G : Hp → Prop} {Y : Nat → Hp → V → Hp → Prop} {ha ca : Addr} {ns : List Int} (w : Walk J n G Y) {g : TG} {te : TE} {vs : List Nat} {σ : St} {H1 : Hp} {D : Addr} {Qd : Hp → Prop} (R : Nat → V → Hp → Prop)
    (hR : ∀ i y H H', KpD D H H' → R i y H → R i y H') (hRh : ∀ i y H H', KpD ha H H' → R i y H → R i y H') (h0 : HandAt H1 ha ca ns) (nD : H1 D = none) (hn : n ≤ 1000) (hG : ∀ H, KpH ha H1 H → G H)
    (hs : ∀ i x H H' (Q : VK), i < n → KpH ha H1 H → HandAt H ha ca ns → Y i H x H' → (∀ y H4, KpH ha H H4 → HandAt H4 ha ca ns → R i y H4 → Q y H4) → g x (wipe σ vs) H' fun σ2 H2 => wipe σ2 vs = wipe σ vs ∧ te σ2 H2 Q)
    (hd : ∀ H acc, KpH ha H1 H → HandAt H ha ca ns → H D = some (.lst acc) → acc.length = n → (∀ j y, acc[j]? = some y → R j y H) → Qd H) :
    ∃ W : Nat → Nat → Hp → Prop, (∃ m, W 0 m (upd H1 D (.lst []))) ∧ ∀ i m H, W i m H →
      (J.stop i H ∧ Qd H) ∨ (J.go i H ∧ ∃ Nx : Hp → Prop, (∀ H', Nx H' → ∃ m', m' < m ∧ W (i + 1) m' H') ∧ ∀ x H', J.yld i H x H' → g x (wipe σ vs) H' fun σ2 H2 => wipe σ2 vs = wipe σ vs ∧ tYes σ2 H2 fun b H3 =>
        if b = true then te σ2 H3 fun y H4 => ∃ acc, H4 D = some (.lst acc) ∧ acc.length < sizeLine ∧ Nx (upd H4 D (.lst (acc ++ [y]))) else Nx H3) := by
  obtain ⟨xs0, hx0⟩ := h0.at
  have nDh : D ≠ ha := fun z => by subst z; rw [hx0] at nD; cases nD
  have nDc : ca ≠ D := fun z => by subst z; rw [h0.cs] at nD; cases nD
  have hup : ∀ {H : Hp} {o : HO}, HandAt H ha ca ns → HandAt (upd H D o) ha ca ns := fun {H o} h => by
    obtain ⟨i, d, x, e, h1, h2⟩ := h.ex
    exact ⟨⟨i, d, x, e, by rw [upd_ne nDh.symm]; exact h1, h2⟩, by rw [upd_ne nDc]; exact h.cs, h.ne, h.len⟩
  have kup : ∀ {H : Hp} {o : HO}, KpH ha H1 H → KpH ha H1 (upd H D o) := fun {H o} k b u n e => by rw [upd_ne (ne_of_none e nD)]; exact k b u n e
  refine lc_it w (tt := tYes) (fun i H => KpH ha H1 H ∧ HandAt H ha ca ns ∧ ∃ acc, H D = some (.lst acc) ∧ acc.length = i ∧ ∀ j y, acc[j]? = some y → R j y H) ⟨kup (fun _ _ _ e => e), hup h0, [], upd_same, rfl, fun j y z => by simp at z⟩ (fun i H _ q => hG H q.1) ?_ ?_
  · rintro i x H H' hi ⟨k1, hh, acc, hD, hl, hr⟩ hy
    refine hs i x H H' _ hi k1 hh hy fun y H4 k4 hh4 r4 => ?_
    have hD4 := k4 _ _ nDh hD
    refine ⟨acc, hD4, small1000 (by omega), kup (k1.trans k4), hup hh4, _, upd_same, by rw [List.length_append, hl]; rfl, fun j u e => ?_⟩
    have kp : KpD D H4 (upd H4 D (.lst (acc ++ [y]))) := ⟨⟨_, hD4⟩, fun b o ne e => by rw [upd_ne ne]; exact e⟩
    have kp0 : KpD ha H H4 := ⟨hh.at, k4⟩
    by_cases hj : j < acc.length
    · rw [List.getElem?_append_left hj] at e
      exact hR _ _ _ _ kp (hRh _ _ _ _ kp0 (hr j u e))
    · rw [List.getElem?_append_right (by omega)] at e
      have z : j - acc.length = 0 := by
        by_cases z : j - acc.length = 0
        · exact z
        · rw [List.getElem?_eq_none (by simp; omega)] at e
          cases e
      rw [z] at e
      have ey : y = u := by simpa using e
      subst ey
      have ej : j = i := by omega
      subst ej
      exact hR _ _ _ _ kp r4
  · rintro H ⟨k1, hh, acc, hD, hl, hr⟩
    exact hd H acc k1 hh hD hl hr
/-- ints one by one -/
theorem ints_of {P : Int → Prop} : ∀ {acc : List V}, (∀ (j : Nat) (y : V), acc[j]? = some y → ∃ z, y = .int z ∧ P z) → ∃ zs : List Int, acc = zs.map V.int ∧ ∀ z ∈ zs, P z
  | [], _ => ⟨[], rfl, fun z hz => by cases hz⟩
  | v :: r, h => by
    obtain ⟨z, rfl, hz⟩ := h 0 v rfl
    obtain ⟨zs, e, p⟩ := ints_of (acc := r) fun j y hy => h (j + 1) y (by simpa using hy)
    exact ⟨z :: zs, by rw [e]; rfl, fun x hx => by
      rcases List.mem_cons.mp hx with e' | hx
      · rw [e']; exact hz
      · exact p x hx⟩
def spHand (K : PySem.W.Frag) : Sp := fun vs H Q _ => ∃ a, ∃ ns : List Int, vs = [.ref a] ∧ SqL K H a (ns.map V.int) ∧ ns.length ≤ 63 ∧ ∀ H' ha ca cs, Same H H' → H ha = none → HandAt H' ha ca cs → Q (.ref ha) H'
def spDraw : Sp := fun vs H Q _ => ∃ ha ca ns, ∃ b : Int, vs = [.ref ha, .int b] ∧ HandAt H ha ca ns ∧ 0 < b ∧ b < 1000 ∧ ∀ H' d, KpH ha H H' → HandAt H' ha ca ns → 0 ≤ d → d < b → Q (.int d) H'
section
variable {P : Program} {w : World} {K : PySem.W.Frag} {mg : Str → Option Value} {base : Heap}
theorem scLHand : FnScope ["script", "cells", "cell"] ["script"] (defScope sLHand) := ⟨rfl, rfl, rfl, by decide +kernel, rfl, by decide +kernel, by decide +kernel⟩
theorem ok_lhand {f : Addr} {fd : FuncData} (F : Fun K "_law_hand" "_law_hand" sLHand f fd) (zA : mg "abs" = none) (zI : mg "int" = none) (zN : mg "len" = none) : FnOk P w K mg base CX0 1 f fd ["script"] (spHand K) := by
  refine F.ok scLHand (fun vs H Q E h => ?_) (fun cdv A outer s H vs Q E hr h => ?_)
  · obtain ⟨a, ns, rfl, _⟩ := h
    rfl
  · obtain ⟨a, ns, rfl, hS, hl, k⟩ := h
    refine ⟨_, pss_cons (ps_setLc (own := [("cell", 2)]) (i := 1) (g := gName 2) (tt := tYes) rfl scLHand.nd rfl rfl (sw_true rfl rfl rfl (by decide +kernel)) (pi_list (pe_slice sl_list (pv 0) po_none (po_some pe_int)))
        (blkOk_by (N := ["script", "cells", "cell"]) (sc := defScope sLHand) (by decide +kernel))
        (fun _ _ _ _ _ => pg_name (i := 2) scLHand.nd rfl (.inl rfl)) (fun _ _ _ _ _ => pts_nil)
        (fun _ _ _ _ _ => pe_op op_mod (pe_callTy call_int1 (by rfl) zI PyProof.Rows.boot_int (pa_cons (pe_callB call_abs (by rfl) zA PyProof.Rows.boot_abs (pa_cons (pe_callTy call_int1 (by rfl) zI PyProof.Rows.boot_int (pa_cons (pv 2) pa_nil)) pa_nil)) pa_nil)) (pe_op op_pow pe_int pe_int)))
      (pss_one (ps_ret (pe_lst (pa_cons (pv 1) (pa_cons pe_int (pa_cons pe_int (pa_cons (pe_op op_add pe_int (pe_op op_mul pe_int (pe_callB call_len_seq (by rfl) zN PySem.boot_len (pa_cons (pv 1) pa_nil)))) (pa_cons pe_int pa_nil)))))))), ?_⟩
    refine ⟨_, rfl, 63, rfl, a, _, rfl, hS, fun p np => ?_⟩
    have s1 := Same.upd (o := .lst (cutV (ns.map V.int) none (some 63))) np
    have hp : (upd H p (.lst (cutV (ns.map V.int) none (some 63)))) p = some (.lst (cutV (ns.map V.int) none (some 63))) := upd_same
    have cl := cutV_length (ns.map V.int) none (some 63)
    rw [List.length_map] at cl
    have ci : ∀ (i : Nat) (v : V), (cutV (ns.map V.int) none (some 63))[i]? = some v → ∃ z, v = .int z := fun i v hv => by
      unfold cutV at hv
      rw [← List.map_drop, ← List.map_take, List.getElem?_map] at hv
      cases e : (List.take (HT.sIx (List.map V.int ns).length (List.map V.int ns).length (some 63) - HT.sIx (List.map V.int ns).length 0 none) (List.drop (HT.sIx (List.map V.int ns).length 0 none) ns))[i]? with
      | none => rw [e] at hv; cases hv
      | some z => rw [e] at hv; exact ⟨z, (Option.some.inj hv).symm⟩
    generalize cutV (ns.map V.int) none (some 63) = cv at s1 hp cl ci
    generalize upd H p (.lst cv) = H1 at s1 hp
    refine ⟨p, rfl, ⟨_, SqL.of hp⟩, fun D nD => lcR (walk_list (K := K) (a := p) (xs := cv)) (fun i y _ => ∃ z, y = .int z ∧ True) (fun _ _ _ _ _ e => e) nD (by omega) (fun H2 s2 => SqL.of (s2 _ _ hp)) ?_ ?_⟩
    · rintro i x H2 H3 Q' hi s2 _ ⟨rfl, hx⟩ kk
      obtain ⟨z, rfl⟩ := ci i x hx
      refine ⟨rfl, _, rfl, .inl ⟨z, rfl, _, rfl, .inl ⟨_, rfl, _, _, rfl, rfl, ⟨by decide, by decide, by decide⟩, _, _, rfl, rfl, (by show (0 : Int) < 10 ^ 36; decide), kk _ _ (Same.refl _) ⟨_, rfl, True.intro⟩⟩⟩⟩
    · rintro H2 acc s2 hD hlen hr
      obtain ⟨zs, rfl, _⟩ := ints_of hr
      have hz : zs.length ≤ 63 := by rw [List.length_map] at hlen; omega
      refine ⟨_, rfl, _, rfl, D, _, rfl, .inl (SqL.of hD), _, _, rfl, rfl, .inl ⟨by decide, by decide⟩, _, _, rfl, rfl, (by decide : (5 : Nat) ≤ sizeLine), fun q nq => ?_⟩
      have s3 := Same.upd (o := .lst [.ref D, .int 0, .int 0, .int (1 + 5 * ((zs.map V.int).length : Int)), .int 0]) nq
      exact k _ q D zs ((s1.trans s2).trans s3) ((s1.trans s2).free nq) ⟨⟨0, 0, _, 0, upd_same, by decide⟩, s3 _ _ hD, ne_of_none hD nq, hz⟩
theorem scLDraw : FnScope ["hand", "below", "cell", "digit", "mixed"] ["hand", "below"] (defScope sLDraw) := ⟨rfl, rfl, rfl, by decide +kernel, rfl, by decide +kernel, by decide +kernel⟩
theorem ok_ldraw {f : Addr} {fd : FuncData} (F : Fun K "_law_draw" "_law_draw" sLDraw f fd) (zI : mg "int" = none) (zN : mg "len" = none) : FnOk P w K mg base CX0 1 f fd ["hand", "below"] spDraw := by
  refine F.ok scLDraw (fun vs H Q E h => ?_) (fun cdv A outer s H vs Q E hr h => ?_)
  · obtain ⟨ha, ca, ns, b, rfl, _⟩ := h
    rfl
  · obtain ⟨ha, ca, ns, b, rfl, hh, hb, hb1, k⟩ := h
    refine ⟨_, pss_cons (ps_if (PW.pt (pw_and (pt_cmpR op_eq (pe_ix (r := rIxL K) ix_list (pv 0) pe_int (fun _ _ => rfl)) pe_int (nomark _)) (pw_and1 (pt_cmpR op_lt (pe_ix (r := rIxL K) ix_list (pv 0) pe_int (fun _ _ => rfl)) (pe_callB call_len_seq (by rfl) zN PySem.boot_len (pa_cons (pe_ix (r := rIxL K) ix_list (pv 0) pe_int (fun _ _ => rfl)) pa_nil)) (nomark _)))))
        (pss_cons (ps_set (i := 2) scLDraw.nd rfl (.inl rfl) (pe_ix (r := rIxL K) ix_list (pe_ix (r := rIxL K) ix_list (pv 0) pe_int (fun _ _ => rfl)) (pe_ix (r := rIxL K) ix_list (pv 0) pe_int (fun _ _ => rfl)) (fun _ _ => rfl)))
        (pss_cons (ps_asg (pe_op op_add (pe_ix (r := rIxL K) ix_list (pv 0) pe_int (fun _ _ => rfl)) pe_int) (pg_sub (pv 0) pe_int set_list))
        (pss_cons (ps_asg (pe_op op_mod (pe_callTy call_int1 (by rfl) zI PyProof.Rows.boot_int (pa_cons (pe_op op_add (pe_op op_add (pe_op op_mul (pe_ix (r := rIxL K) ix_list (pv 0) pe_int (fun _ _ => rfl)) pe_int) (pe_op op_mul (pv 2) pe_int)) pe_int) pa_nil)) pe_int) (pg_sub (pv 0) pe_int set_list))
        (pss_one (ps_if (pt_cmpR op_ge (pv 2) (pe_op op_pow pe_int pe_int) (nomark _)) (pss_one (ps_asg (pv 2) (pg_sub (pv 0) pe_int set_list))) pss_nil))))) pss_nil)
      (pss_cons (ps_if (pt_cmpR op_gt (pe_ix (r := rIxL K) ix_list (pv 0) pe_int (fun _ _ => rfl)) pe_int (nomark _))
        (pss_cons (ps_set (i := 3) scLDraw.nd rfl (.inl rfl) (pe_op op_mod (pe_callTy call_int1 (by rfl) zI PyProof.Rows.boot_int (pa_cons (pe_ix (r := rIxL K) ix_list (pv 0) pe_int (fun _ _ => rfl)) pa_nil)) (pv 1)))
        (pss_cons (ps_asg (pe_op op_fdiv (pe_ix (r := rIxL K) ix_list (pv 0) pe_int (fun _ _ => rfl)) (pv 1)) (pg_sub (pv 0) pe_int set_list))
        (pss_one (ps_ret (pv 3))))) pss_nil)
      (pss_cons (ps_asg (pe_op op_add (pe_ix (r := rIxL K) ix_list (pv 0) pe_int (fun _ _ => rfl)) pe_int) (pg_sub (pv 0) pe_int set_list))
      (pss_cons (ps_set (i := 4) scLDraw.nd rfl (.inl rfl) (pe_op op_mod (pe_callTy call_int1 (by rfl) zI PyProof.Rows.boot_int (pa_cons (pe_op op_mul (pe_callTy call_int1 (by rfl) zI PyProof.Rows.boot_int (pa_cons (pe_op op_add (pe_ix (r := rIxL K) ix_list (pv 0) pe_int (fun _ _ => rfl)) (pe_op op_mul pe_int (pe_ix (r := rIxL K) ix_list (pv 0) pe_int (fun _ _ => rfl)))) pa_nil)) pe_int) pa_nil)) pe_int))
      (pss_cons (ps_set (i := 4) scLDraw.nd rfl (.inl rfl) (pe_op op_mod (pe_callTy call_int1 (by rfl) zI PyProof.Rows.boot_int (pa_cons (pe_op op_mul (pv 4) (pe_op op_add (pe_op op_fdiv (pv 4) pe_int) pe_int)) pa_nil)) pe_int))
      (pss_cons (ps_set (i := 4) scLDraw.nd rfl (.inl rfl) (pe_op op_mod (pe_callTy call_int1 (by rfl) zI PyProof.Rows.boot_int (pa_cons (pe_op op_mul (pv 4) (pe_op op_add (pe_op op_fdiv (pv 4) pe_int) pe_int)) pa_nil)) pe_int))
      (pss_one (ps_ret (pe_op op_mod (pe_callTy call_int1 (by rfl) zI PyProof.Rows.boot_int (pa_cons (pe_op op_fdiv (pv 4) pe_int) pa_nil)) (pv 1))))))))), ?_⟩
    obtain ⟨i0, d0, s0, e0, h0, hi0⟩ := hh.ex
    have hcs := hh.cs
    have up1 : ∀ {o : HO}, KpH ha H (upd H ha o) := fun {o} b u n e => by rw [upd_ne n]; exact e
    have len5 : ∀ (a b c d e : V), ([a, b, c, d, e] : List V).length = 5 := fun _ _ _ _ _ => rfl
    refine ⟨_, rfl, ha, _, _, _, rfl, rfl, SqL.of h0, (rfl : atI [V.ref ca, .int i0, .int d0, .int s0, .int e0] (2 : Int) = some (.int d0)), rfl, _, rfl, ?_⟩
    have go : ∀ (c : Bool), True := fun _ => True.intro
    by_cases hd : d0 = 0
    · rw [decide_eq_true (by rw [hd])]
      refine iteT ?_
      refine ⟨_, rfl, ha, _, _, _, rfl, rfl, SqL.of h0, (rfl : atI [V.ref ca, .int i0, .int d0, .int s0, .int e0] (1 : Int) = some (.int i0)), _, rfl, ha, _, _, _, rfl, rfl, SqL.of h0, (rfl : atI [V.ref ca, .int i0, .int d0, .int s0, .int e0] (0 : Int) = some (.ref ca)), ca, _, rfl, .inl (SqL.of hcs), _, _, rfl, rfl, _, rfl, ?_⟩
      rw [List.length_map]
      by_cases hi : i0 < (ns.length : Int)
      · rw [decide_eq_true hi]
        refine iteT ?_
        obtain ⟨j, rfl⟩ := Int.eq_ofNat_of_zero_le hi0
        have hj : j < ns.length := by omega
        have hcell : (ns.map V.int)[j]? = some (.int ns[j]) := by rw [List.getElem?_map, List.getElem?_eq_getElem hj]; rfl
        refine ⟨_, rfl, ha, _, _, _, rfl, rfl, SqL.of h0, (rfl : atI [V.ref ca, .int (j : Int), .int d0, .int s0, .int e0] (0 : Int) = some (.ref ca)), _, rfl, ha, _, _, _, rfl, rfl, SqL.of h0, (rfl : atI [V.ref ca, .int (j : Int), .int d0, .int s0, .int e0] (1 : Int) = some (.int (j : Int))), ca, _, _, _, rfl, rfl, SqL.of hcs, atI_nat hcell, ?_⟩
        generalize ns[j] = cell
        refine ⟨_, rfl, ha, _, _, _, rfl, rfl, SqL.of h0, (rfl : atI [V.ref ca, .int (j : Int), .int d0, .int s0, .int e0] (1 : Int) = some (.int (j : Int))), _, _, rfl, rfl, _, rfl, ha, _, 1, 1, rfl, rfl, h0, rfl, ?_⟩
        have h1 : (upd H ha (.lst [V.ref ca, .int ((j : Int) + 1), .int d0, .int s0, .int e0])) ha = some (.lst [V.ref ca, .int ((j : Int) + 1), .int d0, .int s0, .int e0]) := upd_same
        refine ⟨_, rfl, ha, _, _, _, rfl, rfl, SqL.of h1, (rfl : atI [V.ref ca, .int ((j : Int) + 1), .int d0, .int s0, .int e0] (3 : Int) = some (.int s0)), _, _, rfl, rfl, .inr ⟨by decide, by decide⟩, _, rfl, _, _, rfl, rfl, .inr ⟨by decide, by decide⟩, _, _, rfl, rfl, _, _, rfl, rfl, .inl ⟨_, rfl, _, _, rfl, rfl, (by show (0 : Int) < 2147483629; decide), _, rfl, ha, _, 3, 3, rfl, rfl, h1, rfl, ?_⟩⟩
        rw [upd_upd]
        refine ⟨_, rfl, _, _, rfl, rfl, ⟨by decide, by decide, by decide⟩, _, _, rfl, rfl, _, rfl, ite2 (fun hc => ?_) fun hc => ?_⟩
        · refine ⟨_, rfl, _, rfl, ha, _, 2, 2, rfl, rfl, upd_same, rfl, ?_⟩
          rw [upd_upd]
          have hx : ∃ i d s e : Int, (upd H ha (.lst ([V.ref ca, .int ((j : Int) + 1), .int d0, .int ((s0 * 69621 + cell * 40692 + 37) % 2147483629), .int e0].set 2 (.int cell)))) ha = some (.lst [.ref ca, .int i, .int d, .int s, .int e]) ∧ 0 ≤ i := ⟨_, _, _, _, upd_same, by omega⟩
          have kx := up1 (o := .lst ([V.ref ca, .int ((j : Int) + 1), .int d0, .int ((s0 * 69621 + cell * 40692 + 37) % 2147483629), .int e0].set 2 (.int cell)))
          change tSeq _ _ _ _ (upd H ha (.lst ([V.ref ca, .int ((j : Int) + 1), .int d0, .int ((s0 * 69621 + cell * 40692 + 37) % 2147483629), .int e0].set 2 (.int cell))))
          generalize upd H ha (.lst ([V.ref ca, .int ((j : Int) + 1), .int d0, .int ((s0 * 69621 + cell * 40692 + 37) % 2147483629), .int e0].set 2 (.int cell))) = H1 at hx kx
          obtain ⟨i1, d1, s1, e1, h1, hi1⟩ := hx
          have hcs1 : H1 ca = some (.lst (ns.map V.int)) := kx _ _ hh.ne hcs
          have up2 : ∀ {o : HO}, KpH ha H (upd H1 ha o) := fun {o} b u n e => by rw [upd_ne n]; exact kx b u n e
          have hnd : ∀ {i d s e : Int}, 0 ≤ i → HandAt (upd H1 ha (.lst [.ref ca, .int i, .int d, .int s, .int e])) ha ca ns := fun {i d s e} h => ⟨⟨i, d, s, e, upd_same, h⟩, by rw [upd_ne hh.ne]; exact hcs1, hh.ne, hh.len⟩
          refine ⟨_, rfl, ha, _, _, _, rfl, rfl, SqL.of h1, (rfl : atI [V.ref ca, .int i1, .int d1, .int s1, .int e1] (2 : Int) = some (.int d1)), _, _, rfl, rfl, _, rfl, ite2 (fun hp => ?_) fun hp => ?_⟩
          · refine ⟨_, rfl, ha, _, _, _, rfl, rfl, SqL.of h1, (rfl : atI [V.ref ca, .int i1, .int d1, .int s1, .int e1] (2 : Int) = some (.int d1)), .inl ⟨d1, rfl, _, rfl, _, _, rfl, rfl, hb, ?_⟩⟩
            refine ⟨_, rfl, ha, _, _, _, rfl, rfl, SqL.of h1, (rfl : atI [V.ref ca, .int i1, .int d1, .int s1, .int e1] (2 : Int) = some (.int d1)), _, rfl, _, _, rfl, rfl, ⟨hb, by omega⟩, _, rfl, ha, _, 2, 2, rfl, rfl, h1, rfl, ?_⟩
            exact ⟨_, rfl, k _ _ up2 (hnd hi1) (Int.emod_nonneg _ (by omega)) (Int.emod_lt_of_pos _ hb)⟩
          · refine ⟨_, rfl, ha, _, _, _, rfl, rfl, SqL.of h1, (rfl : atI [V.ref ca, .int i1, .int d1, .int s1, .int e1] (4 : Int) = some (.int e1)), _, _, rfl, rfl, _, rfl, ha, _, 4, 4, rfl, rfl, h1, rfl, ?_⟩
            have h2 : (upd H1 ha (.lst [V.ref ca, .int i1, .int d1, .int s1, .int (e1 + 1)])) ha = some (.lst [V.ref ca, .int i1, .int d1, .int s1, .int (e1 + 1)]) := upd_same
            refine ⟨_, rfl, ha, _, _, _, rfl, rfl, SqL.of h2, (rfl : atI [V.ref ca, .int i1, .int d1, .int s1, .int (e1 + 1)] (3 : Int) = some (.int s1)), _, rfl, ha, _, _, _, rfl, rfl, SqL.of h2, (rfl : atI [V.ref ca, .int i1, .int d1, .int s1, .int (e1 + 1)] (4 : Int) = some (.int (e1 + 1))), _, _, rfl, rfl, .inl ⟨by decide, by decide⟩, _, _, rfl, rfl, .inl ⟨_, rfl, _, _, rfl, rfl, .inr ⟨by decide, by decide⟩, .inl ⟨_, rfl, _, _, rfl, rfl, (by show (0 : Int) < 2147483647; decide), ?_⟩⟩⟩
            have mr : ∀ (x q : Int), 0 < q → q < 4294967296 → CMul (x % q) (x % q / 1) ∨ True := fun _ _ _ _ => .inr True.intro
            have mb : ∀ (x y q : Int), 0 < q → q < 4294967296 → CMul (x % q) y := fun x y q h1 h2 => .inl ⟨by have := Int.emod_nonneg x (show q ≠ 0 by omega); omega, by have := Int.emod_lt_of_pos x h1; omega⟩
            refine ⟨_, rfl, _, rfl, _, _, rfl, rfl, ⟨by decide, by decide⟩, _, _, rfl, rfl, _, _, rfl, rfl, mb _ _ _ (by decide) (by decide), .inl ⟨_, rfl, _, _, rfl, rfl, (by show (0 : Int) < 2147483647; decide), ?_⟩⟩
            refine ⟨_, rfl, _, rfl, _, _, rfl, rfl, ⟨by decide, by decide⟩, _, _, rfl, rfl, _, _, rfl, rfl, mb _ _ _ (by decide) (by decide), .inl ⟨_, rfl, _, _, rfl, rfl, (by show (0 : Int) < 2147483563; decide), ?_⟩⟩
            refine ⟨_, rfl, _, _, rfl, rfl, ⟨by decide, by decide⟩, .inl ⟨_, rfl, _, rfl, _, _, rfl, rfl, hb, ?_⟩⟩
            exact k _ _ up2 (hnd hi1) (Int.emod_nonneg _ (by omega)) (Int.emod_lt_of_pos _ hb)
        · have hx : ∃ i d s e : Int, (upd H ha (.lst [V.ref ca, .int ((j : Int) + 1), .int d0, .int ((s0 * 69621 + cell * 40692 + 37) % 2147483629), .int e0])) ha = some (.lst [.ref ca, .int i, .int d, .int s, .int e]) ∧ 0 ≤ i := ⟨_, _, _, _, upd_same, by omega⟩
          have kx := up1 (o := .lst [V.ref ca, .int ((j : Int) + 1), .int d0, .int ((s0 * 69621 + cell * 40692 + 37) % 2147483629), .int e0])
          change tSeq _ _ _ _ (upd H ha (.lst [V.ref ca, .int ((j : Int) + 1), .int d0, .int ((s0 * 69621 + cell * 40692 + 37) % 2147483629), .int e0]))
          generalize upd H ha (.lst [V.ref ca, .int ((j : Int) + 1), .int d0, .int ((s0 * 69621 + cell * 40692 + 37) % 2147483629), .int e0]) = H1 at hx kx
          obtain ⟨i1, d1, s1, e1, h1, hi1⟩ := hx
          have hcs1 : H1 ca = some (.lst (ns.map V.int)) := kx _ _ hh.ne hcs
          have up2 : ∀ {o : HO}, KpH ha H (upd H1 ha o) := fun {o} b u n e => by rw [upd_ne n]; exact kx b u n e
          have hnd : ∀ {i d s e : Int}, 0 ≤ i → HandAt (upd H1 ha (.lst [.ref ca, .int i, .int d, .int s, .int e])) ha ca ns := fun {i d s e} h => ⟨⟨i, d, s, e, upd_same, h⟩, by rw [upd_ne hh.ne]; exact hcs1, hh.ne, hh.len⟩
          refine ⟨_, rfl, ha, _, _, _, rfl, rfl, SqL.of h1, (rfl : atI [V.ref ca, .int i1, .int d1, .int s1, .int e1] (2 : Int) = some (.int d1)), _, _, rfl, rfl, _, rfl, ite2 (fun hp => ?_) fun hp => ?_⟩
          · refine ⟨_, rfl, ha, _, _, _, rfl, rfl, SqL.of h1, (rfl : atI [V.ref ca, .int i1, .int d1, .int s1, .int e1] (2 : Int) = some (.int d1)), .inl ⟨d1, rfl, _, rfl, _, _, rfl, rfl, hb, ?_⟩⟩
            refine ⟨_, rfl, ha, _, _, _, rfl, rfl, SqL.of h1, (rfl : atI [V.ref ca, .int i1, .int d1, .int s1, .int e1] (2 : Int) = some (.int d1)), _, rfl, _, _, rfl, rfl, ⟨hb, by omega⟩, _, rfl, ha, _, 2, 2, rfl, rfl, h1, rfl, ?_⟩
            exact ⟨_, rfl, k _ _ up2 (hnd hi1) (Int.emod_nonneg _ (by omega)) (Int.emod_lt_of_pos _ hb)⟩
          · refine ⟨_, rfl, ha, _, _, _, rfl, rfl, SqL.of h1, (rfl : atI [V.ref ca, .int i1, .int d1, .int s1, .int e1] (4 : Int) = some (.int e1)), _, _, rfl, rfl, _, rfl, ha, _, 4, 4, rfl, rfl, h1, rfl, ?_⟩
            have h2 : (upd H1 ha (.lst [V.ref ca, .int i1, .int d1, .int s1, .int (e1 + 1)])) ha = some (.lst [V.ref ca, .int i1, .int d1, .int s1, .int (e1 + 1)]) := upd_same
            refine ⟨_, rfl, ha, _, _, _, rfl, rfl, SqL.of h2, (rfl : atI [V.ref ca, .int i1, .int d1, .int s1, .int (e1 + 1)] (3 : Int) = some (.int s1)), _, rfl, ha, _, _, _, rfl, rfl, SqL.of h2, (rfl : atI [V.ref ca, .int i1, .int d1, .int s1, .int (e1 + 1)] (4 : Int) = some (.int (e1 + 1))), _, _, rfl, rfl, .inl ⟨by decide, by decide⟩, _, _, rfl, rfl, .inl ⟨_, rfl, _, _, rfl, rfl, .inr ⟨by decide, by decide⟩, .inl ⟨_, rfl, _, _, rfl, rfl, (by show (0 : Int) < 2147483647; decide), ?_⟩⟩⟩
            have mr : ∀ (x q : Int), 0 < q → q < 4294967296 → CMul (x % q) (x % q / 1) ∨ True := fun _ _ _ _ => .inr True.intro
            have mb : ∀ (x y q : Int), 0 < q → q < 4294967296 → CMul (x % q) y := fun x y q h1 h2 => .inl ⟨by have := Int.emod_nonneg x (show q ≠ 0 by omega); omega, by have := Int.emod_lt_of_pos x h1; omega⟩
            refine ⟨_, rfl, _, rfl, _, _, rfl, rfl, ⟨by decide, by decide⟩, _, _, rfl, rfl, _, _, rfl, rfl, mb _ _ _ (by decide) (by decide), .inl ⟨_, rfl, _, _, rfl, rfl, (by show (0 : Int) < 2147483647; decide), ?_⟩⟩
            refine ⟨_, rfl, _, rfl, _, _, rfl, rfl, ⟨by decide, by decide⟩, _, _, rfl, rfl, _, _, rfl, rfl, mb _ _ _ (by decide) (by decide), .inl ⟨_, rfl, _, _, rfl, rfl, (by show (0 : Int) < 2147483563; decide), ?_⟩⟩
            refine ⟨_, rfl, _, _, rfl, rfl, ⟨by decide, by decide⟩, .inl ⟨_, rfl, _, rfl, _, _, rfl, rfl, hb, ?_⟩⟩
            exact k _ _ up2 (hnd hi1) (Int.emod_nonneg _ (by omega)) (Int.emod_lt_of_pos _ hb)
      · rw [decide_eq_false hi]
        refine iteF ?_
        have hx : ∃ i d s e : Int, H ha = some (.lst [.ref ca, .int i, .int d, .int s, .int e]) ∧ 0 ≤ i := ⟨_, _, _, _, h0, hi0⟩
        obtain ⟨H1, hH1⟩ : ∃ H1, H1 = H := ⟨H, rfl⟩
        have kx : KpH ha H H1 := by rw [hH1]; exact fun _ _ _ e => e
        rw [← hH1] at hx
        rw [← hH1]
        obtain ⟨i1, d1, s1, e1, h1, hi1⟩ := hx
        have hcs1 : H1 ca = some (.lst (ns.map V.int)) := kx _ _ hh.ne hcs
        have up2 : ∀ {o : HO}, KpH ha H (upd H1 ha o) := fun {o} b u n e => by rw [upd_ne n]; exact kx b u n e
        have hnd : ∀ {i d s e : Int}, 0 ≤ i → HandAt (upd H1 ha (.lst [.ref ca, .int i, .int d, .int s, .int e])) ha ca ns := fun {i d s e} h => ⟨⟨i, d, s, e, upd_same, h⟩, by rw [upd_ne hh.ne]; exact hcs1, hh.ne, hh.len⟩
        refine ⟨_, rfl, ha, _, _, _, rfl, rfl, SqL.of h1, (rfl : atI [V.ref ca, .int i1, .int d1, .int s1, .int e1] (2 : Int) = some (.int d1)), _, _, rfl, rfl, _, rfl, ite2 (fun hp => ?_) fun hp => ?_⟩
        · refine ⟨_, rfl, ha, _, _, _, rfl, rfl, SqL.of h1, (rfl : atI [V.ref ca, .int i1, .int d1, .int s1, .int e1] (2 : Int) = some (.int d1)), .inl ⟨d1, rfl, _, rfl, _, _, rfl, rfl, hb, ?_⟩⟩
          refine ⟨_, rfl, ha, _, _, _, rfl, rfl, SqL.of h1, (rfl : atI [V.ref ca, .int i1, .int d1, .int s1, .int e1] (2 : Int) = some (.int d1)), _, rfl, _, _, rfl, rfl, ⟨hb, by omega⟩, _, rfl, ha, _, 2, 2, rfl, rfl, h1, rfl, ?_⟩
          exact ⟨_, rfl, k _ _ up2 (hnd hi1) (Int.emod_nonneg _ (by omega)) (Int.emod_lt_of_pos _ hb)⟩
        · refine ⟨_, rfl, ha, _, _, _, rfl, rfl, SqL.of h1, (rfl : atI [V.ref ca, .int i1, .int d1, .int s1, .int e1] (4 : Int) = some (.int e1)), _, _, rfl, rfl, _, rfl, ha, _, 4, 4, rfl, rfl, h1, rfl, ?_⟩
          have h2 : (upd H1 ha (.lst [V.ref ca, .int i1, .int d1, .int s1, .int (e1 + 1)])) ha = some (.lst [V.ref ca, .int i1, .int d1, .int s1, .int (e1 + 1)]) := upd_same
          refine ⟨_, rfl, ha, _, _, _, rfl, rfl, SqL.of h2, (rfl : atI [V.ref ca, .int i1, .int d1, .int s1, .int (e1 + 1)] (3 : Int) = some (.int s1)), _, rfl, ha, _, _, _, rfl, rfl, SqL.of h2, (rfl : atI [V.ref ca, .int i1, .int d1, .int s1, .int (e1 + 1)] (4 : Int) = some (.int (e1 + 1))), _, _, rfl, rfl, .inl ⟨by decide, by decide⟩, _, _, rfl, rfl, .inl ⟨_, rfl, _, _, rfl, rfl, .inr ⟨by decide, by decide⟩, .inl ⟨_, rfl, _, _, rfl, rfl, (by show (0 : Int) < 2147483647; decide), ?_⟩⟩⟩
          have mr : ∀ (x q : Int), 0 < q → q < 4294967296 → CMul (x % q) (x % q / 1) ∨ True := fun _ _ _ _ => .inr True.intro
          have mb : ∀ (x y q : Int), 0 < q → q < 4294967296 → CMul (x % q) y := fun x y q h1 h2 => .inl ⟨by have := Int.emod_nonneg x (show q ≠ 0 by omega); omega, by have := Int.emod_lt_of_pos x h1; omega⟩
          refine ⟨_, rfl, _, rfl, _, _, rfl, rfl, ⟨by decide, by decide⟩, _, _, rfl, rfl, _, _, rfl, rfl, mb _ _ _ (by decide) (by decide), .inl ⟨_, rfl, _, _, rfl, rfl, (by show (0 : Int) < 2147483647; decide), ?_⟩⟩
          refine ⟨_, rfl, _, rfl, _, _, rfl, rfl, ⟨by decide, by decide⟩, _, _, rfl, rfl, _, _, rfl, rfl, mb _ _ _ (by decide) (by decide), .inl ⟨_, rfl, _, _, rfl, rfl, (by show (0 : Int) < 2147483563; decide), ?_⟩⟩
          refine ⟨_, rfl, _, _, rfl, rfl, ⟨by decide, by decide⟩, .inl ⟨_, rfl, _, rfl, _, _, rfl, rfl, hb, ?_⟩⟩
          exact k _ _ up2 (hnd hi1) (Int.emod_nonneg _ (by omega)) (Int.emod_lt_of_pos _ hb)
    · rw [decide_eq_false (fun z => hd (V.int.inj z))]
      refine iteF (iteF ?_)
      have hx : ∃ i d s e : Int, H ha = some (.lst [.ref ca, .int i, .int d, .int s, .int e]) ∧ 0 ≤ i := ⟨_, _, _, _, h0, hi0⟩
      obtain ⟨H1, hH1⟩ : ∃ H1, H1 = H := ⟨H, rfl⟩
      have kx : KpH ha H H1 := by rw [hH1]; exact fun _ _ _ e => e
      rw [← hH1] at hx
      rw [← hH1]
      obtain ⟨i1, d1, s1, e1, h1, hi1⟩ := hx
      have hcs1 : H1 ca = some (.lst (ns.map V.int)) := kx _ _ hh.ne hcs
      have up2 : ∀ {o : HO}, KpH ha H (upd H1 ha o) := fun {o} b u n e => by rw [upd_ne n]; exact kx b u n e
      have hnd : ∀ {i d s e : Int}, 0 ≤ i → HandAt (upd H1 ha (.lst [.ref ca, .int i, .int d, .int s, .int e])) ha ca ns := fun {i d s e} h => ⟨⟨i, d, s, e, upd_same, h⟩, by rw [upd_ne hh.ne]; exact hcs1, hh.ne, hh.len⟩
      refine ⟨_, rfl, ha, _, _, _, rfl, rfl, SqL.of h1, (rfl : atI [V.ref ca, .int i1, .int d1, .int s1, .int e1] (2 : Int) = some (.int d1)), _, _, rfl, rfl, _, rfl, ite2 (fun hp => ?_) fun hp => ?_⟩
      · refine ⟨_, rfl, ha, _, _, _, rfl, rfl, SqL.of h1, (rfl : atI [V.ref ca, .int i1, .int d1, .int s1, .int e1] (2 : Int) = some (.int d1)), .inl ⟨d1, rfl, _, rfl, _, _, rfl, rfl, hb, ?_⟩⟩
        refine ⟨_, rfl, ha, _, _, _, rfl, rfl, SqL.of h1, (rfl : atI [V.ref ca, .int i1, .int d1, .int s1, .int e1] (2 : Int) = some (.int d1)), _, rfl, _, _, rfl, rfl, ⟨hb, by omega⟩, _, rfl, ha, _, 2, 2, rfl, rfl, h1, rfl, ?_⟩
        exact ⟨_, rfl, k _ _ up2 (hnd hi1) (Int.emod_nonneg _ (by omega)) (Int.emod_lt_of_pos _ hb)⟩
      · refine ⟨_, rfl, ha, _, _, _, rfl, rfl, SqL.of h1, (rfl : atI [V.ref ca, .int i1, .int d1, .int s1, .int e1] (4 : Int) = some (.int e1)), _, _, rfl, rfl, _, rfl, ha, _, 4, 4, rfl, rfl, h1, rfl, ?_⟩
        have h2 : (upd H1 ha (.lst [V.ref ca, .int i1, .int d1, .int s1, .int (e1 + 1)])) ha = some (.lst [V.ref ca, .int i1, .int d1, .int s1, .int (e1 + 1)]) := upd_same
        refine ⟨_, rfl, ha, _, _, _, rfl, rfl, SqL.of h2, (rfl : atI [V.ref ca, .int i1, .int d1, .int s1, .int (e1 + 1)] (3 : Int) = some (.int s1)), _, rfl, ha, _, _, _, rfl, rfl, SqL.of h2, (rfl : atI [V.ref ca, .int i1, .int d1, .int s1, .int (e1 + 1)] (4 : Int) = some (.int (e1 + 1))), _, _, rfl, rfl, .inl ⟨by decide, by decide⟩, _, _, rfl, rfl, .inl ⟨_, rfl, _, _, rfl, rfl, .inr ⟨by decide, by decide⟩, .inl ⟨_, rfl, _, _, rfl, rfl, (by show (0 : Int) < 2147483647; decide), ?_⟩⟩⟩
        have mr : ∀ (x q : Int), 0 < q → q < 4294967296 → CMul (x % q) (x % q / 1) ∨ True := fun _ _ _ _ => .inr True.intro
        have mb : ∀ (x y q : Int), 0 < q → q < 4294967296 → CMul (x % q) y := fun x y q h1 h2 => .inl ⟨by have := Int.emod_nonneg x (show q ≠ 0 by omega); omega, by have := Int.emod_lt_of_pos x h1; omega⟩
        refine ⟨_, rfl, _, rfl, _, _, rfl, rfl, ⟨by decide, by decide⟩, _, _, rfl, rfl, _, _, rfl, rfl, mb _ _ _ (by decide) (by decide), .inl ⟨_, rfl, _, _, rfl, rfl, (by show (0 : Int) < 2147483647; decide), ?_⟩⟩
        refine ⟨_, rfl, _, rfl, _, _, rfl, rfl, ⟨by decide, by decide⟩, _, _, rfl, rfl, _, _, rfl, rfl, mb _ _ _ (by decide) (by decide), .inl ⟨_, rfl, _, _, rfl, rfl, (by show (0 : Int) < 2147483563; decide), ?_⟩⟩
        refine ⟨_, rfl, _, _, rfl, rfl, ⟨by decide, by decide⟩, .inl ⟨_, rfl, _, rfl, _, _, rfl, rfl, hb, ?_⟩⟩
        exact k _ _ up2 (hnd hi1) (Int.emod_nonneg _ (by omega)) (Int.emod_lt_of_pos _ hb)
end
end K1
set_option Elab.async false
set_option linter.all false
set_option maxRecDepth 100000
set_option maxHeartbeats 8000000
namespace K1
open PySem L2 Kz Sx
theorem frs_of {K : PySem.W.Frag} {H : Hp} {acc : List V} {n : Nat} {P : Rat → Prop} (hl : acc.length = n) (h : ∀ (j : Nat) (y : V), acc[j]? = some y → ∃ q, Fr K H y q ∧ P q) : ∃ f, FrS K H acc n f ∧ ∀ j, j < n → P (f j) := by
  have ch : ∀ j : Nat, ∃ q, ∀ y, acc[j]? = some y → Fr K H y q ∧ P q := fun j => by
    cases e : acc[j]? with
    | none => exact ⟨0, fun y z => by cases z⟩
    | some y =>
      obtain ⟨q, h1⟩ := h j y e
      exact ⟨q, fun z hz => by cases hz; exact h1⟩
  refine ⟨fun j => Classical.choose (ch j), ⟨hl, fun j y e => (Classical.choose_spec (ch j) y e).1⟩, fun j hj => ?_⟩
  have e : acc[j]? = some (acc[j]'(by omega)) := List.getElem?_eq_getElem (by omega)
  exact (Classical.choose_spec (ch j) _ e).2
theorem frmt_of {K : PySem.W.Frag} {H : Hp} {acc : List V} {m n : Nat} {P : Rat → Prop} (hl : acc.length = m) (h : ∀ (i : Nat) (y : V), acc[i]? = some y → ∃ f, FrA true K H y n f ∧ ∀ j, j < n → P (f j)) : ∃ R : Nat → Nat → Rat, (∀ i y, acc[i]? = some y → FrA true K H y n (R i)) ∧ ∀ i, i < m → ∀ j, j < n → P (R i j) := by
  have ch : ∀ i : Nat, ∃ f, ∀ y, acc[i]? = some y → FrA true K H y n f ∧ ∀ j, j < n → P (f j) := fun i => by
    cases e : acc[i]? with
    | none => exact ⟨fun _ => 0, fun y z => by cases z⟩
    | some y =>
      obtain ⟨q, h1⟩ := h i y e
      exact ⟨q, fun z hz => by cases hz; exact h1⟩
  refine ⟨fun i => Classical.choose (ch i), fun i y e => (Classical.choose_spec (ch i) y e).1, fun i hi => ?_⟩
  have e : acc[i]? = some (acc[i]'(by omega)) := List.getElem?_eq_getElem (by omega)
  exact (Classical.choose_spec (ch i) _ e).2
theorem low_bd {t b : Int} (ht : t.natAbs ≤ 3) (hb : b = 1 ∨ b = 2) : Bd 6 (Rat.divInt t b * 2) := by
  rcases hb with rfl | rfl
  · refine ⟨t * 2, ?_, by omega⟩
    rw [Rat.divInt_eq_div, Rat.intCast_mul]
    have h1 : ((1 : Int) : Rat) = 1 := rfl
    have h2 : ((2 : Int) : Rat) = 2 := rfl
    rw [h1, h2]
    grind
  · refine ⟨t, ?_, by omega⟩
    rw [Rat.divInt_eq_div]
    have : ((2 : Int) : Rat) = 2 := rfl
    rw [this]
    grind
def spRows (K : PySem.W.Frag) : Sp := fun vs H Q _ => ∃ ha ca ns, ∃ n m : Nat, vs = [.ref ha, .int (n : Int), .int (m : Int)] ∧ HandAt H ha ca ns ∧ n ≤ 4 ∧ m ≤ 3 ∧
  ∀ H' r R, KpH ha H H' → HandAt H' ha ca ns → FrMT K H' r m n R → (∀ i, i < m → ∀ j, j < n → Bd 6 (R i j * 2)) → Q r H'
section
variable {P : Program} {w : World} {K : PySem.W.Frag} {mg : Str → Option Value} {base : Heap}
abbrev nLR : List Str := ["hand", "long", "many", "found", "row", "tops", "one", "top"]
theorem scLRows : FnScope nLR ["hand", "long", "many"] (defScope sLRows) := ⟨rfl, rfl, rfl, by decide +kernel, rfl, by decide +kernel, by decide +kernel⟩
theorem ok_lrows {f : Addr} {fd : FuncData} (F : Fun K "_law_rows" "_law_rows" sLRows f fd) (DD : Df P w K mg base CX0 1 "_law_draw" ["hand", "below"] spDraw) (DW : Df P w K mg base CX0 2 "_law_low" ["top", "bottom"] (spLow K)) (zR : mg "range" = none) (zT : mg "tuple" = none) :
    FnOk P w K mg base CX0 3 f fd ["hand", "long", "many"] (spRows K) := by
  refine F.ok scLRows (fun vs H Q E h => ?_) (fun cdv A outer s H vs Q E hr h => ?_)
  · obtain ⟨ha, ca, ns, n, m, rfl, _⟩ := h
    rfl
  · obtain ⟨ha, ca, ns, n, m, rfl, hh, hn, hm, k⟩ := h
    refine ⟨_, pss_cons (ps_set (i := 3) scLRows.nd rfl (.inl rfl) (pe_lst pa_nil))
      (pss_cons (ps_for PassesOwn.never rfl (pi_range1 (by rfl) zR (pa_cons (pv 2) pa_nil)) (pg_name (i := 4) scLRows.nd rfl (.inl rfl))
        (pss_cons (ps_setLc (own := [("one", 6)]) (i := 5) (g := gName 6) (tt := tYes) rfl scLRows.nd rfl rfl (sw_true rfl rfl rfl (by decide +kernel)) (pi_range1 (by rfl) zR (pa_cons (pv 1) pa_nil))
          (blkOk_by (N := nLR) (sc := defScope sLRows) (by decide +kernel))
          (fun _ _ _ _ _ => pg_name (i := 6) scLRows.nd rfl (.inl rfl)) (fun _ _ _ _ _ => pts_nil)
          (fun _ _ _ _ _ => pe_op op_sub (pe_callD DD hr (by decide) (by rfl) pass0 (pa_cons (pv 0) (pa_cons pe_int pa_nil))) pe_int))
        (pss_one (ps_expr (pe_bm PySem.F.plainAttrs_list PySem.F.slot_list_append PySem.F.type_list_append mt_append (pv 3) (pa_cons (pe_callTy call_tuple_of (by rfl) zT PyProof.Rows.boot_tuple (pa_cons
          (pe_lc (own := [("top", 7)]) (g := gName 7) (tt := tYes) rfl scLRows.nd (pi_list (pv 5))
            (blkOk_by (N := nLR) (sc := defScope sLRows) (by decide +kernel))
            (fun _ _ _ _ _ => pg_name (i := 7) scLRows.nd rfl (.inl rfl)) (fun _ _ _ _ _ => pts_nil)
            (fun _ _ _ _ _ => pe_callD DW hr (by decide) (by rfl) pass0 (pa_cons (pv 7) (pa_cons (pe_op op_add pe_int (pe_op op_fdiv (pe_callD DD hr (by decide) (by rfl) pass0 (pa_cons (pv 0) (pa_cons pe_int pa_nil))) pe_int)) pa_nil)))) pa_nil)) pa_nil))))))
      (pss_one (ps_ret (pe_callTy call_tuple_of (by rfl) zT PyProof.Rows.boot_tuple (pa_cons (pv 3) pa_nil))))), ?_⟩
    obtain ⟨xh, hxh⟩ := hh.at
    refine ⟨by decide, fun fo nfo => ?_⟩
    have s1 := Same.upd (o := .lst []) nfo
    have hfo : (upd H fo (.lst [])) fo = some (.lst []) := upd_same
    have hh1 := hh.same s1
    have nfh : fo ≠ ha := fun z => by subst z; rw [hxh] at nfo; cases nfo
    have nfc : ca ≠ fo := fun z => by subst z; rw [hh.cs] at nfo; cases nfo
    generalize upd H fo (.lst []) = H1 at s1 hfo hh1
    refine ⟨_, rfl, (m : Int), rfl, by omega, by omega, for_range (lo := 0) (n := (m : Int).toNat)
      (fun i σ H2 => KpH ha H H2 ∧ HandAt H2 ha ca ns ∧ (∃ o4 o5, σ = [some (.ref ha), some (.int (n : Int)), some (.int (m : Int)), some (.ref fo), o4, o5, none, none]) ∧ ∃ acc, H2 fo = some (.lst acc) ∧ acc.length = i ∧ ∀ (j : Nat) (y : V), acc[j]? = some y → ∃ f, FrA true K H2 y n f ∧ ∀ j, j < n → Bd 6 (f j * 2))
      ⟨.of s1, hh1, ⟨none, none, rfl⟩, [], hfo, rfl, fun j y e => by simp at e⟩ ?_ ?_⟩
    · rintro i σ H2 hi ⟨k2, hh2, ⟨o4, o5, rfl⟩, acc, hacc, hal, har⟩
      rw [Int.toNat_natCast] at hi
      refine ⟨_, rfl, (n : Int), rfl, by omega, by omega, fun D nD => lcH (walk_range (lo := 0) (n := (n : Int).toNat)) (fun i y _ => ∃ z : Int, y = .int z ∧ z.natAbs ≤ 3) (fun _ _ _ _ _ e => e) (fun _ _ _ _ _ e => e) hh2 nD (by omega) (fun _ _ => True.intro) ?_ ?_⟩
      · rintro j x H3 H4 Q' hj k3 hh3 ⟨rfl, rfl⟩ kk
        refine ⟨rfl, _, rfl, ha, ca, ns, 7, rfl, hh3, by decide, by decide, fun H5 d k5 hh5 d0 d1 => ?_⟩
        exact ⟨_, _, rfl, rfl, kk _ _ k5 hh5 ⟨d - 3, rfl, by omega⟩⟩
      · rintro H3 ac3 k3 hh3 hD3 hl3 hr3
        rw [Int.toNat_natCast] at hl3
        obtain ⟨ts, rfl, hts⟩ := ints_of hr3
        rw [List.length_map] at hl3
        have hacc3 := k3 _ _ nfh hacc
        refine ⟨_, rfl, .inl ⟨rfl, _, SqL.of hacc3⟩, ?_⟩
        have nDh : D ≠ ha := fun z => by
          obtain ⟨x2, h2⟩ := hh2.at
          subst z; rw [h2] at nD; cases nD
        refine ⟨_, rfl, D, rfl, ⟨_, SqL.of hD3⟩, fun D2 nD2 => lcH (walk_list (K := K) (a := D) (xs := ts.map V.int)) (fun i y Hh => ∃ q, Fr K Hh y q ∧ Bd 6 (q * 2)) (fun _ _ _ _ kp ⟨q, e1, e2⟩ => ⟨q, kp.fr e1, e2⟩) (fun _ _ _ _ kp ⟨q, e1, e2⟩ => ⟨q, kp.fr e1, e2⟩) hh3 nD2 (by rw [List.length_map]; omega) (fun H4 k4 => SqL.of (k4 _ _ nDh hD3)) ?_ ?_⟩
        · rintro j x H4 H5 Q' hj k4 hh4 ⟨rfl, hx⟩ kk
          obtain ⟨t, rfl, ht⟩ : ∃ t, x = .int t ∧ t.natAbs ≤ 3 := by
            rw [List.getElem?_map] at hx
            cases e : ts[j]? with
            | none => rw [e] at hx; cases hx
            | some t => rw [e] at hx; exact ⟨t, (Option.some.inj hx).symm, hts t (List.mem_of_getElem? e)⟩
          refine ⟨rfl, _, rfl, _, rfl, ha, ca, ns, 5, rfl, hh4, by decide, by decide, fun H6 d k6 hh6 d0 d1 => ?_⟩
          have hbt : (1 + d / 4 : Int) = 1 ∨ (1 + d / 4 : Int) = 2 := by omega
          refine ⟨_, _, rfl, rfl, ⟨by decide, by decide⟩, _, _, rfl, rfl, t, _, rfl, (by show 0 < 1 + d / 4; omega), ?_, fun H7 r s7 fr => ?_⟩
          · show (1 + d / 4 : Int).natAbs < 2 ^ 8900
            have h1 : (1 + d / 4 : Int).natAbs < 2 ^ 2 := by show _ < 4; omega
            exact Nat.lt_of_lt_of_le h1 (two_le (by decide))
          · exact kk _ _ (k6.trans (.of s7)) (hh6.same s7) ⟨_, fr, low_bd ht hbt⟩
        · rintro H4 ac4 k4 hh4 hD4 hl4 hr4
          rw [List.length_map, hl3] at hl4
          obtain ⟨f, hf, hfb⟩ := frs_of hl4 hr4
          refine ⟨D2, ac4, rfl, .inl ⟨SqL.of hD4, fun l nl => ?_⟩⟩
          have s5 := Same.upd (o := .tup ac4) nl
          have hl5 : (upd H4 l (.tup ac4)) l = some (.tup ac4) := upd_same
          generalize upd H4 l (.tup ac4) = H5 at s5 hl5
          have hacc5 := s5 _ _ (k4 _ _ nfh hacc3)
          refine ⟨fo, acc, _, rfl, rfl, hacc5, small1000 (by omega), ?_⟩
          have kp : KpD fo H5 (upd H5 fo (.lst (acc ++ [.ref l]))) := ⟨⟨_, hacc5⟩, fun b o ne e => by rw [upd_ne ne]; exact e⟩
          have hh5 := hh4.same s5
          have hh6 : HandAt (upd H5 fo (.lst (acc ++ [.ref l]))) ha ca ns := by
            obtain ⟨a1, a2, a3, a4, h1, h2⟩ := hh5.ex
            exact ⟨⟨a1, a2, a3, a4, by rw [upd_ne nfh.symm]; exact h1, h2⟩, by rw [upd_ne nfc]; exact hh5.cs, hh5.ne, hh5.len⟩
          have k25 : KpH ha H2 H5 := (k3.trans k4).trans (.of s5)
          refine ⟨fun b o ne e => ?_, hh6, ⟨_, _, rfl⟩, _, upd_same, by rw [List.length_append, hal]; rfl, fun j y e => ?_⟩
          · have nb : b ≠ fo := ne_of_none e nfo
            rw [upd_ne nb]
            exact (k2.trans k25) b o ne e
          · by_cases hj : j < acc.length
            · rw [List.getElem?_append_left hj] at e
              obtain ⟨f', h1, h2⟩ := har j y e
              exact ⟨f', kp.frT ((k25.d hh2).frT h1), h2⟩
            · rw [List.getElem?_append_right (by omega)] at e
              have hz : j - acc.length = 0 := by
                by_cases z : j - acc.length = 0
                · exact z
                · rw [List.getElem?_eq_none (by simp; omega)] at e
                  cases e
              rw [hz] at e
              have ev : V.ref l = y := by simpa using e
              subst ev
              exact ⟨f, kp.frT ⟨l, ac4, rfl, SqT.of hl5, hf.same s5⟩, hfb⟩
    · rintro σ H2 ⟨k2, hh2, ⟨o4, o5, rfl⟩, acc, hacc, hal, har⟩
      rw [Int.toNat_natCast] at hal
      obtain ⟨R, hR, hRb⟩ := frmt_of (P := fun q => Bd 6 (q * 2)) hal har
      refine ⟨_, rfl, fo, acc, rfl, .inl ⟨SqL.of hacc, fun l nl => ?_⟩⟩
      have s5 := Same.upd (o := .tup acc) nl
      exact k _ _ R (k2.trans (.of s5)) (hh2.same s5) ⟨l, acc, rfl, SqT.of upd_same, hal, fun i u hu => (hR i u hu).same s5⟩ hRb
end
end K1
set_option Elab.async false
set_option linter.all false
set_option maxRecDepth 100000
set_option maxHeartbeats 8000000
namespace K1
open PySem L2 Kz Sx
abbrev sLKnown : Stmt := top 31
/-- weak duality -/
theorem weak {m n : Nat} {R : Nat → Nat → Rat} {g c x y : Nat → Rat} (f : Fe m n R g x) (d : Du m n R c y) : sm m (fun k => y k * g k) ≤ sm n (fun j => c j * x j) := by
  have e := dot_two (m := m) (n := n) (A := fun k j => if j < n then R k j else g k) y x (fun k hk => by
    rw [if_neg (by omega), ← f.2 k hk]
    exact sm_ext n fun j hj => by rw [if_pos hj])
  rw [sm_ext m (f := fun k => y k * (if n + m < n then R k (n + m) else g k)) (g := fun k => y k * g k) fun k _ => by rw [if_neg (by omega)]] at e
  rw [e]
  refine sm_le n fun j hj => ?_
  have h1 := d j hj
  have h2 := f.1 j hj
  rw [sm_ext m (f := fun k => y k * (if j < n then R k j else g k)) (g := fun k => y k * R k j) fun k _ => by rw [if_pos hj]]
  have := mul_nn (show 0 ≤ c j - sm m (fun k => y k * R k j) by grind) h2
  grind
theorem du0 {m n : Nat} {R : Nat → Nat → Rat} {c : Nat → Rat} (h : ∀ j, j < n → 0 ≤ c j) : Du m n R c (fun _ => 0) := fun j hj => by
  rw [sm_eq0 fun k _ => by grind]
  exact h j hj
theorem bd_num {R : Nat → Rat} {x : Nat → Rat} {n : Nat} (hn : n ≤ 4) (h1 : ∀ j, j < n → Bd 6 (R j * 2)) (h2 : ∀ j, j < n → Bd 6 (x j * 2)) : Bd 144 (sm n (fun j => R j * x j) * 4) := by
  have key : ∀ k, k ≤ n → Bd (k * 36) (sm k (fun j => R j * x j) * 4) := fun k => by
    induction k with
    | zero => intro _; exact ⟨0, by show (0 : Rat) * 4 = _; grind, by decide⟩
    | succ k ih =>
      intro hk
      have h3 := (ih (by omega)).add ((h1 k (by omega)).mul (h2 k (by omega)))
      have e : sm (k + 1) (fun j => R j * x j) * 4 = sm k (fun j => R j * x j) * 4 + R k * 2 * (x k * 2) := by
        show (sm k (fun j => R j * x j) + R k * x k) * 4 = _
        grind
      rw [e]
      exact h3.mono (by omega)
  exact (key n (Nat.le_refl _)).mono (by omega)
theorem bd_24 {q : Rat} (h : Bd 6 (q * 2)) : Bd Bq (q * 4) := by
  have := h.mul (⟨2, rfl, by decide⟩ : Bd 2 (2 : Rat))
  rw [show q * 2 * 2 = q * 4 by grind] at this
  exact this.mono (by decide)
theorem fr_int {K : PySem.W.Frag} {H : Hp} {a : Addr} {d : Int} (h : H a = some (.tup [.int d, .int 1])) : Fr K H (.ref a) (d : Rat) := ⟨a, rfl, SqT.of h⟩
theorem sm_int {d : Int} (h : d.natAbs < 1024) : Sm 10 (d : Rat) := ⟨h, by show 1 < _; decide⟩
theorem low_nn {t b : Int} (ht : 0 ≤ t) (hb : b = 1 ∨ b = 2) : 0 ≤ Rat.divInt t b := by
  rcases hb with rfl | rfl
  · exact Rat.divInt_nonneg ht (by decide)
  · exact Rat.divInt_nonneg ht (by decide)
/-- a part of the law: it answers True -/
def spPart : Sp := fun vs H Q _ => ∃ ha ca ns, vs = [.ref ha] ∧ HandAt H ha ca ns ∧ ∀ H', KpH ha H H' → HandAt H' ha ca ns → Q (.bl true) H'
section
variable {P : Program} {w : World} {K : PySem.W.Frag} {mg : Str → Option Value} {base : Heap}
abbrev nLK : List Str := ["hand", "long", "many", "rows", "known", "numbers", "costs", "told", "by", "more", "one", "row"]
theorem scLKnown : FnScope nLK ["hand"] (defScope sLKnown) := ⟨rfl, rfl, rfl, by decide +kernel, rfl, by decide +kernel, by decide +kernel⟩
theorem ok_lknown {f CN : Addr} {fd : FuncData} (F : Fun K "_law_known_right" "_law_known_right" sLKnown f fd) (DD : Df P w K mg base CX0 1 "_law_draw" ["hand", "below"] spDraw) (DW : Df P w K mg base CX0 2 "_law_low" ["top", "bottom"] (spLow K)) (DR : Df P w K mg base CX0 3 "_law_rows" ["hand", "long", "many"] (spRows K))
    (DS : Df P w K mg base CX0 3 "_law_scalar" ["one", "other"] (spLScal K)) (DE : Df P w K mg base (L2.CX P w) 6 "least" ["rows", "numbers", "costs"] (spLeast K CN)) (DJ : Df P w K mg base CX0 4 "_law_judged" ["rows", "numbers", "costs", "told"] (spJudged K)) (DL : Df P w K mg base CX0 1 "_law_less" ["one", "other"] (spLLess K))
    (DF : Df P w K mg base CX0 6 "fitted" ["rows", "numbers"] (spFitted K)) (DC : Df P w K mg base CX0 5 "scalar" ["one", "other"] (spScalar K)) (DM : Df P w K mg base CX0 1 "less" ["one", "other"] (spLess K)) (DT : Df P w K mg base CX0 3 "times" ["one", "other"] (spBin K (fun _ _ => True) fun p q => p * q))
    (zR : mg "range" = none) (zT : mg "tuple" = none) : FnOk P w K mg base CX0 7 f fd ["hand"] spPart := by
  refine F.ok scLKnown (fun vs H Q E h => ?_) (fun cdv A outer s H vs Q E hr h => ?_)
  · obtain ⟨ha, ca, ns, rfl, _⟩ := h
    rfl
  · obtain ⟨ha, ca, ns, rfl, hh, k⟩ := h
    refine ⟨_, pss_cons (ps_par (i := 1) (j := 2) rfl scLKnown.nd rfl rfl (by decide) rfl rfl (pa_cons (pe_op op_add pe_int (pe_callD DD hr (by decide) (by rfl) pass0 (pa_cons (pv 0) (pa_cons pe_int pa_nil)))) (pa_cons (pe_op op_add pe_int (pe_callD DD hr (by decide) (by rfl) pass0 (pa_cons (pv 0) (pa_cons pe_int pa_nil)))) pa_nil)) rfl)
      (pss_cons (ps_set (i := 3) scLKnown.nd rfl (.inl rfl) (pe_callD DR hr (by decide) (by rfl) pass0 (pa_cons (pv 0) (pa_cons (pv 1) (pa_cons (pv 2) pa_nil)))))
      (pss_cons (ps_set (i := 4) scLKnown.nd rfl (.inr rfl) (pe_callTy call_tuple_of (by rfl) zT PyProof.Rows.boot_tuple (pa_cons
        (pe_lc (own := [("one", 10)]) (g := gName 10) (tt := tYes) rfl scLKnown.nd (pi_range1 (by rfl) zR (pa_cons (pv 1) pa_nil)) (blkOk_by (N := nLK) (sc := defScope sLKnown) (by decide +kernel))
          (fun _ _ _ _ _ => pg_name (i := 10) scLKnown.nd rfl (.inl rfl)) (fun _ _ _ _ _ => pts_nil)
          (fun _ _ _ _ _ => pe_callD DW hr (by decide) (by rfl) pass0 (pa_cons (pe_callD DD hr (by decide) (by rfl) pass0 (pa_cons (pv 0) (pa_cons pe_int pa_nil))) (pa_cons (pe_op op_add pe_int (pe_callD DD hr (by decide) (by rfl) pass0 (pa_cons (pv 0) (pa_cons pe_int pa_nil)))) pa_nil)))) pa_nil)))
      (pss_cons (ps_set (i := 5) scLKnown.nd rfl (.inl rfl) (pe_callTy call_tuple_of (by rfl) zT PyProof.Rows.boot_tuple (pa_cons
        (pe_lc (own := [("row", 11)]) (g := gName 11) (tt := tYes) rfl scLKnown.nd (pi_tup (pv 3)) (blkOk_by (N := nLK) (sc := defScope sLKnown) (by decide +kernel))
          (fun _ _ _ _ _ => pg_name (i := 11) scLKnown.nd rfl (.inl rfl)) (fun _ _ _ _ _ => pts_nil)
          (fun _ _ _ _ _ => pe_callD DS hr (by decide) (by rfl) pass0 (pa_cons (pv 11) (pa_cons (pv 4) pa_nil)))) pa_nil)))
      (pss_cons (ps_set (i := 6) scLKnown.nd rfl (.inl rfl) (pe_callTy call_tuple_of (by rfl) zT PyProof.Rows.boot_tuple (pa_cons
        (pe_lc (own := [("one", 10)]) (g := gName 10) (tt := tYes) rfl scLKnown.nd (pi_range1 (by rfl) zR (pa_cons (pv 1) pa_nil)) (blkOk_by (N := nLK) (sc := defScope sLKnown) (by decide +kernel))
          (fun _ _ _ _ _ => pg_name (i := 10) scLKnown.nd rfl (.inl rfl)) (fun _ _ _ _ _ => pts_nil)
          (fun _ _ _ _ _ => pe_tup (pa_cons (pe_callD DD hr (by decide) (by rfl) pass0 (pa_cons (pv 0) (pa_cons pe_int pa_nil))) (pa_cons pe_int pa_nil)))) pa_nil)))
      (pss_cons (ps_set (i := 7) scLKnown.nd rfl (.inl rfl) (pe_callD DE hr (by decide) (by rfl) passL (pa_cons (pv 3) (pa_cons (pv 5) (pa_cons (pv 6) pa_nil)))))
      (pss_cons (ps_if (PW.pt (pw_or (pt_cmp (pc_isN (pv 7))) (pw_or1 (pt_not (pt_val (pe_callD DJ hr (by decide) (by rfl) pass0 (pa_cons (pv 3) (pa_cons (pv 5) (pa_cons (pv 6) (pa_cons (pv 7) pa_nil)))))))))) pss_never pss_nil)
      (pss_cons (ps_if (PW.pt (pw_or (pt_val (pe_callD DL hr (by decide) (by rfl) pass0 (pa_cons (pe_callD DS hr (by decide) (by rfl) pass0 (pa_cons (pv 6) (pa_cons (pv 4) pa_nil))) (pa_cons (pe_ix (r := rIxT K) ix_tup (pv 7) pe_int (fun _ _ => rfl)) pa_nil))))
        (pw_or1 (pt_cmpR op_ne (pe_ix (r := rIxT K) ix_tup (pe_callD DF hr (by decide) (by rfl) pass0 (pa_cons (pv 3) (pa_cons (pv 5) pa_nil))) pe_int (fun _ _ => rfl)) pe_str (nomark _))))) pss_never pss_nil)
      (pss_cons (ps_if (PW.pt (pw_or (pt_cmpR (op_neD hr.units) (pe_callD DC hr (by decide) (by rfl) pass0 (pa_cons (pv 6) (pa_cons (pe_ix (r := rIxT K) ix_tup (pv 7) pe_int (fun _ _ => rfl)) pa_nil))) (pe_ix (r := rIxT K) ix_tup (pv 7) pe_int (fun _ _ => rfl)) (nomark _))
        (pw_or1 (pt_cmpR op_isnot_bl (pe_callD DM hr (by decide) (by rfl) pass0 (pa_cons (pe_callD DC hr (by decide) (by rfl) pass0 (pa_cons (pv 6) (pa_cons (pv 4) pa_nil))) (pa_cons (pe_ix (r := rIxT K) ix_tup (pv 7) pe_int (fun _ _ => rfl)) pa_nil))) pe_bl (nomark _))))) pss_never pss_nil)
      (pss_cons (ps_set (i := 8) scLKnown.nd rfl (.inr rfl) (pe_tup (pa_cons (pe_op op_add pe_int (pe_callD DD hr (by decide) (by rfl) pass0 (pa_cons (pv 0) (pa_cons pe_int pa_nil)))) (pa_cons pe_int pa_nil))))
      (pss_cons (ps_set (i := 9) scLKnown.nd rfl (.inl rfl) (pe_callD DE hr (by decide) (by rfl) passL (pa_cons (pv 3) (pa_cons (pv 5) (pa_cons (pe_callTy call_tuple_of (by rfl) zT PyProof.Rows.boot_tuple (pa_cons
        (pe_lc (own := [("one", 10)]) (g := gName 10) (tt := tYes) rfl scLKnown.nd (pi_tup (pv 6)) (blkOk_by (N := nLK) (sc := defScope sLKnown) (by decide +kernel))
          (fun _ _ _ _ _ => pg_name (i := 10) scLKnown.nd rfl (.inl rfl)) (fun _ _ _ _ _ => pts_nil)
          (fun _ _ _ _ _ => pe_callD DT hr (by decide) (by rfl) pass0 (pa_cons (pv 8) (pa_cons (pv 10) pa_nil)))) pa_nil)) pa_nil)))))
      (pss_one (ps_ret (pe_and (pe_cmp (pc_notN (pv 9))) (pe_one (pe_cmpR (op_eqD hr.units) (pe_ix (r := rIxT K) ix_tup (pv 9) pe_int (fun _ _ => rfl)) (pe_callD DT hr (by decide) (by rfl) pass0 (pa_cons (pv 8) (pa_cons (pe_ix (r := rIxT K) ix_tup (pv 7) pe_int (fun _ _ => rfl)) pa_nil))) (nomark _)))))))))))))))), ?_⟩
    refine ⟨_, rfl, ha, ca, ns, 4, rfl, hh, by decide, by decide, fun H1 d1 k1 hh1 d10 d11 => ?_⟩
    refine ⟨_, _, rfl, rfl, _, rfl, ha, ca, ns, 3, rfl, hh1, by decide, by decide, fun H2 d2 k2 hh2 d20 d21 => ?_⟩
    refine ⟨_, _, rfl, rfl, _, _, rfl, ?_⟩
    obtain ⟨n, hn⟩ := Int.eq_ofNat_of_zero_le (show 0 ≤ 1 + d1 by omega)
    obtain ⟨m, hm⟩ := Int.eq_ofNat_of_zero_le (show 0 ≤ 1 + d2 by omega)
    have hn4 : n ≤ 4 := by omega
    have hm3 : m = 1 ∨ m = 2 ∨ m = 3 := by omega
    rw [show ((fun i j : Int => V.int (i + j)) 1 d1) = V.int (n : Int) from congrArg V.int hn, show ((fun i j : Int => V.int (i + j)) 1 d2) = V.int (m : Int) from congrArg V.int hm]
    refine ⟨_, rfl, _, rfl, _, rfl, ha, ca, ns, n, m, rfl, hh2, hn4, by omega, fun H3 rv R k3 hh3 hR hRb => ?_⟩
    -- known
    refine ⟨_, rfl, (n : Int), rfl, by omega, by omega, fun D nD => lcH (walk_range (lo := 0) (n := (n : Int).toNat)) (fun i y Hh => ∃ q, Fr K Hh y q ∧ (0 ≤ q ∧ Bd 6 (q * 2))) (fun _ _ _ _ kp ⟨q, e1, e2⟩ => ⟨q, kp.fr e1, e2⟩) (fun _ _ _ _ kp ⟨q, e1, e2⟩ => ⟨q, kp.fr e1, e2⟩) hh3 nD (by omega) (fun _ _ => True.intro) ?_ ?_⟩
    · rintro j u H4 H5 Q' hj k4 hh4 ⟨rfl, rfl⟩ kk
      refine ⟨rfl, _, rfl, ha, ca, ns, 4, rfl, hh4, by decide, by decide, fun H6 t k6 hh6 t0 t1 => ?_⟩
      refine ⟨_, rfl, ha, ca, ns, 2, rfl, hh6, by decide, by decide, fun H7 b k7 hh7 b0 b1 => ?_⟩
      have hbt : (1 + b : Int) = 1 ∨ (1 + b : Int) = 2 := by omega
      refine ⟨_, _, rfl, rfl, t, _, rfl, (by show 0 < 1 + b; omega), ?_, fun H8 r s8 fr => kk _ _ ((k6.trans k7).trans (.of s8)) (hh7.same s8) ⟨_, fr, low_nn t0 hbt, low_bd (by omega) hbt⟩⟩
      show (1 + b : Int).natAbs < 2 ^ 8900
      have h1 : (1 + b : Int).natAbs < 2 ^ 2 := by show _ < 4; omega
      exact Nat.lt_of_lt_of_le h1 (two_le (by decide))
    · rintro H4 ac4 k4 hh4 hD4 hl4 hr4
      rw [Int.toNat_natCast] at hl4
      obtain ⟨x, hx, hxb⟩ := frs_of (P := fun q => 0 ≤ q ∧ Bd 6 (q * 2)) hl4 hr4
      refine ⟨D, ac4, rfl, .inl ⟨SqL.of hD4, fun l4 nl4 => ?_⟩⟩
      have s5 := Same.upd (o := .tup ac4) nl4
      have hl5 : (upd H4 l4 (.tup ac4)) l4 = some (.tup ac4) := upd_same
      generalize upd H4 l4 (.tup ac4) = H5 at s5 hl5
      have hh5 := hh4.same s5
      have hR5 : FrMT K H5 rv m n R := ((k4.d hh3).frMT hR).same s5
      have hX5 : FrA true K H5 (.ref l4) n x := ⟨l4, ac4, rfl, SqT.of hl5, hx.same s5⟩
      have kH5 : KpH ha H H5 := (((k1.trans k2).trans k3).trans k4).trans (.of s5)
      have szR : ∀ i, i < m → ∀ j, j < n → Sm 100 (R i j) := fun i hi j hj => bd_sm (bd_24 (hRb i hi j hj))
      have szx : ∀ j, j < n → Sm 100 (x j) := fun j hj => bd_sm (bd_24 (hxb j hj).2)
      -- numbers
      obtain ⟨ra, ls, rfl, hra, hll, hrow⟩ := id hR5
      obtain ⟨g, hg⟩ : ∃ g : Nat → Rat, g = fun i => sm n (fun j => R i j * x j) := ⟨_, rfl⟩
      have Fx : Fe m n R g x := ⟨fun j hj => (hxb j hj).1, fun k hk => by rw [hg]⟩
      have S : Sml m n R g := ⟨hm3, hn4, fun i hi j hj => bd_24 (hRb i hi j hj), fun i hi => by rw [hg]; exact (bd_num hn4 (hRb i hi) fun j hj => (hxb j hj).2).mono (by decide)⟩
      refine ⟨_, rfl, ra, rfl, ⟨_, hra⟩, fun D6 nD6 => lcF (K := K) (walk_tup (K := K) (a := ra) (xs := ls)) g nD6 (by omega) (fun H6 s6 => Same.sqT s6 hra) ?_ ?_⟩
      · rintro i u H6 H7 Q' hi s6 ⟨rfl, hu⟩ kk
        rw [hll] at hi
        refine ⟨rfl, _, rfl, _, rfl, u, _, n, R i, x, true, true, 100, 100, rfl, (hrow i u hu).same s6, hX5.same s6, hn4, szR i hi, szx, by decide, by decide, by decide, fun H8 r s8 fr => kk _ _ s8 ?_⟩
        rw [hg]
        exact fr
      · rintro H6 ac6 s6 hD6 hf6
        rw [hll] at hf6
        refine ⟨D6, ac6, rfl, .inl ⟨SqL.of hD6, fun l7 nl7 => ?_⟩⟩
        have s7 := Same.upd (o := .tup ac6) nl7
        have hl7 : (upd H6 l7 (.tup ac6)) l7 = some (.tup ac6) := upd_same
        generalize upd H6 l7 (.tup ac6) = H7 at s7 hl7
        have s57 := s6.trans s7
        have hh7 := hh5.same s57
        have hN7 : FrA true K H7 (.ref l7) m g := ⟨l7, ac6, rfl, SqT.of hl7, hf6.same s7⟩
        -- costs
        refine ⟨_, rfl, (n : Int), rfl, by omega, by omega, fun D8 nD8 => lcH (walk_range (lo := 0) (n := (n : Int).toNat)) (fun i y Hh => ∃ q, Fr K Hh y q ∧ (0 ≤ q ∧ Sm 10 q)) (fun _ _ _ _ kp ⟨q, e1, e2⟩ => ⟨q, kp.fr e1, e2⟩) (fun _ _ _ _ kp ⟨q, e1, e2⟩ => ⟨q, kp.fr e1, e2⟩) hh7 nD8 (by omega) (fun _ _ => True.intro) ?_ ?_⟩
        · rintro j u H8 H9 Q' hj k8 hh8 ⟨rfl, rfl⟩ kk
          refine ⟨rfl, _, rfl, ha, ca, ns, 6, rfl, hh8, by decide, by decide, fun H10 t k10 hh10 t0 t1 => ⟨sz2, fun tt ntt => ?_⟩⟩
          have st := Same.upd (o := .tup [.int t, .int 1]) ntt
          exact kk _ _ (k10.trans (.of st)) (hh10.same st) ⟨(t : Rat), fr_int upd_same, by exact_mod_cast t0, sm_int (by omega)⟩
        · rintro H8 ac8 k8 hh8 hD8 hl8 hr8
          rw [Int.toNat_natCast] at hl8
          obtain ⟨c, hc, hcb⟩ := frs_of (P := fun q => 0 ≤ q ∧ Sm 10 q) hl8 hr8
          refine ⟨D8, ac8, rfl, .inl ⟨SqL.of hD8, fun l9 nl9 => ?_⟩⟩
          have s9 := Same.upd (o := .tup ac8) nl9
          have hl9 : (upd H8 l9 (.tup ac8)) l9 = some (.tup ac8) := upd_same
          generalize upd H8 l9 (.tup ac8) = H9 at s9 hl9
          have hh9 := hh8.same s9
          have I9 : Inp K H9 (.ref ra) (.ref l7) m n R g := ⟨((k8.d hh7).frMT (hR5.same s57)).same s9, ((k8.d hh7).frT hN7).same s9, S⟩
          have hX9 : FrA true K H9 (.ref l4) n x := ((k8.d hh7).frT (hX5.same s57)).same s9
          have hC9 : FrA true K H9 (.ref l9) n c := ⟨l9, ac8, rfl, SqT.of hl9, hc.same s9⟩
          have hcs : ∀ j, j < n → Sm 100 (c j) := fun j hj => (hcb j hj).2.mono (by decide)
          have kH9 : KpH ha H H9 := ((kH5.trans (.of s57)).trans k8).trans (.of s9)
          -- told
          refine ⟨_, rfl, _, rfl, _, rfl, _, _, _, m, n, R, g, c, rfl, I9, hC9, hcs, fun Ha sa no => (no x Fx).elim, fun Ha ta wv xv yv x1 y1 sa hta fw fx fy Fx1 du vy sx sy => ?_, fun Ha d sa _ _ nodu => (nodu _ (du0 fun j hj => (hcb j hj).1)).elim⟩
          have TD : Told K Ha (.ref ta) m n R g c (sm n fun j => c j * x1 j) x1 y1 := ⟨⟨ta, wv, xv, yv, rfl, SqT.of hta, fw, fx, fy⟩, Fx1, du, rfl, vy, sx, sy⟩
          generalize hval : (sm n fun j => c j * x1 j) = val at *
          have szv : Sm 2010 val := by
            rw [← hval]
            refine (sm_Sm (s := 500) fun j hj => (hcs j hj).mul (sx j hj)).mono ?_
            have : n * (500 + 1) ≤ 4 * 501 := Nat.mul_le_mul_right _ hn4
            omega
          have szk : Sm 1000 (sm n fun j => c j * x j) := by
            refine (sm_Sm (s := 200) fun j hj => (hcs j hj).mul (szx j hj)).mono ?_
            have : n * (200 + 1) ≤ 4 * 201 := Nat.mul_le_mul_right _ hn4
            omega
          refine ⟨_, rfl, _, rfl, iteF ?_⟩
          refine ⟨_, rfl, _, rfl, _, rfl, _, rfl, _, _, _, _, m, n, R, g, c, val, x1, y1, rfl, I9.same sa, hC9.same sa, hcs, TD, fun Hb sb => ⟨_, rfl, iteF ?_⟩⟩
          have sab := sa.trans sb
          -- known costs no less
          refine ⟨_, rfl, _, rfl, _, _, n, c, x, true, true, 100, 100, rfl, hC9.same sab, hX9.same sab, hn4, hcs, szx, by decide, by decide, by decide, fun Hc rc sc frc => ?_⟩
          refine ⟨_, rfl, ta, _, _, _, rfl, rfl, SqT.of ((sb.trans sc) _ _ hta), (rfl : atI [wv, xv, yv] (0 : Int) = some wv), _, _, _, _, rfl, frc, fw.same (sb.trans sc), szk.mono (by decide), szv.mono (by decide), _, rfl, ?_⟩
          have wk : ¬ (sm n fun j => c j * x j) < val := fun z => by
            have := weak Fx du
            rw [vy] at this
            grind
          rw [decide_eq_false wk]
          refine iteF ?_
          refine ⟨_, rfl, _, rfl, _, _, m, n, R, g, rfl, (I9.same sab).same sc, fun Hd td yd sd hd no => (no x Fx).elim, fun Hd td yd sd hd _ => ?_⟩
          refine ⟨td, _, _, _, rfl, rfl, SqT.of hd, at0, rfl, _, rfl, iteF ?_⟩
          have sbd := (sb.trans sc).trans sd
          have sad := sa.trans sbd
          -- scalar of the told
          refine ⟨_, rfl, _, rfl, ta, _, _, _, rfl, rfl, SqT.of (sbd _ _ hta), (rfl : atI [wv, xv, yv] (1 : Int) = some xv), _, _, n, c, x1, true, true, rfl, hC9.same sad, fx.same sbd, by omega, hcs, sx, fun He re se fre => ?_⟩
          rw [hval] at fre
          have sbe := sbd.trans se
          have sae := sa.trans sbe
          refine ⟨_, rfl, ta, _, _, _, rfl, rfl, SqT.of (sbe _ _ hta), (rfl : atI [wv, xv, yv] (0 : Int) = some wv), _, _, fre.dp, (fw.same sbe).dp, shaped_dF _, shaped_dF _, _, rfl, ?_⟩
          rw [eqv_dF, decide_eq_true rfl]
          refine iteF ?_
          refine ⟨_, rfl, _, rfl, _, _, n, c, x, true, true, rfl, hC9.same sae, hX9.same sae, by omega, hcs, fun j hj => (szx j hj).mono (by decide), fun Hf rf sf frf => ?_⟩
          have sbf := sbe.trans sf
          have saf := sa.trans sbf
          refine ⟨_, rfl, ta, _, _, _, rfl, rfl, SqT.of (sbf _ _ hta), (rfl : atI [wv, xv, yv] (0 : Int) = some wv), _, _, _, _, rfl, frf, fw.same sbf, szk.mono (by decide), szv.mono (by decide), ?_⟩
          rw [decide_eq_false wk]
          refine ⟨false, false, rfl, rfl, _, rfl, iteF ?_⟩
          -- by
          have hhf := hh9.same saf
          refine ⟨_, rfl, ha, ca, ns, 4, rfl, hhf, by decide, by decide, fun Hg d kg hhg g0 g1 => ?_⟩
          refine ⟨_, _, rfl, rfl, sz2, fun tb ntb => ?_⟩
          have sh := Same.upd (o := .tup [.int (1 + d), .int 1]) ntb
          have hby : Fr K (upd Hg tb (.tup [.int (1 + d), .int 1])) (.ref tb) ((1 + d : Int) : Rat) := fr_int upd_same
          change gName 8 _ _ (upd Hg tb (.tup [.int (1 + d), .int 1])) _
          generalize upd Hg tb (.tup [.int (1 + d), .int 1]) = Hh at sh hby
          obtain ⟨by_, hbydef⟩ : ∃ q : Rat, q = ((1 + d : Int) : Rat) := ⟨_, rfl⟩
          have bpos : 0 < by_ := by rw [hbydef]; exact_mod_cast (show (0 : Int) < 1 + d by omega)
          have bsz : Sm 10 by_ := by rw [hbydef]; exact sm_int (by omega)
          rw [← hbydef] at hby
          have hhh := hhg.same sh
          have kfh : KpH ha Hf Hh := kg.trans (.of sh)
          have I_h : Inp K Hh (.ref ra) (.ref l7) m n R g := ⟨((kg.d hhf).frMT (I9.same saf).rows).same sh, ((kg.d hhf).frT (I9.same saf).nums).same sh, S⟩
          have hC_h : FrA true K Hh (.ref l9) n c := ((kg.d hhf).frT (hC9.same saf)).same sh
          have hta_h : SqT K Hh ta [wv, xv, yv] := Same.sqT sh ((kg.d hhf).sqT (SqT.of (sbf _ _ hta)))
          have fw_h : Fr K Hh wv val := ((kg.d hhf).fr (fw.same sbf)).same sh
          obtain ⟨ca2, wc, ec, hwc, fwc⟩ := id hC_h
          obtain rfl := V.ref.inj ec
          refine ⟨_, rfl, _, rfl, _, rfl, l9, rfl, ⟨_, hwc⟩, fun Di nDi => lcF (K := K) (walk_tup (K := K) (a := l9) (xs := wc)) (fun j => by_ * c j) nDi (by rw [fwc.1]; omega) (fun Hi si => Same.sqT si hwc) ?_ ?_⟩
          · rintro j u Hi Hj Q' hj si ⟨rfl, hu⟩ kk
            rw [fwc.1] at hj
            exact ⟨rfl, _, rfl, _, rfl, _, _, _, _, rfl, hby.same si, (fwc.2 j u hu).same si, bsz.mono (by decide), (hcs j hj).mono (by decide), True.intro, fun Hk r sk fr => kk _ _ sk fr⟩
          · rintro Hi aci si hDi hfi
            rw [fwc.1] at hfi
            refine ⟨Di, aci, rfl, .inl ⟨SqL.of hDi, fun lj nlj => ?_⟩⟩
            have sj := Same.upd (o := .tup aci) nlj
            have hlj : (upd Hi lj (.tup aci)) lj = some (.tup aci) := upd_same
            generalize upd Hi lj (.tup aci) = Hj at sj hlj
            have shj := si.trans sj
            refine ⟨_, _, _, m, n, R, g, fun j => by_ * c j, rfl, I_h.same shj, ⟨lj, aci, rfl, SqT.of hlj, hfi.same sj⟩, fun j hj => (bsz.mul (hcb j hj).2).mono (by decide), fun Hk sk no => (no x Fx).elim, fun Hk tk wk2 xk yk x2 y2 sk htk fwk fxk fyk Fx2 du2 vy2 sx2 sy2 => ?_, fun Hk dk sk _ _ nodu => (nodu _ (du0 fun j hj => mul_nn (Rat.le_of_lt bpos) (hcb j hj).1)).elim⟩
            have shk := shj.trans sk
            refine ⟨_, rfl, _, rfl, iteT ?_⟩
            refine ⟨_, rfl, tk, _, _, _, rfl, rfl, SqT.of htk, (rfl : atI [wk2, xk, yk] (0 : Int) = some wk2), _, rfl, _, rfl, ta, _, _, _, rfl, rfl, Same.sqT shk hta_h, (rfl : atI [wv, xv, yv] (0 : Int) = some wv), _, _, _, _, rfl, hby.same shk, fw_h.same shk, bsz.mono (by decide), szv.mono (by decide), True.intro, fun Hl rl sl frl => ?_⟩
            refine ⟨_, _, (fwk.same sl).dp, frl.dp, shaped_dF _, shaped_dF _, ?_⟩
            have e1 : (sm n fun j => by_ * c j * x2 j) = by_ * sm n fun j => c j * x2 j := by
              rw [← sm_mul]
              exact sm_ext n fun j _ => by grind
            have e2 : (sm n fun j => by_ * c j * x1 j) = by_ * val := by
              rw [← hval, ← sm_mul]
              exact sm_ext n fun j _ => by grind
            have w1 := weak Fx2 du
            rw [vy] at w1
            have w2 := weak Fx1 du2
            rw [vy2, e2, e1] at w2
            have w3 := mul_nn (Rat.le_of_lt bpos) (show 0 ≤ (sm n fun j => c j * x2 j) - val by grind)
            rw [eqv_dF, decide_eq_true (show (sm n fun j => by_ * c j * x2 j) = by_ * val by rw [e1]; grind)]
            exact k Hl (((kH9.trans (.of saf)).trans kfh).trans (.of (shk.trans sl))) (hhh.same (shk.trans sl))
end
end K1
set_option Elab.async false
set_option linter.all false
set_option maxRecDepth 100000
set_option maxHeartbeats 8000000
namespace K1
open PySem L2 Kz Sx KX
abbrev sLSaid : Stmt := top 34
/-- what the class D must say for isinstance of its instances -/
structure IsC (K : PySem.W.Frag) (D : Addr) : Prop where
  cl : (PySem.W.clsIn K D).isSome = true
  ga : PySem.W.findIn K (.ref D) "__getattribute__" = some (some (.builtin "BaseException.__getattribute__"))
  gt : PySem.W.findIn K (.ref D) "__getattr__" = some none
  sb : PySem.W.subIn K (.ref D) (.type "BaseException") = some true
  ca : PySem.W.findIn K (.ref D) "__class__" = some (some (.builtin "object.__class__"))
  sp : PySem.W.specialIn K (.builtin "object.__class__") "__get__" = some (some (.builtin "getset_descriptor.__get__"))
  tk : PySem.W.takesIn K (.builtin "object.__class__") = some true
  ob : PySem.W.mroIn K D (.type "object") = some true
def rIsX (K : PySem.W.Frag) (a : Addr) (cls : Value) (d : Option Addr) : List V → Hp → VK → Prop := fun xs H Q => ∃ (D dd : Addr) (c : V) (cv : Value) (b : Bool) (fs : List (Str × V)), cls = .ref D ∧ d = some dd ∧ IsC K D ∧ xs = [.ref a, c] ∧ (∀ u, RelV c u → u = cv) ∧ H dd = some (.xd fs) ∧ PySem.W.kitOne K (.ref D) cv = some b ∧ Q (.bl b) H
theorem call_isX {X : Cx} {a : Addr} {cls : Value} {d : Option Addr} {oe : Obj} {pn : List (Addr × Obj)} (hz : Zc cls d oe) (hf : ∃ vs, oe.data = .fields vs) : CallR (X.suite a ((a, oe) :: pn)) (.builtin "isinstance") (rIsX X.K a cls d) := by
  intro pins s σ H xs us Q I r h
  obtain ⟨D, dd, c, cv, b, fs, rfl, rfl, C, rfl, hcv, hdd, e, q⟩ := h
  obtain ⟨u1, u2, rfl, r1, r2⟩ := vals2 r
  obtain rfl : u1 = Value.ref a := r1
  obtain rfl := hcv _ r2
  obtain ⟨hget, _⟩ := I.pin (a, oe) (List.mem_append.mpr (.inl List.mem_cons_self))
  obtain ⟨vs, hv⟩ := hf
  have hx : ObjOk X.prog X.w H s.heap dd (.xd fs) := I.hok dd _ hdd
  obtain ⟨mA, ⟨od, _, _, hod, _⟩, _⟩ := hx
  have J : PySem.W.InstAt s.heap a oe D (some od) := by
    obtain ⟨oc, odi, oda, osl⟩ := oe
    obtain ⟨h1, h2⟩ := hz
    dsimp only at h1 h2 hv
    subst h1 h2 hv
    exact ⟨hget, rfl, rfl, hod⟩
  exact PySem.W.kia_one (PySem.W.kitx_exc C.cl C.ga C.gt C.sb C.ca C.sp C.tk C.ob) I.kIn J e (fun z => nomatch z) fun tk => ⟨.bl b, H, I.kept (t' := tk) fun _ _ z => z, rfl, q⟩
def spSaid (K : PySem.W.Frag) : Sp := fun vs H Q _ => ∃ u v cv m n R g c, vs = [u, v, cv] ∧ Inp K H u v m n R g ∧ FrA true K H cv n c ∧ (∀ j, j < n → Sm 100 (c j)) ∧ (∃ x, Fe m n R g x) ∧
  (∀ H', Same H H' → (∃ y, Du m n R c y) → Q (.str "told") H') ∧ (∀ H', Same H H' → (∀ y, ¬ Du m n R c y) → Q (.str "fraction") H')
section
variable {P : Program} {w : World} {K : PySem.W.Frag} {mg : Str → Option Value} {base : Heap}
theorem scLSaid : FnScope ["rows", "numbers", "costs", "told", "error"] ["rows", "numbers", "costs"] (defScope sLSaid) := ⟨rfl, rfl, rfl, by decide +kernel, rfl, by decide +kernel, by decide +kernel⟩
theorem ok_lsaid {f CN CV : Addr} {fd : FuncData} (F : Fun K "_law_said" "_law_said" sLSaid f fd) (DE : Df P w K mg base (L2.CX P w) 6 "least" ["rows", "numbers", "costs"] (spLeast K CN)) (DJ : Df P w K mg base CX0 4 "_law_judged" ["rows", "numbers", "costs", "told"] (spJudged K))
    (mV : mg "VerdictError" = some (.ref CV)) (mN : mg "NoFraction" = some (.ref CN)) (zI : mg "isinstance" = none) (zV : mg "ValueError" = none) (C : IsC K CN) (xm : PySem.W.exmOne K (.ref CN) (.ref CV) = some true) (kN : PySem.W.kitOne K (.ref CN) (.ref CN) = some true) (kV : PySem.W.kitOne K (.ref CN) (.type "ValueError") = some true) :
    FnOk P w K mg base CX0 7 f fd ["rows", "numbers", "costs"] (spSaid K) := by
  refine F.ok scLSaid (fun vs H Q E h => ?_) (fun cdv A outer s H vs Q E hr h => ?_)
  · obtain ⟨u, v, cv, m, n, R, g, c, rfl, _⟩ := h
    rfl
  · obtain ⟨u, v, cv, m, n, R, g, c, rfl, I, hcv, hcs, hfe, kt, kf⟩ := h
    obtain ⟨fE, fdE, FE, mE, kE, bE⟩ := DE.ex
    have hr6 : Room 6 _ := hr.mono (by decide)
    refine ⟨_, pss_cons (ps_try_as (i := 4) (tb := fun W => tAsg (tCallS (spLeast K CN) (WE W) (tCons (tVar 0) (tCons (tVar 1) (tCons (tVar 2) tNil)))) (gName 3))
        (ts := fun a cls d => tRet (tIf (tAnd (tB (tCB (rIsX K a cls d) (tCons (tVar 4) (tCons (tC (.ref CN)) tNil)))) (tB (tCB (rIsX K a cls d) (tCons (tVar 4) (tCons (tC (.ty "ValueError")) tNil))))) (fun _ H Q => Q (V.str "fraction") H) (fun _ H Q => Q (V.str "other") H)))
        (Wout := fun _ _ _ _ => False) rfl rfl scLSaid.nd rfl rfl ⟨rfl, by decide, .inl mV⟩ takes0
        (fun W pn xe tk _ => pss_one (ps_set (i := 3) scLSaid.nd rfl (.inl rfl) (by exact (pe_callS FE hr6 rfl mE kE bE (fun σ => passAt tk σ) (by exact (pa_cons (pv 0) (pa_cons (pv 1) (pa_cons (pv 2) pa_nil))))))))
        (fun a oe cls d pn hz hf => pss_one (ps_ret (pe_ifExp (PW.pt (pw_and (pt_val (pe_callB (call_isX hz hf) (by rfl) zI PyProof.Rows.boot_isinstance (pa_cons (pv 4) (pa_cons (pe_glob (v := V.ref CN) (by rfl) mN rfl) pa_nil))))
          (pw_and1 (pt_val (pe_callB (call_isX hz hf) (by rfl) zI PyProof.Rows.boot_isinstance (pa_cons (pv 4) (pa_cons (pe_bltn (v := V.ty "ValueError") (by rfl) zV PyProof.Rows.Boot.«ValueError» rfl) pa_nil))))))) pe_str pe_str))))
      (pss_one (ps_ret (pe_ifExp (PW.pt (pw_and (pt_cmp (pc_notN (pv 3))) (pw_and1 (pt_val (pe_callD DJ hr (by decide) (by rfl) pass0 (pa_cons (pv 0) (pa_cons (pv 1) (pa_cons (pv 2) (pa_cons (pv 3) pa_nil))))))))) pe_str pe_str))), ?_⟩
    obtain ⟨x0, hx0⟩ := hfe
    refine ⟨_, rfl, _, rfl, _, rfl, u, v, cv, m, n, R, g, c, rfl, I, hcv, hcs, fun H' s' no => (no x0 hx0).elim, fun H' t wv xv yv x y s' ht fw fx fy fe du vy sx sy => ?_, fun H' d s' hd _ nodu => ?_⟩
    · refine ⟨_, rfl, _, rfl, iteT ?_⟩
      refine ⟨_, rfl, _, rfl, _, rfl, _, rfl, u, v, cv, _, m, n, R, g, c, _, x, y, rfl, I.same s', hcv.same s', hcs, ⟨⟨t, wv, xv, yv, rfl, SqT.of ht, fw, fx, fy⟩, fe, du, rfl, vy, sx, sy⟩, fun H'' s'' => ⟨_, rfl, iteT ?_⟩⟩
      exact kt _ (s'.trans s'') ⟨y, du⟩
    · refine ⟨true, xm, fun _ a na => ?_, fun z => nomatch z⟩
      refine ⟨_, rfl, CN, d, _, _, true, _, rfl, rfl, C, rfl, (fun u e => e), hd, kN, _, rfl, iteT ?_⟩
      refine ⟨_, rfl, CN, d, _, _, true, _, rfl, rfl, C, rfl, (fun u e => e), hd, kV, _, rfl, iteT ?_⟩
      exact kf _ s' nodu
end
end K1
set_option Elab.async false
set_option linter.all false
set_option maxRecDepth 100000
set_option maxHeartbeats 8000000
namespace K1
open PySem L2 Kz Sx
abbrev sLNone : Stmt := top 32
theorem bd_int {d : Int} {b : Nat} (h : d.natAbs ≤ b) : Bd (2 * b) ((d : Rat) * 2) := ⟨d * 2, by rw [Rat.intCast_mul]; rfl, by omega⟩
theorem cutV_tail {x : V} {xs : List V} : cutV (x :: xs) (some 1) none = xs := by
  unfold cutV
  have e1 : HT.sIx (x :: xs).length 0 (some 1) = 1 := by
    have := HT.sIx_nat (x :: xs).length 0 1
    rw [show ((1 : Nat) : Int) = 1 from rfl] at this
    rw [this]
    simp
  rw [e1, HT.sIx_none]
  simp
/-- t + u, the first of t told -/
theorem cat_key {K : PySem.W.Frag} {H : Hp} {a b : Addr} {x : V} {ys : List V} (h1 : SqT K H a [x]) (h2 : SqT K H b ys) (hl : ys.length ≤ 900) (Q : VK) (h : ∀ c H', Same H H' → SqT K H' c (x :: ys) → Q (.ref c) H') : rCatT K (.ref a) (.ref b) H Q := by
  refine ⟨a, b, [x], ys, rfl, rfl, h1, h2, by simp, Nat.le_of_lt (small1000 (by show 1 + ys.length ≤ 1000; omega)), fun e => ?_, fun _ p np => ?_⟩
  · subst e
    exact h a H (Same.refl _) h1
  · exact h p _ (Same.upd np) (SqT.of upd_same)
section
variable {P : Program} {w : World} {K : PySem.W.Frag} {mg : Str → Option Value} {base : Heap}
abbrev nLN : List Str := ["hand", "long", "rows", "numbers", "costs", "one", "row"]
theorem scLNone : FnScope nLN ["hand"] (defScope sLNone) := ⟨rfl, rfl, rfl, by decide +kernel, rfl, by decide +kernel, by decide +kernel⟩
theorem ok_lnone {f CN : Addr} {fd : FuncData} (F : Fun K "_law_none_right" "_law_none_right" sLNone f fd) (DD : Df P w K mg base CX0 1 "_law_draw" ["hand", "below"] spDraw) (DR : Df P w K mg base CX0 3 "_law_rows" ["hand", "long", "many"] (spRows K))
    (DE : Df P w K mg base (L2.CX P w) 6 "least" ["rows", "numbers", "costs"] (spLeast K CN)) (DF : Df P w K mg base CX0 6 "fitted" ["rows", "numbers"] (spFitted K)) (zR : mg "range" = none) (zT : mg "tuple" = none) : FnOk P w K mg base CX0 7 f fd ["hand"] spPart := by
  refine F.ok scLNone (fun vs H Q E h => ?_) (fun cdv A outer s H vs Q E hr h => ?_)
  · obtain ⟨ha, ca, ns, rfl, _⟩ := h
    rfl
  · obtain ⟨ha, ca, ns, rfl, hh, k⟩ := h
    refine ⟨_, pss_cons (ps_set (i := 1) scLNone.nd rfl (.inl rfl) (pe_op op_add pe_int (pe_callD DD hr (by decide) (by rfl) pass0 (pa_cons (pv 0) (pa_cons pe_int pa_nil)))))
      (pss_cons (ps_set (i := 2) scLNone.nd rfl (.inl rfl) (pe_tup (pa_cons (pe_callTy call_tuple_of (by rfl) zT PyProof.Rows.boot_tuple (pa_cons
        (pe_lc (own := [("one", 5)]) (g := gName 5) (tt := tYes) rfl scLNone.nd (pi_range1 (by rfl) zR (pa_cons (pv 1) pa_nil)) (blkOk_by (N := nLN) (sc := defScope sLNone) (by decide +kernel))
          (fun _ _ _ _ _ => pg_name (i := 5) scLNone.nd rfl (.inl rfl)) (fun _ _ _ _ _ => pts_nil)
          (fun _ _ _ _ _ => pe_tup (pa_cons (pe_callD DD hr (by decide) (by rfl) pass0 (pa_cons (pv 0) (pa_cons pe_int pa_nil))) (pa_cons pe_int pa_nil)))) pa_nil)) pa_nil)))
      (pss_cons (ps_set (i := 2) scLNone.nd rfl (.inl rfl) (pe_op op_catT (pv 2) (pe_callD DR hr (by decide) (by rfl) pass0 (pa_cons (pv 0) (pa_cons (pv 1) (pa_cons (pe_callD DD hr (by decide) (by rfl) pass0 (pa_cons (pv 0) (pa_cons pe_int pa_nil))) pa_nil))))))
      (pss_cons (ps_set (i := 3) scLNone.nd rfl (.inl rfl) (pe_op op_catT (pe_tup (pa_cons (pe_tup (pa_cons (pe_op op_sub (pe_op op_sub pe_int pe_int) (pe_callD DD hr (by decide) (by rfl) pass0 (pa_cons (pv 0) (pa_cons pe_int pa_nil)))) (pa_cons pe_int pa_nil))) pa_nil))
        (pe_callTy call_tuple_of (by rfl) zT PyProof.Rows.boot_tuple (pa_cons
        (pe_lc (own := [("row", 6)]) (g := gName 6) (tt := tYes) rfl scLNone.nd (pi_tup (pe_slice sl_tup (pv 2) (po_some pe_int) po_none)) (blkOk_by (N := nLN) (sc := defScope sLNone) (by decide +kernel))
          (fun _ _ _ _ _ => pg_name (i := 6) scLNone.nd rfl (.inl rfl)) (fun _ _ _ _ _ => pts_nil)
          (fun _ _ _ _ _ => pe_tup (pa_cons (pe_op op_sub (pe_callD DD hr (by decide) (by rfl) pass0 (pa_cons (pv 0) (pa_cons pe_int pa_nil))) pe_int) (pa_cons pe_int pa_nil)))) pa_nil))))
      (pss_cons (ps_set (i := 4) scLNone.nd rfl (.inl rfl) (pe_callTy call_tuple_of (by rfl) zT PyProof.Rows.boot_tuple (pa_cons
        (pe_lc (own := [("one", 5)]) (g := gName 5) (tt := tYes) rfl scLNone.nd (pi_range1 (by rfl) zR (pa_cons (pv 1) pa_nil)) (blkOk_by (N := nLN) (sc := defScope sLNone) (by decide +kernel))
          (fun _ _ _ _ _ => pg_name (i := 5) scLNone.nd rfl (.inl rfl)) (fun _ _ _ _ _ => pts_nil)
          (fun _ _ _ _ _ => pe_tup (pa_cons (pe_op op_sub (pe_callD DD hr (by decide) (by rfl) pass0 (pa_cons (pv 0) (pa_cons pe_int pa_nil))) pe_int) (pa_cons pe_int pa_nil)))) pa_nil)))
      (pss_one (ps_ret (pe_and (pe_cmp (pc_isN (pe_callD DE hr (by decide) (by rfl) passL (pa_cons (pv 2) (pa_cons (pv 3) (pa_cons (pv 4) pa_nil)))))) (pe_one (pe_cmpR op_eq (pe_ix (r := rIxT K) ix_tup (pe_callD DF hr (by decide) (by rfl) pass0 (pa_cons (pv 2) (pa_cons (pv 3) pa_nil))) pe_int (fun _ _ => rfl)) pe_str (nomark _)))))))))), ?_⟩
    -- long
    refine ⟨_, rfl, ha, ca, ns, 4, rfl, hh, by decide, by decide, fun H1 d1 k1 hh1 d10 d11 => ?_⟩
    refine ⟨_, _, rfl, rfl, ?_⟩
    obtain ⟨n, hn⟩ := Int.eq_ofNat_of_zero_le (show 0 ≤ 1 + d1 by omega)
    have hn4 : n ≤ 4 := by omega
    rw [show ((fun i j : Int => V.int (i + j)) 1 d1) = V.int (n : Int) from congrArg V.int hn]
    -- the first row
    refine ⟨_, rfl, (n : Int), rfl, by omega, by omega, fun D nD => lcH (walk_range (lo := 0) (n := (n : Int).toNat)) (fun i y Hh => ∃ q, Fr K Hh y q ∧ (0 ≤ q ∧ Bd 6 (q * 2))) (fun _ _ _ _ kp ⟨q, e1, e2⟩ => ⟨q, kp.fr e1, e2⟩) (fun _ _ _ _ kp ⟨q, e1, e2⟩ => ⟨q, kp.fr e1, e2⟩) hh1 nD (by omega) (fun _ _ => True.intro) ?_ ?_⟩
    · rintro j u H4 H5 Q' hj k4 hh4 ⟨rfl, rfl⟩ kk
      refine ⟨rfl, _, rfl, ha, ca, ns, 4, rfl, hh4, by decide, by decide, fun H6 t k6 hh6 t0 t1 => ⟨sz2, fun tt ntt => ?_⟩⟩
      have st := Same.upd (o := .tup [.int t, .int 1]) ntt
      exact kk _ _ (k6.trans (.of st)) (hh6.same st) ⟨(t : Rat), fr_int upd_same, by exact_mod_cast t0, (bd_int (b := 3) (by omega)).mono (by decide)⟩
    · rintro H4 ac4 k4 hh4 hD4 hl4 hr4
      rw [Int.toNat_natCast] at hl4
      obtain ⟨r0, hr0, hr0b⟩ := frs_of (P := fun q => 0 ≤ q ∧ Bd 6 (q * 2)) hl4 hr4
      refine ⟨D, ac4, rfl, .inl ⟨SqL.of hD4, fun l4 nl4 => ⟨(by decide : (1 : Nat) ≤ sizeLine), fun l5 nl5 => ?_⟩⟩⟩
      have s5 := Same.upd (o := .tup ac4) nl4
      have hl5 : (upd H4 l4 (.tup ac4)) l4 = some (.tup ac4) := upd_same
      generalize upd H4 l4 (.tup ac4) = H5 at s5 hl5 nl5
      have s6 := Same.upd (o := .tup [.ref l4]) nl5
      have hl6 : (upd H5 l5 (.tup [.ref l4])) l5 = some (.tup [.ref l4]) := upd_same
      generalize upd H5 l5 (.tup [.ref l4]) = H6 at s6 hl6
      have hh6 := hh4.same (s5.trans s6)
      have hr06 : FrA true K H6 (.ref l4) n r0 := ⟨l4, ac4, rfl, SqT.of (s6 _ _ hl5), (hr0.same s5).same s6⟩
      have kH6 : KpH ha H H6 := (k1.trans k4).trans (.of (s5.trans s6))
      -- the others
      refine ⟨_, rfl, _, rfl, _, rfl, _, rfl, ha, ca, ns, 3, rfl, hh6, by decide, by decide, fun H7 d7 k7 hh7 d70 d71 => ?_⟩
      obtain ⟨m, hm⟩ := Int.eq_ofNat_of_zero_le d70
      refine ⟨ha, ca, ns, n, m, (by show [V.ref ha, V.int (n : Int), V.int d7] = _; rw [hm]), hh7, hn4, by omega, fun H8 rv R k8 hh8 hR hRb => ?_⟩
      obtain ⟨ra, ls, rfl, hra, hll, hrow⟩ := id hR
      have k68 := k7.trans k8
      have hl8 : SqT K H8 l5 [.ref l4] := (k68.d hh6).sqT (SqT.of hl6)
      have hr08 : FrA true K H8 (.ref l4) n r0 := (k68.d hh6).frT hr06
      -- rows
      obtain ⟨R1, hR1⟩ : ∃ R1 : Nat → Nat → Rat, R1 = fun i => if i = 0 then r0 else R (i - 1) := ⟨_, rfl⟩
      have rows : ∀ (Hx : Hp) (a : Addr), Same H8 Hx → SqT K Hx a (V.ref l4 :: ls) → FrMT K Hx (.ref a) (m + 1) n R1 := fun Hx a sx hx => by
        refine ⟨a, _, rfl, hx, by rw [List.length_cons, hll], fun i u hu => ?_⟩
        match i with
        | 0 => cases hu; rw [hR1]; exact hr08.same sx
        | i + 1 => rw [hR1]; exact (hrow i u (by simpa using hu)).same sx
      have kH8 := kH6.trans k68
      have hm3 : m + 1 = 1 ∨ m + 1 = 2 ∨ m + 1 = 3 := by omega
      have b1 : ∀ i, i < m + 1 → ∀ j, j < n → Bd 6 (R1 i j * 2) := fun i hi j hj => by
        rw [hR1]
        by_cases e : i = 0
        · simp only [e, if_true]; exact (hr0b j hj).2
        · simp only [e, if_false]; exact hRb (i - 1) (by omega) j hj
      refine cat_key hl8 hra (by omega) _ fun la H9 s9 hla => ?_
      have hRR := rows H9 la s9 hla
      have hh9 := hh8.same s9
      have kH9 := kH8.trans (.of s9)
      -- the first number
      refine ⟨_, _, rfl, rfl, _, rfl, ha, ca, ns, 4, rfl, hh9, by decide, by decide, fun H10 t k10 hh10 t0 t1 => ?_⟩
      refine ⟨_, _, rfl, rfl, sz2, fun q1 nq1 => ⟨(by decide : (1 : Nat) ≤ sizeLine), fun q2 nq2 => ?_⟩⟩
      have u1 := Same.upd (o := .tup [.int (0 - 1 - t), .int 1]) nq1
      have e1 : Fr K (upd H10 q1 (.tup [.int (0 - 1 - t), .int 1])) (.ref q1) ((0 - 1 - t : Int) : Rat) := fr_int upd_same
      change tCB _ _ _ (upd (upd H10 q1 (.tup [.int (0 - 1 - t), .int 1])) q2 (.tup [.ref q1])) _
      have nq2' : (upd H10 q1 (.tup [.int (0 - 1 - t), .int 1])) q2 = none := nq2
      generalize upd H10 q1 (.tup [.int (0 - 1 - t), .int 1]) = H11 at u1 e1 nq2'
      have u2 := Same.upd (o := .tup [.ref q1]) nq2'
      have e2 : (upd H11 q2 (.tup [.ref q1])) q2 = some (.tup [.ref q1]) := upd_same
      generalize upd H11 q2 (.tup [.ref q1]) = H12 at u2 e2
      have hh12 := hh10.same (u1.trans u2)
      have k9_12 : KpH ha H9 H12 := k10.trans (.of (u1.trans u2))
      have hla12 : SqT K H12 la (V.ref l4 :: ls) := Same.sqT (u1.trans u2) ((k10.d hh9).sqT hla)
      -- the further ones
      refine ⟨_, rfl, 1, rfl, la, _, rfl, hla12, (by
        intro z
        have := z.1
        have e := HT.sIx_nat (V.ref l4 :: ls).length 0 1
        rw [show ((1 : Nat) : Int) = 1 from rfl] at e
        rw [e, List.length_cons] at this
        omega), fun sl nsl => ?_⟩
      rw [cutV_tail]
      have u3 := Same.upd (o := .tup ls) nsl
      have e3 : (upd H12 sl (.tup ls)) sl = some (.tup ls) := upd_same
      generalize upd H12 sl (.tup ls) = H13 at u3 e3
      have hh13 := hh12.same u3
      refine ⟨sl, rfl, ⟨_, SqT.of e3⟩, fun D14 nD14 => lcH (walk_tup (K := K) (a := sl) (xs := ls)) (fun i y Hh => ∃ q, Fr K Hh y q ∧ Bd 6 (q * 2)) (fun _ _ _ _ kp ⟨q, e1, e2⟩ => ⟨q, kp.fr e1, e2⟩) (fun _ _ _ _ kp ⟨q, e1, e2⟩ => ⟨q, kp.fr e1, e2⟩) hh13 nD14 (by omega) (fun Hx kx => (KpH.d kx hh13).sqT (SqT.of e3)) ?_ ?_⟩
      · rintro j u H14 H15 Q' hj k14 hh14 ⟨rfl, _⟩ kk
        refine ⟨rfl, _, rfl, ha, ca, ns, 5, rfl, hh14, by decide, by decide, fun H16 t' k16 hh16 t0' t1' => ?_⟩
        refine ⟨_, _, rfl, rfl, sz2, fun tt ntt => ?_⟩
        have st := Same.upd (o := .tup [.int (t' - 2), .int 1]) ntt
        exact kk _ _ (k16.trans (.of st)) (hh16.same st) ⟨((t' - 2 : Int) : Rat), fr_int upd_same, (bd_int (b := 3) (by omega)).mono (by decide)⟩
      · rintro H14 ac14 k14 hh14 hD14 hl14 hr14
        obtain ⟨g1, hg1, hg1b⟩ := frs_of (P := fun q => Bd 6 (q * 2)) hl14 hr14
        refine ⟨D14, ac14, rfl, .inl ⟨SqL.of hD14, fun l15 nl15 => ?_⟩⟩
        have u4 := Same.upd (o := .tup ac14) nl15
        have e4 : (upd H14 l15 (.tup ac14)) l15 = some (.tup ac14) := upd_same
        generalize upd H14 l15 (.tup ac14) = H15 at u4 e4
        have k12_15 : KpH ha H12 H15 := (KpH.of u3).trans (k14.trans (.of u4))
        have hq2 : SqT K H15 q2 [.ref q1] := (k12_15.d hh12).sqT (SqT.of e2)
        refine cat_key hq2 (SqT.of e4) (by omega) _ fun ga H16 s16 hga => ?_
        have hh16 := (hh14.same u4).same s16
        have k12_16 := k12_15.trans (.of s16)
        obtain ⟨g, hgd⟩ : ∃ g : Nat → Rat, g = fun i => if i = 0 then ((0 - 1 - t : Int) : Rat) else g1 (i - 1) := ⟨_, rfl⟩
        have hG : FrA true K H16 (.ref ga) (m + 1) g := by
          refine ⟨ga, _, rfl, hga, by rw [List.length_cons, hg1.1, hll], fun i u hu => ?_⟩
          match i with
          | 0 => cases hu; rw [hgd]; exact (k12_16.d hh12).fr (e1.same u2)
          | i + 1 => rw [hgd]; exact ((hg1.2 i u (by simpa using hu)).same u4).same s16
        have g0neg : g 0 < 0 := by
          rw [hgd]
          show ((0 - 1 - t : Int) : Rat) < 0
          exact_mod_cast (show (0 - 1 - t : Int) < 0 by omega)
        have S : Sml (m + 1) n R1 g := ⟨hm3, hn4, fun i hi j hj => bd_24 (b1 i hi j hj), fun i hi => by
          rw [hgd]
          by_cases e : i = 0
          · simp only [e, if_true]
            have := bd_int (d := 0 - 1 - t) (b := 4) (by omega)
            have h4 := this.mul (⟨2, rfl, by decide⟩ : Bd 2 (2 : Rat))
            rw [show ((0 - 1 - t : Int) : Rat) * 2 * 2 = ((0 - 1 - t : Int) : Rat) * 4 by grind] at h4
            exact h4.mono (by decide)
          · simp only [e, if_false]
            exact bd_24 (hg1b (i - 1) (by omega))⟩
        have nofe : ∀ x, ¬ Fe (m + 1) n R1 g x := fun x hx => by
          have h1 := hx.2 0 (by omega)
          have h2 : 0 ≤ sm n (fun j => R1 0 j * x j) := sm_nonneg n fun j hj => mul_nn (by rw [hR1]; exact (hr0b j hj).1) (hx.1 j hj)
          grind
        have hR16 : FrMT K H16 (.ref la) (m + 1) n R1 := (k12_16.d hh12).frMT (((k10.d hh9).frMT hRR).same (u1.trans u2))
        have kH16 := (kH9.trans k9_12).trans k12_16
        -- costs
        refine ⟨_, rfl, (n : Int), rfl, by omega, by omega, fun D17 nD17 => lcH (walk_range (lo := 0) (n := (n : Int).toNat)) (fun i y Hh => ∃ q, Fr K Hh y q ∧ Sm 10 q) (fun _ _ _ _ kp ⟨q, e1, e2⟩ => ⟨q, kp.fr e1, e2⟩) (fun _ _ _ _ kp ⟨q, e1, e2⟩ => ⟨q, kp.fr e1, e2⟩) hh16 nD17 (by omega) (fun _ _ => True.intro) ?_ ?_⟩
        · rintro j u H18 H19 Q' hj k18 hh18 ⟨rfl, rfl⟩ kk
          refine ⟨rfl, _, rfl, ha, ca, ns, 9, rfl, hh18, by decide, by decide, fun H20 t' k20 hh20 t0' t1' => ?_⟩
          refine ⟨_, _, rfl, rfl, sz2, fun tt ntt => ?_⟩
          have st := Same.upd (o := .tup [.int (t' - 4), .int 1]) ntt
          exact kk _ _ (k20.trans (.of st)) (hh20.same st) ⟨((t' - 4 : Int) : Rat), fr_int upd_same, sm_int (by omega)⟩
        · rintro H18 ac18 k18 hh18 hD18 hl18 hr18
          rw [Int.toNat_natCast] at hl18
          obtain ⟨c, hc, hcb⟩ := frs_of (P := fun q => Sm 10 q) hl18 hr18
          refine ⟨D17, ac18, rfl, .inl ⟨SqL.of hD18, fun l19 nl19 => ?_⟩⟩
          have u5 := Same.upd (o := .tup ac18) nl19
          have e5 : (upd H18 l19 (.tup ac18)) l19 = some (.tup ac18) := upd_same
          generalize upd H18 l19 (.tup ac18) = H19 at u5 e5
          have I19 : Inp K H19 (.ref la) (.ref ga) (m + 1) n R1 g := ⟨((k18.d hh16).frMT hR16).same u5, ((k18.d hh16).frT hG).same u5, S⟩
          refine ⟨_, rfl, _, rfl, _, rfl, _, _, _, m + 1, n, R1, g, c, rfl, I19, ⟨l19, ac18, rfl, SqT.of e5, hc.same u5⟩, fun j hj => (hcb j hj).mono (by decide), fun Ha sa _ => ?_, fun Ha ta wv xv yv x1 y1 sa hta fw fx fy Fx1 du vy sx sy => (nofe _ Fx1).elim, fun Ha d sa _ hfe _ => (nofe _ hfe.choose_spec).elim⟩
          refine ⟨_, rfl, iteT ?_⟩
          refine ⟨_, rfl, _, rfl, _, _, m + 1, n, R1, g, rfl, I19.same sa, fun Hb tb yb sb hb _ => ?_, fun Hb tb yb sb hb hfe => (nofe _ hfe.choose_spec).elim⟩
          refine ⟨tb, _, _, _, rfl, rfl, SqT.of hb, at0, rfl, ?_⟩
          exact k Hb ((kH16.trans k18).trans (.of ((u5.trans sa).trans sb))) ((hh18.same u5).same (sa.trans sb))
end
end K1
set_option Elab.async false
set_option linter.all false
set_option maxRecDepth 100000
set_option maxHeartbeats 8000000
namespace K1
open PySem L2 Kz Sx
abbrev sLEnd : Stmt := top 33
theorem frs3 {K : PySem.W.Frag} {H : Hp} {x z : V} {ws : List V} {k : Nat} {d : Nat → Rat} {a b : Rat} (hx : Fr K H x a) (hw : FrS K H ws k d) (hz : Fr K H z b) : FrS K H (x :: ws ++ [z]) (k + 2) (fun j => if j = 0 then a else if j < k + 1 then d (j - 1) else b) := by
  refine ⟨by rw [List.length_append, List.length_cons, hw.1]; rfl, fun j v hj => ?_⟩
  match j with
  | 0 => cases hj; exact hx
  | j + 1 =>
    have hj : (ws ++ [z])[j]? = some v := by simpa using hj
    simp only [Nat.succ_ne_zero, if_false]
    by_cases hl : j < ws.length
    · rw [List.getElem?_append_left hl] at hj
      rw [if_pos (by have := hw.1; omega)]
      exact hw.2 j v hj
    · rw [List.getElem?_append_right (by omega)] at hj
      have h0 : j - ws.length = 0 := by
        by_cases e : j - ws.length = 0
        · exact e
        · rw [List.getElem?_eq_none (by simp; omega)] at hj
          cases hj
      rw [h0] at hj
      have : z = v := by simpa using hj
      subst this
      rw [if_neg (by have := hw.1; omega)]
      exact hz
theorem fr_neg {K : PySem.W.Frag} {H : Hp} {a : Addr} {q : Rat} (h : H a = some (.tup [.int (0 - q.num), .int (q.den : Int)])) : Fr K H (.ref a) (-q) := by
  refine ⟨a, rfl, SqT.of ?_⟩
  rw [h]
  have e1 : (-q).num = 0 - q.num := by
    have : (-q).num = -q.num := rfl
    omega
  have e2 : (-q).den = q.den := rfl
  rw [e1, e2]
/-- the rows with the first column turned at the end -/
def Rt (n0 : Nat) (R : Nat → Nat → Rat) : Nat → Nat → Rat := fun i j => if j < n0 then R i j else -R i 0
section
variable {P : Program} {w : World} {K : PySem.W.Frag} {mg : Str → Option Value} {base : Heap}
abbrev nLE : List Str := ["hand", "long", "many", "rows", "known", "numbers", "costs", "cost", "last", "row", "one"]
theorem scLEnd : FnScope nLE ["hand"] (defScope sLEnd) := ⟨rfl, rfl, rfl, by decide +kernel, rfl, by decide +kernel, by decide +kernel⟩
theorem ok_lend {f : Addr} {fd : FuncData} (F : Fun K "_law_endless_right" "_law_endless_right" sLEnd f fd) (DD : Df P w K mg base CX0 1 "_law_draw" ["hand", "below"] spDraw) (DR : Df P w K mg base CX0 3 "_law_rows" ["hand", "long", "many"] (spRows K))
    (DS : Df P w K mg base CX0 3 "_law_scalar" ["one", "other"] (spLScal K)) (DQ : Df P w K mg base CX0 7 "_law_said" ["rows", "numbers", "costs"] (spSaid K)) (zR : mg "range" = none) (zT : mg "tuple" = none) : FnOk P w K mg base CX0 8 f fd ["hand"] spPart := by
  refine F.ok scLEnd (fun vs H Q E h => ?_) (fun cdv A outer s H vs Q E hr h => ?_)
  · obtain ⟨ha, ca, ns, rfl, _⟩ := h
    rfl
  · obtain ⟨ha, ca, ns, rfl, hh, k⟩ := h
    refine ⟨_, pss_cons (ps_par (i := 1) (j := 2) rfl scLEnd.nd rfl rfl (by decide) rfl rfl (pa_cons (pe_op op_add pe_int (pe_callD DD hr (by decide) (by rfl) pass0 (pa_cons (pv 0) (pa_cons pe_int pa_nil)))) (pa_cons (pe_op op_add pe_int (pe_callD DD hr (by decide) (by rfl) pass0 (pa_cons (pv 0) (pa_cons pe_int pa_nil)))) pa_nil)) rfl)
      (pss_cons (ps_set (i := 3) scLEnd.nd rfl (.inl rfl) (pe_callD DR hr (by decide) (by rfl) pass0 (pa_cons (pv 0) (pa_cons (pv 1) (pa_cons (pv 2) pa_nil)))))
      (pss_cons (ps_set (i := 3) scLEnd.nd rfl (.inl rfl) (pe_callTy call_tuple_of (by rfl) zT PyProof.Rows.boot_tuple (pa_cons
        (pe_lc (own := [("row", 9)]) (g := gName 9) (tt := tYes) rfl scLEnd.nd (pi_tup (pv 3)) (blkOk_by (N := nLE) (sc := defScope sLEnd) (by decide +kernel))
          (fun _ _ _ _ _ => pg_name (i := 9) scLEnd.nd rfl (.inl rfl)) (fun _ _ _ _ _ => pts_nil)
          (fun _ _ _ _ _ => pe_op (r := rCatT K) op_catT (pv 9) (pe_tup (pa_cons (pe_tup (pa_cons (pe_op op_sub pe_int (pe_ix (r := rIxT K) ix_tup (pe_ix (r := rIxT K) ix_tup (pv 9) pe_int (fun _ _ => rfl)) pe_int (fun _ _ => rfl))) (pa_cons (pe_ix (r := rIxT K) ix_tup (pe_ix (r := rIxT K) ix_tup (pv 9) pe_int (fun _ _ => rfl)) pe_int (fun _ _ => rfl)) pa_nil))) pa_nil)))) pa_nil)))
      (pss_cons (ps_set (i := 4) scLEnd.nd rfl (.inr rfl) (pe_callTy call_tuple_of (by rfl) zT PyProof.Rows.boot_tuple (pa_cons
        (pe_lc (own := [("one", 10)]) (g := gName 10) (tt := tYes) rfl scLEnd.nd (pi_range1 (by rfl) zR (pa_cons (pe_op op_add (pv 1) pe_int) pa_nil)) (blkOk_by (N := nLE) (sc := defScope sLEnd) (by decide +kernel))
          (fun _ _ _ _ _ => pg_name (i := 10) scLEnd.nd rfl (.inl rfl)) (fun _ _ _ _ _ => pts_nil)
          (fun _ _ _ _ _ => pe_tup (pa_cons (pe_callD DD hr (by decide) (by rfl) pass0 (pa_cons (pv 0) (pa_cons pe_int pa_nil))) (pa_cons pe_int pa_nil)))) pa_nil)))
      (pss_cons (ps_set (i := 5) scLEnd.nd rfl (.inl rfl) (pe_callTy call_tuple_of (by rfl) zT PyProof.Rows.boot_tuple (pa_cons
        (pe_lc (own := [("row", 9)]) (g := gName 9) (tt := tYes) rfl scLEnd.nd (pi_tup (pv 3)) (blkOk_by (N := nLE) (sc := defScope sLEnd) (by decide +kernel))
          (fun _ _ _ _ _ => pg_name (i := 9) scLEnd.nd rfl (.inl rfl)) (fun _ _ _ _ _ => pts_nil)
          (fun _ _ _ _ _ => pe_callD DS hr (by decide) (by rfl) pass0 (pa_cons (pv 9) (pa_cons (pv 4) pa_nil)))) pa_nil)))
      (pss_cons (ps_set (i := 6) scLEnd.nd rfl (.inl rfl) (pe_callTy call_tuple_of (by rfl) zT PyProof.Rows.boot_tuple (pa_cons
        (pe_lc (own := [("one", 10)]) (g := gName 10) (tt := tYes) rfl scLEnd.nd (pi_range1 (by rfl) zR (pa_cons (pe_op op_sub (pv 1) pe_int) pa_nil)) (blkOk_by (N := nLE) (sc := defScope sLEnd) (by decide +kernel))
          (fun _ _ _ _ _ => pg_name (i := 10) scLEnd.nd rfl (.inl rfl)) (fun _ _ _ _ _ => pts_nil)
          (fun _ _ _ _ _ => pe_tup (pa_cons (pe_callD DD hr (by decide) (by rfl) pass0 (pa_cons (pv 0) (pa_cons pe_int pa_nil))) (pa_cons pe_int pa_nil)))) pa_nil)))
      (pss_cons (ps_par (i := 7) (j := 8) rfl scLEnd.nd rfl rfl (by decide) rfl rfl (pa_cons (pe_callD DD hr (by decide) (by rfl) pass0 (pa_cons (pv 0) (pa_cons pe_int pa_nil))) (pa_cons (pe_callD DD hr (by decide) (by rfl) pass0 (pa_cons (pv 0) (pa_cons pe_int pa_nil))) pa_nil)) rfl)
      (pss_cons (ps_if (pt_cmpR op_ne (pe_callD DQ hr (by decide) (by rfl) pass0 (pa_cons (pv 3) (pa_cons (pv 5) (pa_cons (pe_op op_catT (pe_op op_catT (pe_tup (pa_cons (pe_tup (pa_cons (pv 7) (pa_cons pe_int pa_nil))) pa_nil)) (pv 6)) (pe_tup (pa_cons (pe_tup (pa_cons (pv 8) (pa_cons pe_int pa_nil))) pa_nil))) pa_nil)))) pe_str (nomark _)) pss_never pss_nil)
      (pss_cons (ps_set (i := 7) scLEnd.nd rfl (.inl rfl) (pe_op op_sub (pe_callD DD hr (by decide) (by rfl) pass0 (pa_cons (pv 0) (pa_cons pe_int pa_nil))) pe_int))
      (pss_one (ps_ret (pe_cmpR op_eq (pe_callD DQ hr (by decide) (by rfl) pass0 (pa_cons (pv 3) (pa_cons (pv 5) (pa_cons (pe_op op_catT (pe_op op_catT (pe_tup (pa_cons (pe_tup (pa_cons (pv 7) (pa_cons pe_int pa_nil))) pa_nil)) (pv 6)) (pe_tup (pa_cons (pe_tup (pa_cons (pe_op op_sub (pe_op op_sub (pe_op op_sub pe_int pe_int) (pv 8)) (pv 7)) (pa_cons pe_int pa_nil))) pa_nil))) pa_nil)))) pe_str (nomark _)))))))))))), ?_⟩
    refine ⟨_, rfl, ha, ca, ns, 3, rfl, hh, by decide, by decide, fun H1 d1 k1 hh1 d10 d11 => ?_⟩
    refine ⟨_, _, rfl, rfl, _, rfl, ha, ca, ns, 2, rfl, hh1, by decide, by decide, fun H2 d2 k2 hh2 d20 d21 => ?_⟩
    refine ⟨_, _, rfl, rfl, _, _, rfl, ?_⟩
    obtain ⟨n, hn⟩ := Int.eq_ofNat_of_zero_le d10
    obtain ⟨m, hm⟩ := Int.eq_ofNat_of_zero_le (show 0 ≤ 1 + d2 by omega)
    have hm3 : m = 1 ∨ m = 2 ∨ m = 3 := by omega
    have hn1 : (1 + d1 : Int) = ((n + 1 : Nat) : Int) := by omega
    have hn2 : n ≤ 2 := by omega
    rw [show ((fun i j : Int => V.int (i + j)) 1 d1) = V.int ((n + 1 : Nat) : Int) from congrArg V.int hn1, show ((fun i j : Int => V.int (i + j)) 1 d2) = V.int (m : Int) from congrArg V.int hm]
    refine ⟨_, rfl, _, rfl, _, rfl, ha, ca, ns, n + 1, m, rfl, hh2, by omega, by omega, fun H3 rv R k3 hh3 hR hRb => ?_⟩
    obtain ⟨ra, ls, rfl, hra, hll, hrow⟩ := id hR
    -- the rows made longer
    refine ⟨_, rfl, ra, rfl, ⟨_, hra⟩, fun D4 nD4 => lcR (walk_tup (K := K) (a := ra) (xs := ls)) (fun i y Hh => FrA true K Hh y (n + 2) (Rt (n + 1) R i)) (fun i y Ha Hb kp e => kp.frT e) nD4 (by omega) (fun H4 s4 => Same.sqT s4 hra) ?_ ?_⟩
    · rintro i u H4 H5 Q' hi s4 _ ⟨rfl, hu⟩ kk
      obtain ⟨wa, ws, rfl, hw, fw⟩ := (hrow i u hu).same s4
      obtain ⟨v0, ev0, ⟨a0, rfl, ha0⟩⟩ := fw.at (j := 0) (by omega)
      refine ⟨rfl, _, rfl, _, rfl, wa, ws, _, _, rfl, rfl, hw, atI_nat (j := 0) ev0, a0, _, _, _, rfl, rfl, ha0, at0, _, _, rfl, rfl, ?_⟩
      refine ⟨_, rfl, wa, ws, _, _, rfl, rfl, hw, atI_nat (j := 0) ev0, a0, _, _, _, rfl, rfl, ha0, at1, sz2, fun q1 nq1 => ⟨(by decide : (1 : Nat) ≤ sizeLine), fun q2 nq2 => ?_⟩⟩
      have u1 := Same.upd (o := .tup [.int (0 - (R i 0).num), .int ((R i 0).den : Int)]) nq1
      have e1 : Fr K (upd H5 q1 (.tup [.int (0 - (R i 0).num), .int ((R i 0).den : Int)])) (.ref q1) (-R i 0) := fr_neg upd_same
      change rCatT _ _ _ (upd (upd H5 q1 (.tup [.int (0 - (R i 0).num), .int ((R i 0).den : Int)])) q2 (.tup [.ref q1])) _
      have nq2' : (upd H5 q1 (.tup [.int (0 - (R i 0).num), .int ((R i 0).den : Int)])) q2 = none := nq2
      generalize upd H5 q1 (.tup [.int (0 - (R i 0).num), .int ((R i 0).den : Int)]) = H6 at u1 e1 nq2'
      have u2 := Same.upd (o := .tup [.ref q1]) nq2'
      have e2 : (upd H6 q2 (.tup [.ref q1])) q2 = some (.tup [.ref q1]) := upd_same
      generalize upd H6 q2 (.tup [.ref q1]) = H7 at u2 e2
      have u12 := u1.trans u2
      refine ⟨wa, q2, ws, [.ref q1], rfl, rfl, Same.sqT u12 hw, SqT.of e2, (fun z => by subst z; cases ev0), Nat.le_of_lt (small1000 (by rw [fw.1]; show n + 1 + 1 ≤ 1000; omega)), (fun z => by cases z), fun _ p np => ?_⟩
      have u3 := Same.upd (o := .tup (ws ++ [.ref q1])) np
      refine kk _ _ (u12.trans u3) ⟨p, _, rfl, SqT.of upd_same, ?_⟩
      refine FrS.snoc (k := n + 1) (((fw.same u12).same u3).ext fun j hj => ?_) ?_
      · show R i j = if j < n + 1 then R i j else _
        rw [if_pos hj]
      · show Fr K _ _ (if n + 1 < n + 1 then _ else -R i 0)
        rw [if_neg (by omega)]
        exact (e1.same u2).same u3
    · rintro H4 ac4 s4 hD4 hl4 hr4
      refine ⟨D4, ac4, rfl, .inl ⟨SqL.of hD4, fun l5 nl5 => ?_⟩⟩
      have s5 := Same.upd (o := .tup ac4) nl5
      have e5 : (upd H4 l5 (.tup ac4)) l5 = some (.tup ac4) := upd_same
      generalize upd H4 l5 (.tup ac4) = H5 at s5 e5
      have hh5 := (hh3.same s4).same s5
      have hR5 : FrMT K H5 (.ref l5) m (n + 2) (Rt (n + 1) R) := ⟨l5, ac4, rfl, SqT.of e5, by rw [hl4, hll], fun i u hu => (hr4 i u hu).same s5⟩
      have kH5 : KpH ha H H5 := ((k1.trans k2).trans k3).trans (.of (s4.trans s5))
      have bR : ∀ i, i < m → ∀ j, j < n + 2 → Bd 6 (Rt (n + 1) R i j * 2) := fun i hi j hj => by
        unfold Rt
        by_cases e : j < n + 1
        · rw [if_pos e]; exact hRb i hi j e
        · rw [if_neg e]
          obtain ⟨z, e1, e2⟩ := hRb i hi 0 (by omega)
          exact ⟨-z, by rw [Rat.intCast_neg, ← e1]; grind, by omega⟩
      -- known
      refine ⟨_, rfl, _, _, rfl, rfl, ((n + 1 : Nat) : Int) + 1, rfl, by omega, by omega, fun D6 nD6 => lcH (walk_range (lo := 0) (n := (((n + 1 : Nat) : Int) + 1).toNat)) (fun i y Hh => ∃ q, Fr K Hh y q ∧ (0 ≤ q ∧ Bd 6 (q * 2))) (fun _ _ _ _ kp ⟨q, e1, e2⟩ => ⟨q, kp.fr e1, e2⟩) (fun _ _ _ _ kp ⟨q, e1, e2⟩ => ⟨q, kp.fr e1, e2⟩) hh5 nD6 (by omega) (fun _ _ => True.intro) ?_ ?_⟩
      · rintro j u H6 H7 Q' hj k6 hh6 ⟨rfl, rfl⟩ kk
        refine ⟨rfl, _, rfl, ha, ca, ns, 4, rfl, hh6, by decide, by decide, fun H8 t k8 hh8 t0 t1 => ⟨sz2, fun tt ntt => ?_⟩⟩
        have st := Same.upd (o := .tup [.int t, .int 1]) ntt
        exact kk _ _ (k8.trans (.of st)) (hh8.same st) ⟨(t : Rat), fr_int upd_same, by exact_mod_cast t0, (bd_int (b := 3) (by omega)).mono (by decide)⟩
      · rintro H6 ac6 k6 hh6 hD6 hl6 hr6
        have hl6 : ac6.length = n + 2 := by rw [hl6]; omega
        obtain ⟨x, hx, hxb⟩ := frs_of (P := fun q => 0 ≤ q ∧ Bd 6 (q * 2)) hl6 hr6
        refine ⟨D6, ac6, rfl, .inl ⟨SqL.of hD6, fun l7 nl7 => ?_⟩⟩
        have s7 := Same.upd (o := .tup ac6) nl7
        have e7 : (upd H6 l7 (.tup ac6)) l7 = some (.tup ac6) := upd_same
        generalize upd H6 l7 (.tup ac6) = H7 at s7 e7
        have hh7 := hh6.same s7
        have hR7 : FrMT K H7 (.ref l5) m (n + 2) (Rt (n + 1) R) := ((k6.d hh5).frMT hR5).same s7
        have hX7 : FrA true K H7 (.ref l7) (n + 2) x := ⟨l7, ac6, rfl, SqT.of e7, hx.same s7⟩
        have kH7 := (kH5.trans k6).trans (.of s7)
        obtain ⟨l5', ls7, ee, hl5s, hll7, hrow7⟩ := id hR7
        obtain rfl := V.ref.inj ee
        obtain ⟨g, hg⟩ : ∃ g : Nat → Rat, g = fun i => sm (n + 2) (fun j => Rt (n + 1) R i j * x j) := ⟨_, rfl⟩
        have Fx : Fe m (n + 2) (Rt (n + 1) R) g x := ⟨fun j hj => (hxb j hj).1, fun k hk => by rw [hg]⟩
        have S : Sml m (n + 2) (Rt (n + 1) R) g := ⟨hm3, by omega, fun i hi j hj => bd_24 (bR i hi j hj), fun i hi => by rw [hg]; exact (bd_num (by omega) (bR i hi) fun j hj => (hxb j hj).2).mono (by decide)⟩
        refine ⟨_, rfl, l5, rfl, ⟨_, hl5s⟩, fun D8 nD8 => lcF (K := K) (walk_tup (K := K) (a := l5) (xs := ls7)) g nD8 (by omega) (fun H8 s8 => Same.sqT s8 hl5s) ?_ ?_⟩
        · rintro i u H8 H9 Q' hi s8 ⟨rfl, hu⟩ kk
          rw [hll7] at hi
          refine ⟨rfl, _, rfl, _, rfl, u, _, n + 2, Rt (n + 1) R i, x, true, true, 100, 100, rfl, (hrow7 i u hu).same s8, hX7.same s8, by omega, fun j hj => bd_sm (bd_24 (bR i hi j hj)), fun j hj => bd_sm (bd_24 (hxb j hj).2), by decide, by decide, by decide, fun H10 r s10 fr => kk _ _ s10 ?_⟩
          rw [hg]
          exact fr
        · rintro H8 ac8 s8 hD8 hf8
          rw [hll7] at hf8
          refine ⟨D8, ac8, rfl, .inl ⟨SqL.of hD8, fun l9 nl9 => ?_⟩⟩
          have s9 := Same.upd (o := .tup ac8) nl9
          have e9 : (upd H8 l9 (.tup ac8)) l9 = some (.tup ac8) := upd_same
          generalize upd H8 l9 (.tup ac8) = H9 at s9 e9
          have s79 := s8.trans s9
          have hh9 := hh7.same s79
          have I9 : Inp K H9 (.ref l5) (.ref l9) m (n + 2) (Rt (n + 1) R) g := ⟨hR7.same s79, ⟨l9, ac8, rfl, SqT.of e9, hf8.same s9⟩, S⟩
          have kH9 := kH7.trans (.of s79)
          -- costs
          refine ⟨_, rfl, _, _, rfl, rfl, ((n + 1 : Nat) : Int) - 1, rfl, by omega, by omega, fun D10 nD10 => lcH (walk_range (lo := 0) (n := (((n + 1 : Nat) : Int) - 1).toNat)) (fun i y Hh => ∃ q, Fr K Hh y q ∧ (0 ≤ q ∧ Sm 10 q)) (fun _ _ _ _ kp ⟨q, e1, e2⟩ => ⟨q, kp.fr e1, e2⟩) (fun _ _ _ _ kp ⟨q, e1, e2⟩ => ⟨q, kp.fr e1, e2⟩) hh9 nD10 (by omega) (fun _ _ => True.intro) ?_ ?_⟩
          · rintro j u H10 H11 Q' hj k10 hh10 ⟨rfl, rfl⟩ kk
            refine ⟨rfl, _, rfl, ha, ca, ns, 6, rfl, hh10, by decide, by decide, fun H12 t k12 hh12 t0 t1 => ⟨sz2, fun tt ntt => ?_⟩⟩
            have st := Same.upd (o := .tup [.int t, .int 1]) ntt
            exact kk _ _ (k12.trans (.of st)) (hh12.same st) ⟨(t : Rat), fr_int upd_same, by exact_mod_cast t0, sm_int (by omega)⟩
          · rintro H10 ac10 k10 hh10 hD10 hl10 hr10
            have hl10 : ac10.length = n := by rw [hl10]; omega
            obtain ⟨d, hd, hdb⟩ := frs_of (P := fun q => 0 ≤ q ∧ Sm 10 q) hl10 hr10
            refine ⟨D10, ac10, rfl, .inl ⟨SqL.of hD10, fun l11 nl11 => ?_⟩⟩
            have s11 := Same.upd (o := .tup ac10) nl11
            have e11 : (upd H10 l11 (.tup ac10)) l11 = some (.tup ac10) := upd_same
            generalize upd H10 l11 (.tup ac10) = H11 at s11 e11
            have hh11 := hh10.same s11
            have I11 : Inp K H11 (.ref l5) (.ref l9) m (n + 2) (Rt (n + 1) R) g := ⟨((k10.d hh9).frMT I9.rows).same s11, ((k10.d hh9).frT I9.nums).same s11, S⟩
            have kH11 := (kH9.trans k10).trans (.of s11)
            have hd11 : FrS K H11 ac10 n d := hd.same s11
            -- cost, last
            refine ⟨_, rfl, ha, ca, ns, 4, rfl, hh11, by decide, by decide, fun H12 cost k12 hh12 c0 c1' => ?_⟩
            refine ⟨_, rfl, ha, ca, ns, 4, rfl, hh12, by decide, by decide, fun H13 last k13 hh13 l0 l1 => ?_⟩
            refine ⟨_, _, rfl, ?_⟩
            have k1113 := k12.trans k13
            have I13 : Inp K H13 (.ref l5) (.ref l9) m (n + 2) (Rt (n + 1) R) g := ⟨(KpH.d k1113 hh11).frMT I11.rows, (KpH.d k1113 hh11).frT I11.nums, S⟩
            have hc13 : SqT K H13 l11 ac10 := (KpH.d k1113 hh11).sqT (SqT.of e11)
            have hd13 : FrS K H13 ac10 n d := (KpH.d k1113 hh11).frS hd11
            have kH13 := kH11.trans k1113
            refine ⟨_, rfl, _, rfl, _, rfl, sz2, fun q1 nq1 => ⟨(by decide : (1 : Nat) ≤ sizeLine), fun q2 nq2 => ?_⟩⟩
            have u1 := Same.upd (o := .tup [.int cost, .int 1]) nq1
            have e1 : Fr K (upd H13 q1 (.tup [.int cost, .int 1])) (.ref q1) (cost : Rat) := fr_int upd_same
            generalize upd H13 q1 (.tup [.int cost, .int 1]) = H14 at u1 e1 nq2
            have u2 := Same.upd (o := .tup [.ref q1]) nq2
            have e2 : (upd H14 q2 (.tup [.ref q1])) q2 = some (.tup [.ref q1]) := upd_same
            generalize upd H14 q2 (.tup [.ref q1]) = H15 at u2 e2
            have u12 := u1.trans u2
            refine ⟨_, rfl, cat_key (SqT.of e2) (Same.sqT u12 hc13) (by omega) _ fun c1 H16 u3 hc1 => ?_⟩
            refine ⟨_, rfl, sz2, fun q3 nq3 => ⟨(by decide : (1 : Nat) ≤ sizeLine), fun q4 nq4 => ?_⟩⟩
            have u4 := Same.upd (o := .tup [.int last, .int 1]) nq3
            have e4 : Fr K (upd H16 q3 (.tup [.int last, .int 1])) (.ref q3) (last : Rat) := fr_int upd_same
            generalize upd H16 q3 (.tup [.int last, .int 1]) = H17 at u4 e4 nq4
            have u5 := Same.upd (o := .tup [.ref q3]) nq4
            have e5' : (upd H17 q4 (.tup [.ref q3])) q4 = some (.tup [.ref q3]) := upd_same
            generalize upd H17 q4 (.tup [.ref q3]) = H18 at u5 e5'
            have u45 := u4.trans u5
            refine ⟨c1, q4, _, _, rfl, rfl, Same.sqT u45 hc1, SqT.of e5', (by simp), Nat.le_of_lt (small1000 (by rw [List.length_cons, hl10]; show n + 1 + 1 ≤ 1000; omega)), (fun z => by cases z), fun _ p np => ?_⟩
            have u6 := Same.upd (o := .tup (V.ref q1 :: ac10 ++ [.ref q3])) np
            have hp6 : (upd H18 p (.tup (V.ref q1 :: ac10 ++ [.ref q3]))) p = some (.tup (V.ref q1 :: ac10 ++ [.ref q3])) := upd_same
            have u36 := u3.trans (u45.trans u6)
            have u16 := u12.trans u36
            have hcF := frs3 ((e1.same u2).same u36) (hd13.same u16) ((e4.same u5).same u6)
            generalize hca : (fun j => if j = 0 then (cost : Rat) else if j < n + 1 then d (j - 1) else (last : Rat)) = ca1 at hcF
            have ca1nn : ∀ j, j < n + 2 → 0 ≤ ca1 j := fun j hj => by
              rw [← hca]
              by_cases e : j = 0
              · simp only [e, if_true]; exact_mod_cast c0
              · simp only [e, if_false]
                by_cases e' : j < n + 1
                · simp only [e', if_true]; exact (hdb (j - 1) (by omega)).1
                · simp only [e', if_false]; exact_mod_cast l0
            have ca1sz : ∀ j, j < n + 2 → Sm 100 (ca1 j) := fun j hj => by
              rw [← hca]
              by_cases e : j = 0
              · simp only [e, if_true]; exact (sm_int (by omega)).mono (by decide)
              · simp only [e, if_false]
                by_cases e' : j < n + 1
                · simp only [e', if_true]; exact (hdb (j - 1) (by omega)).2.mono (by decide)
                · simp only [e', if_false]; exact (sm_int (by omega)).mono (by decide)
            refine ⟨_, _, _, m, n + 2, Rt (n + 1) R, g, ca1, rfl, I13.same u16, ⟨p, _, rfl, SqT.of hp6, hcF⟩, ca1sz, ⟨x, Fx⟩, fun H19 s19 _ => ?_, fun H19 s19 nodu => (nodu _ (du0 ca1nn)).elim⟩
            refine ⟨rfl, _, rfl, iteF ?_⟩
            have u19 := u16.trans s19
            have hh19 := hh13.same u19
            -- the other costs
            refine ⟨_, rfl, ha, ca, ns, 9, rfl, hh19, by decide, by decide, fun H20 e20 k20 hh20 e20a e20b => ?_⟩
            refine ⟨_, _, rfl, rfl, ?_⟩
            have I20 : Inp K H20 (.ref l5) (.ref l9) m (n + 2) (Rt (n + 1) R) g := ⟨(k20.d hh19).frMT (I13.rows.same u19), (k20.d hh19).frT (I13.nums.same u19), S⟩
            have hc20 : SqT K H20 l11 ac10 := (k20.d hh19).sqT (Same.sqT u19 hc13)
            have hd20 : FrS K H20 ac10 n d := (k20.d hh19).frS (hd13.same u19)
            have kH20 := (kH13.trans (.of u19)).trans k20
            refine ⟨_, rfl, _, rfl, _, rfl, sz2, fun p1 np1 => ⟨(by decide : (1 : Nat) ≤ sizeLine), fun p2 np2 => ?_⟩⟩
            have w1 := Same.upd (o := .tup [.int (e20 - 4), .int 1]) np1
            have f1 : Fr K (upd H20 p1 (.tup [.int (e20 - 4), .int 1])) (.ref p1) ((e20 - 4 : Int) : Rat) := fr_int upd_same
            generalize upd H20 p1 (.tup [.int (e20 - 4), .int 1]) = H21 at w1 f1 np2
            have w2 := Same.upd (o := .tup [.ref p1]) np2
            have f2 : (upd H21 p2 (.tup [.ref p1])) p2 = some (.tup [.ref p1]) := upd_same
            generalize upd H21 p2 (.tup [.ref p1]) = H22 at w2 f2
            have w12 := w1.trans w2
            refine ⟨_, rfl, cat_key (SqT.of f2) (Same.sqT w12 hc20) (by omega) _ fun c2 H23 w3 hc2 => ?_⟩
            refine ⟨_, _, rfl, rfl, _, rfl, _, _, rfl, rfl, _, rfl, _, _, rfl, rfl, sz2, fun p3 np3 => ⟨(by decide : (1 : Nat) ≤ sizeLine), fun p4 np4 => ?_⟩⟩
            have w4 := Same.upd (o := .tup [.int (0 - 1 - last - (e20 - 4)), .int 1]) np3
            have f4 : Fr K (upd H23 p3 (.tup [.int (0 - 1 - last - (e20 - 4)), .int 1])) (.ref p3) ((0 - 1 - last - (e20 - 4) : Int) : Rat) := fr_int upd_same
            change rCatT _ _ _ (upd (upd H23 p3 (.tup [.int (0 - 1 - last - (e20 - 4)), .int 1])) p4 (.tup [.ref p3])) _
            have np4' : (upd H23 p3 (.tup [.int (0 - 1 - last - (e20 - 4)), .int 1])) p4 = none := np4
            generalize upd H23 p3 (.tup [.int (0 - 1 - last - (e20 - 4)), .int 1]) = H24 at w4 f4 np4'
            have w5 := Same.upd (o := .tup [.ref p3]) np4'
            have f5 : (upd H24 p4 (.tup [.ref p3])) p4 = some (.tup [.ref p3]) := upd_same
            generalize upd H24 p4 (.tup [.ref p3]) = H25 at w5 f5
            have w45 := w4.trans w5
            refine ⟨c2, p4, _, _, rfl, rfl, Same.sqT w45 hc2, SqT.of f5, (by simp), Nat.le_of_lt (small1000 (by rw [List.length_cons, hl10]; show n + 1 + 1 ≤ 1000; omega)), (fun z => by cases z), fun _ p np => ?_⟩
            have w6 := Same.upd (o := .tup (V.ref p1 :: ac10 ++ [.ref p3])) np
            have hw6 : (upd H25 p (.tup (V.ref p1 :: ac10 ++ [.ref p3]))) p = some (.tup (V.ref p1 :: ac10 ++ [.ref p3])) := upd_same
            have w36 := w3.trans (w45.trans w6)
            have w16 := w12.trans w36
            have hcG := frs3 ((f1.same w2).same w36) (hd20.same w16) ((f4.same w5).same w6)
            generalize hcb : (fun j => if j = 0 then ((e20 - 4 : Int) : Rat) else if j < n + 1 then d (j - 1) else ((0 - 1 - last - (e20 - 4) : Int) : Rat)) = ca2 at hcG
            have ca2sz : ∀ j, j < n + 2 → Sm 100 (ca2 j) := fun j hj => by
              rw [← hcb]
              by_cases e : j = 0
              · simp only [e, if_true]; exact (sm_int (by omega)).mono (by decide)
              · simp only [e, if_false]
                by_cases e' : j < n + 1
                · simp only [e', if_true]; exact (hdb (j - 1) (by omega)).2.mono (by decide)
                · simp only [e', if_false]; exact (sm_int (by omega)).mono (by decide)
            have noD : ∀ y, ¬ Du m (n + 2) (Rt (n + 1) R) ca2 y := fun y dy => by
              have d0 := dy 0 (by omega)
              have d1 := dy (n + 1) (by omega)
              have e0 : ca2 0 = ((e20 - 4 : Int) : Rat) := by rw [← hcb]; simp
              have e1 : ca2 (n + 1) = ((0 - 1 - last - (e20 - 4) : Int) : Rat) := by
                rw [← hcb]
                simp
              rw [e0] at d0
              rw [e1] at d1
              have r0 : sm m (fun k => y k * Rt (n + 1) R k 0) = sm m (fun k => y k * R k 0) := sm_ext _ fun k _ => by simp [Rt]
              have r1 : sm m (fun k => y k * Rt (n + 1) R k (n + 1)) = - sm m (fun k => y k * R k 0) := by
                have a : sm m (fun k => y k * Rt (n + 1) R k (n + 1)) + sm m (fun k => y k * R k 0) = 0 := by
                  rw [← sm_add]
                  exact sm_eq0 fun k _ => by simp only [Rt, Nat.lt_irrefl, if_false]; grind
                grind
              rw [r0] at d0
              rw [r1] at d1
              have l0' : (0 : Rat) ≤ (last : Rat) := by exact_mod_cast l0
              rw [Rat.intCast_sub] at d0 d1
              rw [Rat.intCast_sub, Rat.intCast_sub] at d1
              rw [Rat.intCast_sub] at d1
              grind
            refine ⟨_, _, _, m, n + 2, Rt (n + 1) R, g, ca2, rfl, I20.same w16, ⟨p, _, rfl, SqT.of hw6, hcG⟩, ca2sz, ⟨x, Fx⟩, fun H26 _ ⟨y, dy⟩ => (noD y dy).elim, fun H26 s26 _ => ?_⟩
            refine ⟨rfl, ?_⟩
            change Q (.bl (decide (V.str (Str.ofString "fraction") = V.str (Str.ofString "fraction")))) H26
            rw [decide_eq_true rfl]
            exact k H26 (kH20.trans (.of (w16.trans s26))) (hh20.same (w16.trans s26))
end
end K1
set_option Elab.async false
set_option linter.all false
set_option maxRecDepth 100000
set_option maxHeartbeats 4000000
namespace K1
open PySem PySem.Spec PyProof.Rows L2
/-- what repr tells of tuples of tuples where no repr is under way -/
def rRep (K : PySem.W.Frag) : List V → Hp → VK → Prop := fun xs H Q => ∃ a d, xs = [.ref a] ∧ Dp K H (.ref a) d ∧ d.showable = true ∧ d.hasDict = false ∧ d.depth ≤ 64 ∧ d.shown.length ≤ sizeLine ∧ Q (.str d.shown) H
theorem call_rep {X : Cx} (hg : X.A.guards = some []) (hu : X.A.units + 65 < cLine) : CallR X (.builtin "repr") (rRep X.K) := by
  intro pins s σ H xs us Q I r h
  obtain ⟨a, d, rfl, hd, h1, h2, h3, h4, q⟩ := h
  obtain ⟨u, rfl, rx⟩ := vals1 r
  obtain rfl : u = .ref a := rx
  obtain ⟨as, R⟩ := Dp.reads I d _ (.ref a) hd rfl
  exact repr_of_reads' R h1 (PyData.noDict_hsm h2) hg (by omega) (fun _ _ e => e) (fun h' u tk k => ⟨.str d.shown, H, I.kept k, ⟨_, rfl⟩, q⟩) h4
section
variable {CX : CXT} {P : Program} {w : World} {K : PySem.W.Frag} {mg : Str → Option Value} {base : Heap} {k : Nat} {f a : Addr} {fd : FuncData} {N ps : List Str} {sp : Sp} {x qual : Str} {st : Stmt}
/-- a def of the text, run once, at a place that is known -/
theorem run_once {A : Around} {outer : List Env} {s : Shared} {H : Hp} {args : Args} {us : List Value} {vs : List V} {Q : VK} {E : XK} (F : Fun K x qual st f fd) (S : FnScope N ps (defScope st)) (hv : vs.length = ps.length) (hr : Room (k + 1) A) (e : Env0 P w K mg base A outer s H) (hb : BindsTo s fd args (ps.zip us)) (r : Vals vs us)
    (body : ∀ cdv : Value, Room k (A.deeper (envOfC qual (defScope st) s.heap.objs.size f cdv)) → ∃ t, PSs (cxOf CX P w K mg base N qual (defScope st) f cdv A outer s H E) (defBody st) t ∧ t { nx := fun _ H' => Q .non H', rt := Q } (start N vs) H) :
    codeAny (model P w) A (.call (.ref f) args) (CR CX outer P w H s Q E) s := by
  obtain ⟨oc, od, kV, doc, pm, an, cdv, ct, osl, rfl, lk, hcd⟩ := F.ex
  have up : ∀ b o, base.get? b = some o → s.heap.get? b = some o := fun b o z => (e.bs b o z).1
  have KX := e.mod.kin.keeps up
  refine codeAny_call_function hr.depth (KX _ _ lk) rfl S.co S.gen rfl (PySem.W.codeRec_of KX hcd) (hb _ _ _ _ ?_)
  refine wpAny_newFunctionEnv_cells S.kind (fun y hy => ?_) fun env he s1 z => ?_
  · rcases S.par y.1 (List.of_mem_zip (show (y.1, y.2) ∈ ps.zip us from hy)).1 with q | q
    · exact Or.inl q
    · exact Or.inr ⟨q, PySem.W.cellsFrom_some _ _ _ (Or.inl q)⟩
  subst he
  refine ⟨(e.mod.nolimit.keeps up).keeps z.toInCall.keep, codeAny_func ?_⟩
  obtain ⟨t, ht, hq⟩ := body cdv (hr.deeper _)
  refine wpAny_mono (ht.run [] s1 (start N vs) H _ (inv_start S hr.hd e hv r z) hq) (fun fl s' hs => ?_) fun _ _ z => z
  cases fl with
  | next =>
    obtain ⟨σ', H', J, q⟩ := hs
    exact ⟨.non, H', J.os, J.bare, J.base, J.hok, rfl, q⟩
  | ret u =>
    obtain ⟨v, σ', H', J, rv, q⟩ := hs
    exact ⟨v, H', J.os, J.bare, J.base, J.hok, rv, q⟩
  | brk => exact (let ⟨_, _, _, q⟩ := hs; q : False).elim
  | cont => exact (let ⟨_, _, _, q⟩ := hs; q : False).elim
end
/-- the law's call, from what its def does at the caller's place alone -/
theorem law_once {P : Program} {w : World} {K : PySem.W.Frag} {mg mb : Str → Option Value} {f a : Addr} {s : Shared} {vs : List Value} {ns : List Int} (KX : K.In s.heap) (hns : s.heap.Ns mainGlobals mg) (hb : s.heap.Ns builtinsNs mb) (hbb : ∀ x : Str, x ≠ "__name__" → mb x = bootBuiltins x)
    (hlim : s.heap.NoLimit) (hg : s.gens = #[]) (ha : s.heap.get? a = some { cls := .type "list", data := .seq vs.toArray }) (hi : IntsAre vs ns) (hl : ns.length ≤ sizeLine)
    (F : ∀ (base : Heap) (H : Hp), K.In base → base.Ns mainGlobals mg → SqL K H a (ns.map V.int) → Env0 P w K mg base callerA [] s H → codeAny (model P w) callerA (.call (.ref f) ⟨[.ref a], []⟩) (CR CX0 [] P w H s (fun v _ => v = .bl true) fun _ _ _ => False) s) :
    codeAny (model P w) callerA (.call (.ref f) ⟨[.ref a], []⟩) (fun r s' => r = .ok (.ret (.bool true)) ∧ OldK s.heap s'.heap ∧ s'.os = s.os ∧ AllBare s'.gens) s := by
  have lenV := hi.length
  have go : ∀ H : Hp, (∀ b, H b = none ∨ (b = a ∧ K.lookup a = none ∧ ∃ o xs, H b = some (.frz o (.lst xs)))) → SqL K H a (ns.map V.int) → HOk P w H s.heap →
      codeAny (model P w) callerA (.call (.ref f) ⟨[.ref a], []⟩) (fun r s' => r = .ok (.ret (.bool true)) ∧ OldK s.heap s'.heap ∧ s'.os = s.os ∧ AllBare s'.gens) s := by
    intro H hO hS hok
    have nsK : ∀ {b : Addr} {m : Str → Option Value}, s.heap.Ns b m → (hidT s.heap H).Ns b m := by
      rintro b m ⟨o, es, ep, e, d, r⟩
      refine ⟨o, es, ep, hidT_get e ?_, d, r⟩
      rcases hO b with q | ⟨rfl, _⟩
      · exact q
      · rw [ha] at e
        cases e
        exact nomatch d
    have hKb : K.In (hidT s.heap H) := fun b o e => by
      refine hidT_get (KX b o e) ?_
      rcases hO b with q | ⟨rfl, q, _⟩
      · exact q
      · rw [q] at e
        cases e
    have e0 : Env0 P w K mg (hidT s.heap H) callerA [] s H := by
      refine ⟨rfl, ⟨hKb, nsK hns, ⟨mb, nsK hb, hbb⟩, ?_⟩, fun b o e => of_hidT e, Nat.le_of_eq (hidT_size _ _), trivial, fun b hb => ?_, hok, .of_eq hg⟩
      · obtain ⟨mc, h1, h2⟩ := hlim
        exact ⟨mc, nsK h1, h2⟩
      · exact nomatch (show b ∈ ([] : List Addr) from hb)
    refine codeAny_mono (F _ H hKb (nsK hns) hS e0) fun r s' h => ?_
    cases r with
    | error e => exact False.elim h
    | ok fl =>
      cases fl with
      | ret u =>
        obtain ⟨v, H', os, bare, un, hok', r', rfl⟩ := h
        obtain rfl : u = Value.bool true := r'
        refine ⟨rfl, OldK.of_keep fun b o e => ?_, os, bare⟩
        rcases hO b with q | ⟨_, _, ob, xs, q⟩
        · exact un.keep b o e q (fun z => nomatch (show b ∈ ([] : List Addr) from z)) (by simp)
        · have e2 := (hok' b _ (un.frzs b ob _ q)).1
          have e1 := (hok b _ q).1
          rw [e] at e1
          cases e1
          exact e2
      | next => exact False.elim h
      | brk => exact False.elim h
      | cont => exact False.elim h
  by_cases hk : K.lookup a = none
  · refine go (fun b => if b = a then some (.frz { cls := .type "list", data := .seq vs.toArray } (.lst (ns.map V.int))) else none) (fun b => ?_) (Or.inl (Or.inr ⟨_, if_pos rfl⟩)) fun b u z => ?_
    · by_cases hb : b = a
      · exact Or.inr ⟨hb, hk, _, _, if_pos hb⟩
      · exact Or.inl (if_neg hb)
    · by_cases hb : b = a
      · subst hb
        cases (if_pos rfl).symm.trans z
        exact ⟨ha, by rw [List.length_map]; exact hl, vs, _, vals_ints hi, ha⟩
      · cases (if_neg hb).symm.trans z
  · obtain ⟨o, hk⟩ := Option.ne_none_iff_exists'.mp hk
    have e := KX a o hk
    rw [ha] at e
    cases e
    exact go (fun _ => none) (fun _ => Or.inl rfl) (Or.inr ⟨_, vs.toArray, _, hk, rfl, rfl, rfl, by rw [List.size_toArray, lenV]; exact hl, by simpa using vals_ints hi⟩) fun b u z => nomatch (show (none : Option HO) = some u from z)
end K1
set_option Elab.async false
set_option linter.all false
set_option maxRecDepth 100000
set_option maxHeartbeats 8000000
namespace K1
open PySem L2 Kz Sx
abbrev sLaw : Stmt := top 35
theorem frz1 {K : PySem.W.Frag} {H : Hp} {p : Addr} {i : Int} {q : Rat} (h : H p = some (.tup [.int i, .int 1])) (e : q = (i : Rat)) : Fr K H (.ref p) q := by
  subst e
  exact fr_int h
theorem frs1 {K : PySem.W.Frag} {H : Hp} {u : V} {f : Nat → Rat} (h : Fr K H u (f 0)) : FrS K H [u] 1 f := ⟨rfl, fun j v e => by
  match j with
  | 0 => cases e; exact h
  | j + 1 => simp at e⟩
theorem frs2 {K : PySem.W.Frag} {H : Hp} {u v : V} {f : Nat → Rat} (h : Fr K H u (f 0)) (h' : Fr K H v (f 1)) : FrS K H [u, v] 2 f := ⟨rfl, fun j w e => by
  match j with
  | 0 => cases e; exact h
  | 1 => cases e; exact h'
  | j + 2 => simp at e⟩
theorem fra1 {K : PySem.W.Frag} {H : Hp} {p : Addr} {u : V} {f : Nat → Rat} (h : H p = some (.tup [u])) (h' : Fr K H u (f 0)) : FrA true K H (.ref p) 1 f := ⟨p, _, rfl, SqT.of h, frs1 h'⟩
theorem fra2 {K : PySem.W.Frag} {H : Hp} {p : Addr} {u v : V} {f : Nat → Rat} (h : H p = some (.tup [u, v])) (h0 : Fr K H u (f 0)) (h1 : Fr K H v (f 1)) : FrA true K H (.ref p) 2 f := ⟨p, _, rfl, SqT.of h, frs2 h0 h1⟩
theorem frm1 {K : PySem.W.Frag} {H : Hp} {p : Addr} {u : V} {n : Nat} {R : Nat → Nat → Rat} (h : H p = some (.tup [u])) (h' : FrA true K H u n (R 0)) : FrMT K H (.ref p) 1 n R := ⟨p, _, rfl, SqT.of h, rfl, fun i v e => by
  match i with
  | 0 => cases e; exact h'
  | i + 1 => simp at e⟩
/-- what least tells in the known case -/
def knownD : PyData := .tuple [.tuple [.int 3, .int 1], .tuple [.tuple [.int 0, .int 1], .tuple [.int 3, .int 1]], .tuple [.tuple [.int 1, .int 1]]]
def cK : Nat → Rat := fun j => if j = 0 then 2 else 1
theorem known_only {x y : Nat → Rat} (F : Fe 1 2 (fun _ _ => 1) (fun _ => 3) x) (D : Du 1 2 (fun _ _ => 1) cK y) (v : sm 1 (fun k => y k * 3) = sm 2 (fun j => cK j * x j)) : x 0 = 0 ∧ x 1 = 3 ∧ y 0 = 1 := by
  have f := F.2 0 (by omega)
  have f0 := F.1 0 (by omega)
  have f1 := F.1 1 (by omega)
  have d := D 1 (by omega)
  simp only [sm, cK] at f d v
  have e1 : (1 : Nat) ≠ 0 := by decide
  simp only [e1, if_false, if_true] at d v
  refine ⟨?_, ?_, ?_⟩ <;> grind
section
variable {P : Program} {w : World} {K : PySem.W.Frag} {mg : Str → Option Value} {base : Heap}
theorem scLaw : FnScope ["script", "hand", "known", "again"] ["script"] (defScope sLaw) := ⟨rfl, rfl, rfl, by decide +kernel, rfl, by decide +kernel, by decide +kernel⟩
theorem law_runs {f a CN : Addr} {fd : FuncData} {ns : List Int} {s : Shared} {H : Hp} (F : Fun K "law" "law" sLaw f fd) (DH : Df P w K mg base CX0 1 "_law_hand" ["script"] (spHand K)) (DE : Df P w K mg base (L2.CX P w) 6 "least" ["rows", "numbers", "costs"] (spLeast K CN))
    (DK : Df P w K mg base CX0 7 "_law_known_right" ["hand"] spPart) (DN : Df P w K mg base CX0 7 "_law_none_right" ["hand"] spPart) (DL : Df P w K mg base CX0 8 "_law_endless_right" ["hand"] spPart) (zR : mg "range" = none) (zP : mg "repr" = none)
    (hb : BindsTo s fd ⟨[.ref a], []⟩ [("script", .ref a)]) (e : Env0 P w K mg base callerA [] s H) (hS : SqL K H a (ns.map V.int)) (hl : ns.length ≤ 63) :
    codeAny (model P w) callerA (.call (.ref f) ⟨[.ref a], []⟩) (CR CX0 [] P w H s (fun v _ => v = .bl true) fun _ _ _ => False) s := by
  refine run_once (vs := [.ref a]) (us := [.ref a]) F scLaw rfl (k := 8) (by constructor <;> decide +kernel) e hb (.cons rfl .nil) fun cdv hr => ?_
  have hu : (callerA.deeper (PyProof.Rows.envOfC "law" (defScope sLaw) s.heap.objs.size f cdv)).units + 65 < cLine := by
    have := hr.un
    omega
  have core : ∃ t, PSs (cxOf CX0 P w K mg base ["script", "hand", "known", "again"] "law" (defScope sLaw) f cdv callerA [] s H fun _ _ _ => False).nox (defBody sLaw) t ∧ t { nx := fun _ H' => (fun (v : V) (_ : Hp) => v = .bl true) .non H', rt := fun v _ => v = .bl true } (start ["script", "hand", "known", "again"] [.ref a]) H := by
    refine ⟨_, pss_cons (ps_set (i := 1) scLaw.nd rfl (.inl rfl) (pe_callD DH hr (by decide) (by rfl) pass0 (pa_cons (pv 0) pa_nil)))
      (pss_cons (ps_set (i := 2) scLaw.nd rfl (.inl rfl) (pe_callD DE hr (by decide) (by rfl) passL (pa_cons (pe_tup (pa_cons (pe_tup (pa_cons (pe_tup (pa_cons pe_int (pa_cons pe_int pa_nil))) (pa_cons (pe_tup (pa_cons pe_int (pa_cons pe_int pa_nil))) pa_nil))) pa_nil))
        (pa_cons (pe_tup (pa_cons (pe_tup (pa_cons pe_int (pa_cons pe_int pa_nil))) pa_nil)) (pa_cons (pe_tup (pa_cons (pe_tup (pa_cons pe_int (pa_cons pe_int pa_nil))) (pa_cons (pe_tup (pa_cons pe_int (pa_cons pe_int pa_nil))) pa_nil))) pa_nil)))))
      (pss_cons (ps_if (pt_cmpR op_ne (pe_callB (call_rep rfl hu) (by rfl) zP PyProof.Rows.bootS_repr (pa_cons (pv 2) pa_nil)) (pe_callB (call_rep rfl hu) (by rfl) zP PyProof.Rows.bootS_repr (pa_cons
          (pe_tup (pa_cons (pe_tup (pa_cons pe_int (pa_cons pe_int pa_nil))) (pa_cons (pe_tup (pa_cons (pe_tup (pa_cons pe_int (pa_cons pe_int pa_nil))) (pa_cons (pe_tup (pa_cons pe_int (pa_cons pe_int pa_nil))) pa_nil))) (pa_cons (pe_tup (pa_cons (pe_tup (pa_cons pe_int (pa_cons pe_int pa_nil))) pa_nil)) pa_nil)))) pa_nil)) (nomark _)) pss_never pss_nil)
      (pss_cons (ps_if (pt_cmp (pc_notN (pe_callD DE hr (by decide) (by rfl) passL (pa_cons (pe_tup (pa_cons (pe_tup (pa_cons (pe_tup (pa_cons pe_int (pa_cons pe_int pa_nil))) pa_nil)) pa_nil))
        (pa_cons (pe_tup (pa_cons (pe_tup (pa_cons (pe_un un_neg pe_int) (pa_cons pe_int pa_nil))) pa_nil)) (pa_cons (pe_tup (pa_cons (pe_tup (pa_cons pe_int (pa_cons pe_int pa_nil))) pa_nil)) pa_nil)))))) pss_never pss_nil)
      (pss_cons (ps_for PassesOwn.never rfl (pi_range1 (by rfl) zR (pa_cons pe_int pa_nil)) (pg_name (i := 3) scLaw.nd rfl (.inl rfl))
        (pss_one (ps_if (PW.pt (pw_or (pt_not (pt_val (pe_callD DK hr (by decide) (by rfl) pass0 (pa_cons (pv 1) pa_nil)))) (pw_or (pt_not (pt_val (pe_callD DN hr (by decide) (by rfl) pass0 (pa_cons (pv 1) pa_nil)))) (pw_or1 (pt_not (pt_val (pe_callD DL hr (by decide) (by rfl) pass0 (pa_cons (pv 1) pa_nil)))))))) pss_never pss_nil)))
      (pss_one (ps_ret pe_bl)))))), ?_⟩
    refine ⟨_, rfl, a, ns, rfl, hS, hl, fun H1 ha ca cs s1 _ hh1 => ?_⟩
    refine ⟨Nat.le_of_lt (small1000 (Nat.le_of_ble_eq_true rfl)), fun t1 np => ?_⟩
    have s2 := Same.upd (o := .tup [.int 1, .int 1]) np
    have e1 : (upd H1 t1 (.tup [.int 1, .int 1])) t1 = some (.tup [.int 1, .int 1]) := upd_same
    generalize upd H1 t1 (.tup [.int 1, .int 1]) = H2 at s2 e1 ⊢
    clear np
    refine ⟨Nat.le_of_lt (small1000 (Nat.le_of_ble_eq_true rfl)), fun t2 np => ?_⟩
    have s3 := Same.upd (o := .tup [.int 1, .int 1]) np
    have e2 : (upd H2 t2 (.tup [.int 1, .int 1])) t2 = some (.tup [.int 1, .int 1]) := upd_same
    generalize upd H2 t2 (.tup [.int 1, .int 1]) = H3 at s3 e2 ⊢
    clear np
    refine ⟨Nat.le_of_lt (small1000 (Nat.le_of_ble_eq_true rfl)), fun t3 np => ?_⟩
    have s4 := Same.upd (o := .tup [.ref t1, .ref t2]) np
    have e3 : (upd H3 t3 (.tup [.ref t1, .ref t2])) t3 = some (.tup [.ref t1, .ref t2]) := upd_same
    generalize upd H3 t3 (.tup [.ref t1, .ref t2]) = H4 at s4 e3 ⊢
    clear np
    refine ⟨Nat.le_of_lt (small1000 (Nat.le_of_ble_eq_true rfl)), fun t4 np => ?_⟩
    have s5 := Same.upd (o := .tup [.ref t3]) np
    have e4 : (upd H4 t4 (.tup [.ref t3])) t4 = some (.tup [.ref t3]) := upd_same
    generalize upd H4 t4 (.tup [.ref t3]) = H5 at s5 e4 ⊢
    clear np
    refine ⟨Nat.le_of_lt (small1000 (Nat.le_of_ble_eq_true rfl)), fun t5 np => ?_⟩
    have s6 := Same.upd (o := .tup [.int 3, .int 1]) np
    have e5 : (upd H5 t5 (.tup [.int 3, .int 1])) t5 = some (.tup [.int 3, .int 1]) := upd_same
    generalize upd H5 t5 (.tup [.int 3, .int 1]) = H6 at s6 e5 ⊢
    clear np
    refine ⟨Nat.le_of_lt (small1000 (Nat.le_of_ble_eq_true rfl)), fun t6 np => ?_⟩
    have s7 := Same.upd (o := .tup [.ref t5]) np
    have e6 : (upd H6 t6 (.tup [.ref t5])) t6 = some (.tup [.ref t5]) := upd_same
    generalize upd H6 t6 (.tup [.ref t5]) = H7 at s7 e6 ⊢
    clear np
    refine ⟨Nat.le_of_lt (small1000 (Nat.le_of_ble_eq_true rfl)), fun t7 np => ?_⟩
    have s8 := Same.upd (o := .tup [.int 2, .int 1]) np
    have e7 : (upd H7 t7 (.tup [.int 2, .int 1])) t7 = some (.tup [.int 2, .int 1]) := upd_same
    generalize upd H7 t7 (.tup [.int 2, .int 1]) = H8 at s8 e7 ⊢
    clear np
    refine ⟨Nat.le_of_lt (small1000 (Nat.le_of_ble_eq_true rfl)), fun t8 np => ?_⟩
    have s9 := Same.upd (o := .tup [.int 1, .int 1]) np
    have e8 : (upd H8 t8 (.tup [.int 1, .int 1])) t8 = some (.tup [.int 1, .int 1]) := upd_same
    generalize upd H8 t8 (.tup [.int 1, .int 1]) = H9 at s9 e8 ⊢
    clear np
    refine ⟨Nat.le_of_lt (small1000 (Nat.le_of_ble_eq_true rfl)), fun t9 np => ?_⟩
    have s10 := Same.upd (o := .tup [.ref t7, .ref t8]) np
    have e9 : (upd H9 t9 (.tup [.ref t7, .ref t8])) t9 = some (.tup [.ref t7, .ref t8]) := upd_same
    generalize upd H9 t9 (.tup [.ref t7, .ref t8]) = H10 at s10 e9 ⊢
    clear np
    have I10 : Inp K H10 (.ref t4) (.ref t6) 1 2 (fun _ _ => 1) (fun _ => 3) := ⟨frm1 (s10 _ _ (s9 _ _ (s8 _ _ (s7 _ _ (s6 _ _ e4))))) (fra2 (s10 _ _ (s9 _ _ (s8 _ _ (s7 _ _ (s6 _ _ (s5 _ _ e3)))))) (frz1 (s10 _ _ (s9 _ _ (s8 _ _ (s7 _ _ (s6 _ _ (s5 _ _ (s4 _ _ (s3 _ _ e1)))))))) (by rfl)) (frz1 (s10 _ _ (s9 _ _ (s8 _ _ (s7 _ _ (s6 _ _ (s5 _ _ (s4 _ _ e2))))))) (by rfl))), fra1 (s10 _ _ (s9 _ _ (s8 _ _ e6))) (frz1 (s10 _ _ (s9 _ _ (s8 _ _ (s7 _ _ e5)))) (by rfl)), ⟨.inl rfl, by decide, fun _ _ _ _ => ⟨4, by decide +kernel, by decide⟩, fun _ _ => ⟨12, by decide +kernel, by decide⟩⟩⟩
    have C10 : FrA true K H10 (.ref t9) 2 cK := fra2 e9 (frz1 (s10 _ _ (s9 _ _ e7)) (by rfl)) (frz1 (s10 _ _ e8) (by rfl))
    refine ⟨_, _, _, 1, 2, fun _ _ => 1, fun _ => 3, cK, rfl, I10, C10, fun j hj => ?_, fun Ha sa no => (no (fun j => if j = 0 then 0 else 3) ⟨fun j hj => ?_, fun k hk => ?_⟩).elim, fun Ha t wv xv yv x y sa ht fw fx fy Fx dy vy sx sy => ?_, fun Ha d sa _ _ nodu => (nodu _ (du0 fun j hj => ?_)).elim⟩
    · unfold cK
      split <;> exact ⟨by decide +kernel, by decide +kernel⟩
    · show (0 : Rat) ≤ if j = 0 then 0 else 3
      split <;> decide +kernel
    · show sm 2 (fun j => (1 : Rat) * (if j = 0 then 0 else 3)) = 3
      decide +kernel
    · obtain ⟨x0, x1, y0⟩ := known_only Fx dy vy
      have v3 : sm 2 (fun j => cK j * x j) = 3 := by
        show 0 + cK 0 * x 0 + cK 1 * x 1 = 3
        rw [x0, x1]
        decide +kernel
      rw [v3] at fw
      have dp : Dp K Ha (.ref t) knownD := by
        obtain ⟨ax, xs, rfl, hx, fx⟩ := fx
        obtain ⟨ay, ys, rfl, hy, fy⟩ := fy
        have d1 : Dp K Ha wv (.tuple [.int 3, .int 1]) := fw.dp
        have d2 := dl_dp fx
        rw [show dl 2 x = [dF (x 0), dF (x 1)] from rfl, x0, x1] at d2
        have d3 := dl_dp fy
        rw [show dl 1 y = [dF (y 0)] from rfl, y0] at d3
        exact .tup (SqT.of ht) (.cons d1 (.cons (.tup hx d2) (.cons (.tup hy d3) .nil)))
      refine ⟨_, rfl, t, knownD, rfl, dp, by decide +kernel, by decide +kernel, by decide +kernel, by decide +kernel, ?_⟩
      refine ⟨Nat.le_of_lt (small1000 (Nat.le_of_ble_eq_true rfl)), fun p1 np => ?_⟩
      have r1 := Same.upd (o := .tup [.int 3, .int 1]) np
      have f1 : (upd Ha p1 (.tup [.int 3, .int 1])) p1 = some (.tup [.int 3, .int 1]) := upd_same
      generalize upd Ha p1 (.tup [.int 3, .int 1]) = G1 at r1 f1 ⊢
      clear np
      refine ⟨Nat.le_of_lt (small1000 (Nat.le_of_ble_eq_true rfl)), fun p2 np => ?_⟩
      have r2 := Same.upd (o := .tup [.int 0, .int 1]) np
      have f2 : (upd G1 p2 (.tup [.int 0, .int 1])) p2 = some (.tup [.int 0, .int 1]) := upd_same
      generalize upd G1 p2 (.tup [.int 0, .int 1]) = G2 at r2 f2 ⊢
      clear np
      refine ⟨Nat.le_of_lt (small1000 (Nat.le_of_ble_eq_true rfl)), fun p3 np => ?_⟩
      have r3 := Same.upd (o := .tup [.int 3, .int 1]) np
      have f3 : (upd G2 p3 (.tup [.int 3, .int 1])) p3 = some (.tup [.int 3, .int 1]) := upd_same
      generalize upd G2 p3 (.tup [.int 3, .int 1]) = G3 at r3 f3 ⊢
      clear np
      refine ⟨Nat.le_of_lt (small1000 (Nat.le_of_ble_eq_true rfl)), fun p4 np => ?_⟩
      have r4 := Same.upd (o := .tup [.ref p2, .ref p3]) np
      have f4 : (upd G3 p4 (.tup [.ref p2, .ref p3])) p4 = some (.tup [.ref p2, .ref p3]) := upd_same
      generalize upd G3 p4 (.tup [.ref p2, .ref p3]) = G4 at r4 f4 ⊢
      clear np
      refine ⟨Nat.le_of_lt (small1000 (Nat.le_of_ble_eq_true rfl)), fun p5 np => ?_⟩
      have r5 := Same.upd (o := .tup [.int 1, .int 1]) np
      have f5 : (upd G4 p5 (.tup [.int 1, .int 1])) p5 = some (.tup [.int 1, .int 1]) := upd_same
      generalize upd G4 p5 (.tup [.int 1, .int 1]) = G5 at r5 f5 ⊢
      clear np
      refine ⟨Nat.le_of_lt (small1000 (Nat.le_of_ble_eq_true rfl)), fun p6 np => ?_⟩
      have r6 := Same.upd (o := .tup [.ref p5]) np
      have f6 : (upd G5 p6 (.tup [.ref p5])) p6 = some (.tup [.ref p5]) := upd_same
      generalize upd G5 p6 (.tup [.ref p5]) = G6 at r6 f6 ⊢
      clear np
      refine ⟨Nat.le_of_lt (small1000 (Nat.le_of_ble_eq_true rfl)), fun p7 np => ?_⟩
      have r7 := Same.upd (o := .tup [.ref p1, .ref p4, .ref p6]) np
      have f7 : (upd G6 p7 (.tup [.ref p1, .ref p4, .ref p6])) p7 = some (.tup [.ref p1, .ref p4, .ref p6]) := upd_same
      generalize upd G6 p7 (.tup [.ref p1, .ref p4, .ref p6]) = G7 at r7 f7 ⊢
      clear np
      have di : ∀ {b : Addr} {i j : Int}, G7 b = some (.tup [.int i, .int j]) → Dp K G7 (.ref b) (.tuple [.int i, .int j]) := fun h => .tup (SqT.of h) (.cons (.int _) (.cons (.int _) .nil))
      have dq : Dp K G7 (.ref p7) knownD := .tup (SqT.of f7) (.cons (di (r7 _ _ (r6 _ _ (r5 _ _ (r4 _ _ (r3 _ _ (r2 _ _ f1))))))) (.cons (.tup (SqT.of (r7 _ _ (r6 _ _ (r5 _ _ f4)))) (.cons (di (r7 _ _ (r6 _ _ (r5 _ _ (r4 _ _ (r3 _ _ f2)))))) (.cons (di (r7 _ _ (r6 _ _ (r5 _ _ (r4 _ _ f3))))) .nil))) (.cons (.tup (SqT.of (r7 _ _ f6)) (.cons (di (r7 _ _ (r6 _ _ f5))) .nil)) .nil)))
      refine ⟨p7, knownD, rfl, dq, by decide +kernel, by decide +kernel, by decide +kernel, by decide +kernel, ?_⟩
      refine ⟨rfl, _, rfl, iteF ?_⟩
      refine ⟨Nat.le_of_lt (small1000 (Nat.le_of_ble_eq_true rfl)), fun q1 np => ?_⟩
      have w1 := Same.upd (o := .tup [.int 1, .int 1]) np
      have g1 : (upd G7 q1 (.tup [.int 1, .int 1])) q1 = some (.tup [.int 1, .int 1]) := upd_same
      generalize upd G7 q1 (.tup [.int 1, .int 1]) = J1 at w1 g1 ⊢
      clear np
      refine ⟨Nat.le_of_lt (small1000 (Nat.le_of_ble_eq_true rfl)), fun q2 np => ?_⟩
      have w2 := Same.upd (o := .tup [.ref q1]) np
      have g2 : (upd J1 q2 (.tup [.ref q1])) q2 = some (.tup [.ref q1]) := upd_same
      generalize upd J1 q2 (.tup [.ref q1]) = J2 at w2 g2 ⊢
      clear np
      refine ⟨Nat.le_of_lt (small1000 (Nat.le_of_ble_eq_true rfl)), fun q3 np => ?_⟩
      have w3 := Same.upd (o := .tup [.ref q2]) np
      have g3 : (upd J2 q3 (.tup [.ref q2])) q3 = some (.tup [.ref q2]) := upd_same
      generalize upd J2 q3 (.tup [.ref q2]) = J3 at w3 g3 ⊢
      clear np
      refine ⟨_, rfl, ?_⟩
      refine ⟨Nat.le_of_lt (small1000 (Nat.le_of_ble_eq_true rfl)), fun q4 np => ?_⟩
      have w4 := Same.upd (o := .tup [.int (-1), .int 1]) np
      have g4 : (upd J3 q4 (.tup [.int (-1), .int 1])) q4 = some (.tup [.int (-1), .int 1]) := upd_same
      generalize upd J3 q4 (.tup [.int (-1), .int 1]) = J4 at w4 g4 ⊢
      clear np
      refine ⟨Nat.le_of_lt (small1000 (Nat.le_of_ble_eq_true rfl)), fun q5 np => ?_⟩
      have w5 := Same.upd (o := .tup [.ref q4]) np
      have g5 : (upd J4 q5 (.tup [.ref q4])) q5 = some (.tup [.ref q4]) := upd_same
      generalize upd J4 q5 (.tup [.ref q4]) = J5 at w5 g5 ⊢
      clear np
      refine ⟨Nat.le_of_lt (small1000 (Nat.le_of_ble_eq_true rfl)), fun q6 np => ?_⟩
      have w6 := Same.upd (o := .tup [.int 1, .int 1]) np
      have g6 : (upd J5 q6 (.tup [.int 1, .int 1])) q6 = some (.tup [.int 1, .int 1]) := upd_same
      generalize upd J5 q6 (.tup [.int 1, .int 1]) = J6 at w6 g6 ⊢
      clear np
      refine ⟨Nat.le_of_lt (small1000 (Nat.le_of_ble_eq_true rfl)), fun q7 np => ?_⟩
      have w7 := Same.upd (o := .tup [.ref q6]) np
      have g7 : (upd J6 q7 (.tup [.ref q6])) q7 = some (.tup [.ref q6]) := upd_same
      generalize upd J6 q7 (.tup [.ref q6]) = J7 at w7 g7 ⊢
      clear np
      have I7 : Inp K J7 (.ref q3) (.ref q5) 1 1 (fun _ _ => 1) (fun _ => -1) := ⟨frm1 (w7 _ _ (w6 _ _ (w5 _ _ (w4 _ _ g3)))) (fra1 (w7 _ _ (w6 _ _ (w5 _ _ (w4 _ _ (w3 _ _ g2))))) (frz1 (w7 _ _ (w6 _ _ (w5 _ _ (w4 _ _ (w3 _ _ (w2 _ _ g1)))))) (by rfl))), fra1 (w7 _ _ (w6 _ _ g5)) (frz1 (w7 _ _ (w6 _ _ (w5 _ _ g4))) (by rfl)), ⟨.inl rfl, by decide, fun _ _ _ _ => ⟨4, by decide +kernel, by decide⟩, fun _ _ => ⟨-4, by decide +kernel, by decide⟩⟩⟩
      have C7 : FrA true K J7 (.ref q7) 1 (fun _ => 1) := fra1 g7 (frz1 (w7 _ _ g6) (by rfl))
      have nofe : ∀ x, ¬ Fe 1 1 (fun _ _ => 1) (fun _ => -1) x := fun x hx => by
        have h1 := hx.1 0 (by omega)
        have h2 : 0 + 1 * x 0 = -1 := hx.2 0 (by omega)
        grind
      refine ⟨_, _, _, 1, 1, fun _ _ => 1, fun _ => -1, fun _ => 1, rfl, I7, C7, fun j hj => (show Sm 100 1 from ⟨by decide +kernel, by decide +kernel⟩), fun Hb sb _ => ?_, fun Hb tb wb xb yb x y sb _ _ _ _ hfe _ _ _ _ => (nofe _ hfe).elim, fun Hb d sb _ hfe _ => (nofe _ hfe.choose_spec).elim⟩
      refine ⟨_, rfl, iteF ?_⟩
      have hh2 : HandAt Hb ha ca cs := (((((((((((((((((((((((((hh1.same s2).same s3).same s4).same s5).same s6).same s7).same s8).same s9).same s10).same sa).same r1).same r2).same r3).same r4).same r5).same r6).same r7).same w1).same w2).same w3).same w4).same w5).same w6).same w7).same sb)
      refine ⟨(4 : Int), rfl, by omega, by omega, for_range (lo := 0) (n := (4 : Int).toNat) (fun i σ H2 => HandAt H2 ha ca cs ∧ ∃ o, σ = [some (.ref a), some (.ref ha), some (.ref t), o]) ⟨hh2, none, rfl⟩ ?_ ?_⟩
      · rintro i σ H2 hi ⟨hh3, o, rfl⟩
        refine ⟨_, rfl, ha, ca, cs, rfl, hh3, fun H3 _ hh4 => ?_⟩
        refine ⟨_, rfl, iteF ?_⟩
        refine ⟨_, rfl, ha, ca, cs, rfl, hh4, fun H4 _ hh5 => ⟨_, rfl, iteF ?_⟩⟩
        refine ⟨_, rfl, ha, ca, cs, rfl, hh5, fun H5 _ hh6 => ⟨_, rfl, iteF ?_⟩⟩
        exact ⟨hh6, _, rfl⟩
      · rintro σ H2 ⟨hh3, o, rfl⟩
        rfl
    · unfold cK
      split <;> decide +kernel
  obtain ⟨t, h, q⟩ := core
  exact ⟨t, h.nox, q⟩
end
end K1
set_option Elab.async false
set_option linter.all false
set_option maxRecDepth 100000
set_option maxHeartbeats 8000000
namespace K1
open PySem L2 Kz Sx
/-- a def of the top, as written -/
def TopF (K : PySem.W.Frag) (x : Str) (st : Stmt) : Prop := ∃ f fd, PySem.W.nsIn K mainGlobals x = some (some (.ref f)) ∧ Fun K x x st f fd
theorem topf {K : PySem.W.Frag} {x : Str} {st : Stmt} {f : Addr} {od an : Option Addr} {sl : Array (Option Value)} {oc kV dc pm cd ct : Value} (a : PySem.W.nsIn K mainGlobals x = some (some (.ref f)))
    (l : K.lookup f = some ⟨oc, od, .func (PySem.W.fnOf x x (defArgs st) (defBody st) (defScope st) .none kV dc pm an cd ct), sl⟩) (c : PySem.W.codeIn K cd x = true) (k : PySem.W.keepIn K (.ref f) = true) : TopF K x st := ⟨f, _, a, fun_mk l c k⟩
/-- a method of a class, as written -/
def MetF (K : PySem.W.Frag) (C : Addr) (m q : Str) (st : Stmt) : Prop := ∃ f fd, Meth K C m f ∧ Fun K m q st f fd
theorem metf {K : PySem.W.Frag} {C : Addr} {m q : Str} {st : Stmt} {f : Addr} {od an : Option Addr} {sl : Array (Option Value)} {oc kV dc pm cd ct : Value} (a : PySem.W.findIn K (.ref C) m = some (some (.ref f))) (i : PySem.W.isFn K (.ref f) = true)
    (l : K.lookup f = some ⟨oc, od, .func (PySem.W.fnOf m q (defArgs st) (defBody st) (defScope st) .none kV dc pm an cd ct), sl⟩) (c : PySem.W.codeIn K cd q = true) (k : PySem.W.keepIn K (.ref f) = true) : MetF K C m q st := ⟨f, _, ⟨a, i, k⟩, fun_mk l c k⟩
/-- an error's __init__, as written -/
def IniF (P : Program) (K : PySem.W.Frag) (q : Str) (st : Stmt) (D f : Addr) : Prop := ∃ (oc : Value) (od : Option Addr) (kV doc pm : Value) (an : Option Addr) (cda : Addr) (ct : Value) (osl : Array (Option Value)) (cc : Addr), K.lookup f = some ⟨oc, od, .func (PySem.W.ksFn "__init__" q (defArgs st) (defBody st) (defScope st) .none kV doc pm an (.ref cda) ct cc), osl⟩ ∧ PySem.W.codeIn K (.ref cda) q = true ∧
  (∃ (ccl : Value) (cdd : Option Addr) (vs : Array Value) (ccs : Array (Option Value)) (file : Str) (tf : Tok), K.lookup cda = some ⟨ccl, cdd, .fields vs, ccs⟩ ∧ vs[2]? = some (.str file tf) ∧ ((P.main.file : Str) == file) = true) ∧ ∃ (cl : Value) (cld : Option Addr) (csl : Array (Option Value)), K.lookup cc = some ⟨cl, cld, .cell (some (.ref D)), csl⟩
theorem inif {P : Program} {K : PySem.W.Frag} {q : Str} {st : Stmt} {D f cda cc : Addr} {oc kV doc pm ct ccl cl : Value} {od an cdd cld : Option Addr} {osl ccs csl : Array (Option Value)} {vs : Array Value} {file : Str} {tf : Tok}
    (l : K.lookup f = some ⟨oc, od, .func (PySem.W.ksFn "__init__" q (defArgs st) (defBody st) (defScope st) .none kV doc pm an (.ref cda) ct cc), osl⟩) (c : PySem.W.codeIn K (.ref cda) q = true) (kc : K.lookup cda = some ⟨ccl, cdd, .fields vs, ccs⟩) (h2 : vs[2]? = some (.str file tf)) (hf : ((P.main.file : Str) == file) = true)
    (k : K.lookup cc = some ⟨cl, cld, .cell (some (.ref D)), csl⟩) : IniF P K q st D f := ⟨_, _, _, _, _, _, _, _, _, _, l, c, ⟨_, _, _, _, _, _, kc, h2, hf⟩, _, _, _, k⟩
theorem IniF.mk {P : Program} {K : PySem.W.Frag} {mg : Str → Option Value} {q : Str} {st : Stmt} {D f : Addr} (h : IniF P K q st D f) (dk : ∃ cd, PySem.W.clsIn K D = some cd) (ms : mg "super" = none) (tp : (P.main.scope.names.lookup ("super" : Str)).isSome = false) : ∃ fd, InitF P K mg q st f D fd := by
  obtain ⟨oc, od, kV, doc, pm, an, cda, ct, osl, cc, l, c, x, y⟩ := h
  exact ⟨_, ⟨oc, od, kV, doc, pm, an, cda, ct, osl, cc, rfl, l, c, x, y⟩, dk, ms, tp⟩
/-- a pair of the top that stands for a fraction -/
def PairF (K : PySem.W.Frag) (x : Str) (a : Addr) (q : Rat) : Prop := PySem.W.nsIn K mainGlobals x = some (some (.ref a)) ∧ ∀ H, Fr K H (.ref a) q
theorem pairf {K : PySem.W.Frag} {x : Str} {a : Addr} {i : Int} {o : Obj} {t1 t2 : Tok} {n : Nat} (h : PySem.W.nsIn K mainGlobals x = some (some (.ref a))) (l : K.lookup a = some o) (hc : o.cls = .type "tuple") (hd : o.data = .seq #[.int i t1, .int 1 t2] n) : PairF K x a (i : Rat) := by
  refine ⟨h, fun H => ⟨a, rfl, ?_⟩⟩
  exact Or.inr ⟨o, #[.int i t1, .int 1 t2], n, l, hc, hd, by show 2 ≤ sizeLine; decide, .cons ⟨_, rfl⟩ (.cons ⟨_, rfl⟩ .nil)⟩
theorem all_runs {P : Program} {w : World} {K : PySem.W.Frag} {h base : Heap} {mg : Str → Option Value} {fa C CV CN fV fN z o a : Addr} {ns : List Int} {s : Shared} {H : Hp} (X : K.In h) (G : h.Ns mainGlobals mg) (hfa : mg "law" = some (.ref fa))
    (F_common_divisor : TopF K "common_divisor" sCommon)
    (F_fraction : TopF K "fraction" sFraction)
    (F_plus : TopF K "plus" sPlus)
    (F_minus : TopF K "minus" sMinus)
    (F_times : TopF K "times" sTimes)
    (F_over : TopF K "over" sOver)
    (F_less : TopF K "less" sLess)
    (F_total : TopF K "total" sTotal)
    (F_scalar : TopF K "scalar" sScalar)
    (F_signs_of : TopF K "signs_of" sSigns)
    (F_led_up : TopF K "led_up" sLed)
    (F_fitted : TopF K "fitted" sFitted)
    (F_least : TopF K "least" sLeast)
    (F__law_hand : TopF K "_law_hand" sLHand)
    (F__law_draw : TopF K "_law_draw" sLDraw)
    (F__law_common : TopF K "_law_common" sLCommon)
    (F__law_low : TopF K "_law_low" sLLow)
    (F__law_scalar : TopF K "_law_scalar" sLScal)
    (F__law_less : TopF K "_law_less" sLLess)
    (F__law_is_row : TopF K "_law_is_row" sLIsRow)
    (F__law_rows : TopF K "_law_rows" sLRows)
    (F__law_column : TopF K "_law_column" sLColumn)
    (F__law_judged : TopF K "_law_judged" sLJudged)
    (F__law_known_right : TopF K "_law_known_right" sLKnown)
    (F__law_none_right : TopF K "_law_none_right" sLNone)
    (F__law_endless_right : TopF K "_law_endless_right" sLEnd)
    (F__law_said : TopF K "_law_said" sLSaid)
    (F_law : TopF K "law" sLaw)
    (M_left : MetF K C "left" "Turns.left" sLeft)
    (M_improve : MetF K C "improve" "Turns.improve" sImprove)
    (M_turn : MetF K C "turn" "Turns.turn" sTurn)
    (M_settle : MetF K C "settle" "Turns.settle" sSettle)
    (M_amounts : MetF K C "amounts" "Turns.amounts" sAmounts)
    (M_factors : MetF K C "factors" "Turns.factors" sFactors)
    (M_init : MetF K C "__init__" "Turns.__init__" sTInit)
    (aC : PySem.W.nsIn K mainGlobals "Turns" = some (some (.ref C))) (aV : PySem.W.nsIn K mainGlobals "VerdictError" = some (some (.ref CV))) (aN : PySem.W.nsIn K mainGlobals "NoFraction" = some (some (.ref CN)))
    (T : Tx K C) (mkC : PySem.W.makesIn K C = true) (kpC : PySem.W.keepIn K (.ref C) = true)
    (IV : IniF P K "VerdictError.__init__" sVInit CV fV) (IN : IniF P K "NoFraction.__init__" sNInit CN fN) (dV : ∃ cd, PySem.W.clsIn K CV = some cd) (dN : ∃ cd, PySem.W.clsIn K CN = some cd) (tp : (P.main.scope.names.lookup ("super" : Str)).isSome = false)
    (EF : ErrF P K CV CN fV fN) (IC : IsC K CN) (xm : PySem.W.exmOne K (.ref CN) (.ref CV) = some true) (kN : PySem.W.kitOne K (.ref CN) (.ref CN) = some true) (kV : PySem.W.kitOne K (.ref CN) (.type "ValueError") = some true)
    (pz : PairF K "ZERO" z ((0 : Int) : Rat)) (po : PairF K "ONE" o ((1 : Int) : Rat))
    (z_abs : PySem.W.nsIn K mainGlobals "abs" = some none)
    (z_int : PySem.W.nsIn K mainGlobals "int" = some none)
    (z_len : PySem.W.nsIn K mainGlobals "len" = some none)
    (z_list : PySem.W.nsIn K mainGlobals "list" = some none)
    (z_tuple : PySem.W.nsIn K mainGlobals "tuple" = some none)
    (z_zip : PySem.W.nsIn K mainGlobals "zip" = some none)
    (z_range : PySem.W.nsIn K mainGlobals "range" = some none)
    (z_enumerate : PySem.W.nsIn K mainGlobals "enumerate" = some none)
    (z_any : PySem.W.nsIn K mainGlobals "any" = some none)
    (z_isinstance : PySem.W.nsIn K mainGlobals "isinstance" = some none)
    (z_ValueError : PySem.W.nsIn K mainGlobals "ValueError" = some none)
    (z_super : PySem.W.nsIn K mainGlobals "super" = some none)
    (z_repr : PySem.W.nsIn K mainGlobals "repr" = some none)
    (e : Env0 P w K mg base callerA [] s H) (hS : SqL K H a (ns.map V.int)) (hl : ns.length ≤ 63) : codeAny (model P w) callerA (.call (.ref fa) ⟨[.ref a], []⟩) (CR CX0 [] P w H s (fun v _ => v = .bl true) fun _ _ _ => False) s := by
  have E := fun {x : Str} {v : Value} (q : PySem.W.nsIn K mainGlobals x = some (some v)) => PySem.W.mg_of X G q
  have Z := fun {x : Str} (q : PySem.W.nsIn K mainGlobals x = some none) => PySem.W.mg_none_of X G q
  obtain ⟨f_common_divisor, d_common_divisor, n_common_divisor, F_common_divisor⟩ := F_common_divisor
  have b_common_divisor := F_common_divisor.binds (ps := ["one", "other"]) fun _ _ _ _ _ _ us hl => match us, hl with | [_, _], _ => rfl
  obtain ⟨f_fraction, d_fraction, n_fraction, F_fraction⟩ := F_fraction
  have b_fraction := F_fraction.binds (ps := ["top", "bottom"]) fun _ _ _ _ _ _ us hl => match us, hl with | [_, _], _ => rfl
  obtain ⟨f_plus, d_plus, n_plus, F_plus⟩ := F_plus
  have b_plus := F_plus.binds (ps := ["one", "other"]) fun _ _ _ _ _ _ us hl => match us, hl with | [_, _], _ => rfl
  obtain ⟨f_minus, d_minus, n_minus, F_minus⟩ := F_minus
  have b_minus := F_minus.binds (ps := ["one", "other"]) fun _ _ _ _ _ _ us hl => match us, hl with | [_, _], _ => rfl
  obtain ⟨f_times, d_times, n_times, F_times⟩ := F_times
  have b_times := F_times.binds (ps := ["one", "other"]) fun _ _ _ _ _ _ us hl => match us, hl with | [_, _], _ => rfl
  obtain ⟨f_over, d_over, n_over, F_over⟩ := F_over
  have b_over := F_over.binds (ps := ["one", "other"]) fun _ _ _ _ _ _ us hl => match us, hl with | [_, _], _ => rfl
  obtain ⟨f_less, d_less, n_less, F_less⟩ := F_less
  have b_less := F_less.binds (ps := ["one", "other"]) fun _ _ _ _ _ _ us hl => match us, hl with | [_, _], _ => rfl
  obtain ⟨f_total, d_total, n_total, F_total⟩ := F_total
  have b_total := F_total.binds (ps := ["some"]) fun _ _ _ _ _ _ us hl => match us, hl with | [_], _ => rfl
  obtain ⟨f_scalar, d_scalar, n_scalar, F_scalar⟩ := F_scalar
  have b_scalar := F_scalar.binds (ps := ["one", "other"]) fun _ _ _ _ _ _ us hl => match us, hl with | [_, _], _ => rfl
  obtain ⟨f_signs_of, d_signs_of, n_signs_of, F_signs_of⟩ := F_signs_of
  have b_signs_of := F_signs_of.binds (ps := ["numbers"]) fun _ _ _ _ _ _ us hl => match us, hl with | [_], _ => rfl
  obtain ⟨f_led_up, d_led_up, n_led_up, F_led_up⟩ := F_led_up
  have b_led_up := F_led_up.binds (ps := ["rows", "numbers"]) fun _ _ _ _ _ _ us hl => match us, hl with | [_, _], _ => rfl
  obtain ⟨f_fitted, d_fitted, n_fitted, F_fitted⟩ := F_fitted
  have b_fitted := F_fitted.binds (ps := ["rows", "numbers"]) fun _ _ _ _ _ _ us hl => match us, hl with | [_, _], _ => rfl
  obtain ⟨f_least, d_least, n_least, F_least⟩ := F_least
  have b_least := F_least.binds (ps := ["rows", "numbers", "costs"]) fun _ _ _ _ _ _ us hl => match us, hl with | [_, _, _], _ => rfl
  obtain ⟨f__law_hand, d__law_hand, n__law_hand, F__law_hand⟩ := F__law_hand
  have b__law_hand := F__law_hand.binds (ps := ["script"]) fun _ _ _ _ _ _ us hl => match us, hl with | [_], _ => rfl
  obtain ⟨f__law_draw, d__law_draw, n__law_draw, F__law_draw⟩ := F__law_draw
  have b__law_draw := F__law_draw.binds (ps := ["hand", "below"]) fun _ _ _ _ _ _ us hl => match us, hl with | [_, _], _ => rfl
  obtain ⟨f__law_common, d__law_common, n__law_common, F__law_common⟩ := F__law_common
  have b__law_common := F__law_common.binds (ps := ["one", "other"]) fun _ _ _ _ _ _ us hl => match us, hl with | [_, _], _ => rfl
  obtain ⟨f__law_low, d__law_low, n__law_low, F__law_low⟩ := F__law_low
  have b__law_low := F__law_low.binds (ps := ["top", "bottom"]) fun _ _ _ _ _ _ us hl => match us, hl with | [_, _], _ => rfl
  obtain ⟨f__law_scalar, d__law_scalar, n__law_scalar, F__law_scalar⟩ := F__law_scalar
  have b__law_scalar := F__law_scalar.binds (ps := ["one", "other"]) fun _ _ _ _ _ _ us hl => match us, hl with | [_, _], _ => rfl
  obtain ⟨f__law_less, d__law_less, n__law_less, F__law_less⟩ := F__law_less
  have b__law_less := F__law_less.binds (ps := ["one", "other"]) fun _ _ _ _ _ _ us hl => match us, hl with | [_, _], _ => rfl
  obtain ⟨f__law_is_row, d__law_is_row, n__law_is_row, F__law_is_row⟩ := F__law_is_row
  have b__law_is_row := F__law_is_row.binds (ps := ["thing", "many"]) fun _ _ _ _ _ _ us hl => match us, hl with | [_, _], _ => rfl
  obtain ⟨f__law_rows, d__law_rows, n__law_rows, F__law_rows⟩ := F__law_rows
  have b__law_rows := F__law_rows.binds (ps := ["hand", "long", "many"]) fun _ _ _ _ _ _ us hl => match us, hl with | [_, _, _], _ => rfl
  obtain ⟨f__law_column, d__law_column, n__law_column, F__law_column⟩ := F__law_column
  have b__law_column := F__law_column.binds (ps := ["rows", "at"]) fun _ _ _ _ _ _ us hl => match us, hl with | [_, _], _ => rfl
  obtain ⟨f__law_judged, d__law_judged, n__law_judged, F__law_judged⟩ := F__law_judged
  have b__law_judged := F__law_judged.binds (ps := ["rows", "numbers", "costs", "told"]) fun _ _ _ _ _ _ us hl => match us, hl with | [_, _, _, _], _ => rfl
  obtain ⟨f__law_known_right, d__law_known_right, n__law_known_right, F__law_known_right⟩ := F__law_known_right
  have b__law_known_right := F__law_known_right.binds (ps := ["hand"]) fun _ _ _ _ _ _ us hl => match us, hl with | [_], _ => rfl
  obtain ⟨f__law_none_right, d__law_none_right, n__law_none_right, F__law_none_right⟩ := F__law_none_right
  have b__law_none_right := F__law_none_right.binds (ps := ["hand"]) fun _ _ _ _ _ _ us hl => match us, hl with | [_], _ => rfl
  obtain ⟨f__law_endless_right, d__law_endless_right, n__law_endless_right, F__law_endless_right⟩ := F__law_endless_right
  have b__law_endless_right := F__law_endless_right.binds (ps := ["hand"]) fun _ _ _ _ _ _ us hl => match us, hl with | [_], _ => rfl
  obtain ⟨f__law_said, d__law_said, n__law_said, F__law_said⟩ := F__law_said
  have b__law_said := F__law_said.binds (ps := ["rows", "numbers", "costs"]) fun _ _ _ _ _ _ us hl => match us, hl with | [_, _, _], _ => rfl
  obtain ⟨f_law, d_law, n_law, F_law⟩ := F_law
  have b_law := F_law.binds (ps := ["script"]) fun _ _ _ _ _ _ us hl => match us, hl with | [_], _ => rfl
  have e0 := hfa.symm.trans (E n_law)
  cases e0
  obtain ⟨g_left, r_left, m_left, M_left⟩ := M_left
  have c_left := M_left.binds (ps := ["self", "costs"]) fun _ _ _ _ _ _ us hl => match us, hl with | [_, _], _ => rfl
  obtain ⟨g_improve, r_improve, m_improve, M_improve⟩ := M_improve
  have c_improve := M_improve.binds (ps := ["self", "costs", "most"]) fun _ _ _ _ _ _ us hl => match us, hl with | [_, _, _], _ => rfl
  obtain ⟨g_turn, r_turn, m_turn, M_turn⟩ := M_turn
  have c_turn := M_turn.binds (ps := ["self", "at", "column"]) fun _ _ _ _ _ _ us hl => match us, hl with | [_, _, _], _ => rfl
  obtain ⟨g_settle, r_settle, m_settle, M_settle⟩ := M_settle
  have c_settle := M_settle.binds (ps := ["self"]) fun _ _ _ _ _ _ us hl => match us, hl with | [_], _ => rfl
  obtain ⟨g_amounts, r_amounts, m_amounts, M_amounts⟩ := M_amounts
  have c_amounts := M_amounts.binds (ps := ["self"]) fun _ _ _ _ _ _ us hl => match us, hl with | [_], _ => rfl
  obtain ⟨g_factors, r_factors, m_factors, M_factors⟩ := M_factors
  have c_factors := M_factors.binds (ps := ["self", "costs"]) fun _ _ _ _ _ _ us hl => match us, hl with | [_, _], _ => rfl
  obtain ⟨g_init, r_init, m_init, M_init⟩ := M_init
  have c_init := M_init.binds (ps := ["self", "rows", "numbers"]) fun _ _ _ _ _ _ us hl => match us, hl with | [_, _, _], _ => rfl
  obtain ⟨d_V, IV⟩ := IV.mk dV (Z z_super) tp (mg := mg)
  obtain ⟨d_N, IN⟩ := IN.mk dN (Z z_super) tp (mg := mg)
  have fz : ∀ H, Fr K H (.ref z) 0 := pz.2
  have fo : ∀ H, Fr K H (.ref o) 1 := po.2
  have mz := E pz.1
  have mo := E po.1
  have D_common_divisor : Df P w K mg base CX0 1 "common_divisor" ["one", "other"] spCommon := ⟨f_common_divisor, d_common_divisor, ok_common F_common_divisor (Z z_abs) (Z z_int), E n_common_divisor, F_common_divisor.kp, b_common_divisor⟩
  have D_fraction : Df P w K mg base CX0 2 "fraction" ["top", "bottom"] (spFraction K) := ⟨f_fraction, d_fraction, ok_fraction F_fraction D_common_divisor, E n_fraction, F_fraction.kp, b_fraction⟩
  have D_plus : Df P w K mg base CX0 3 "plus" ["one", "other"] (spBin K (fun _ _ => True) fun p q => p + q) := ⟨f_plus, d_plus, ok_plus F_plus D_fraction, E n_plus, F_plus.kp, b_plus⟩
  have D_minus : Df P w K mg base CX0 3 "minus" ["one", "other"] (spBin K (fun _ _ => True) fun p q => p - q) := ⟨f_minus, d_minus, ok_minus F_minus D_fraction, E n_minus, F_minus.kp, b_minus⟩
  have D_times : Df P w K mg base CX0 3 "times" ["one", "other"] (spBin K (fun _ _ => True) fun p q => p * q) := ⟨f_times, d_times, ok_times F_times D_fraction, E n_times, F_times.kp, b_times⟩
  have D_over : Df P w K mg base CX0 3 "over" ["one", "other"] (spBin K (fun _ q => q ≠ 0) fun p q => p / q) := ⟨f_over, d_over, ok_over F_over D_fraction, E n_over, F_over.kp, b_over⟩
  have D_less : Df P w K mg base CX0 1 "less" ["one", "other"] (spLess K) := ⟨f_less, d_less, ok_less F_less, E n_less, F_less.kp, b_less⟩
  have D_total : Df P w K mg base CX0 4 "total" ["some"] (spTotal K) := ⟨f_total, d_total, ok_total F_total D_plus mz fz, E n_total, F_total.kp, b_total⟩
  have D_scalar : Df P w K mg base CX0 5 "scalar" ["one", "other"] (spScalar K) := ⟨f_scalar, d_scalar, ok_scalar F_scalar D_times D_total (Z z_zip), E n_scalar, F_scalar.kp, b_scalar⟩
  have D_left : Dm P w K mg base C 4 "left" ["self", "costs"] (spLeft K C) := ⟨g_left, r_left, ok_left M_left T D_minus D_times mz fz (Z z_list) (Z z_enumerate) (Z z_zip), m_left, c_left⟩
  have D_turn : Dm P w K mg base C 4 "turn" ["self", "at", "column"] (spTurn K C) := ⟨g_turn, r_turn, ok_turn M_turn T D_minus D_times D_over (Z z_enumerate) (Z z_zip), m_turn, c_turn⟩
  have D_improve : Dm P w K mg base C 5 "improve" ["self", "costs", "most"] (spImprove K C) := ⟨g_improve, r_improve, ok_improve M_improve T D_left D_turn D_over D_less (Z z_range), m_improve, c_improve⟩
  have D_settle : Dm P w K mg base C 5 "settle" ["self"] (spSettle K C) := ⟨g_settle, r_settle, ok_settle M_settle T D_turn (Z z_range), m_settle, c_settle⟩
  have D_amounts : Dm P w K mg base C 1 "amounts" ["self"] (spAmounts K C) := ⟨g_amounts, r_amounts, ok_amounts M_amounts T mz fz (Z z_enumerate) (Z z_tuple), m_amounts, c_amounts⟩
  have D_factors : Dm P w K mg base C 5 "factors" ["self", "costs"] (spFactors K C) := ⟨g_factors, r_factors, ok_factors M_factors T D_left D_minus (Z z_range) (Z z_tuple), m_factors, c_factors⟩
  have D_Turns : Dk P w K mg base C 1 "Turns" ["self", "rows", "numbers"] (spTInit K C) := ⟨g_init, r_init, ok_tinit M_init T mz fz mo fo (Z z_len) (Z z_enumerate) (Z z_list) (Z z_range), ⟨mkC, m_init.at_, m_init.fn, kpC⟩, E aC, c_init⟩
  have D_signs_of : Df P w K mg base CX0 1 "signs_of" ["numbers"] (spSigns K) := ⟨f_signs_of, d_signs_of, ok_signs F_signs_of mo fo, E n_signs_of, F_signs_of.kp, b_signs_of⟩
  have D_led_up : Df P w K mg base CX0 4 "led_up" ["rows", "numbers"] (spLed K) := ⟨f_led_up, d_led_up, ok_led F_led_up D_signs_of D_times (Z z_zip), E n_led_up, F_led_up.kp, b_led_up⟩
  have D_fitted : Df P w K mg base CX0 6 "fitted" ["rows", "numbers"] (spFitted K) := ⟨f_fitted, d_fitted, ok_fitted F_fitted T D_led_up D_Turns D_improve D_left D_amounts D_factors D_signs_of D_times mz fz mo fo (Z z_len) (Z z_zip) (Z z_tuple), E n_fitted, F_fitted.kp, b_fitted⟩
  have FV := ok_vinit (w := w) (base := base) IV EF
  have bV : Binds K d_V ["self", "word"] [] := by
    obtain ⟨oc, od, kV, doc, pm, an, cda, ct, osl, cc, rfl, _⟩ := IV.ex
    exact .all fun us hl => match us, hl with | [_, _], _ => rfl
  have bN : Binds K d_N ["self"] [] := by
    obtain ⟨oc, od, kV, doc, pm, an, cda, ct, osl, cc, rfl, _⟩ := IN.ex
    exact .all fun us hl => match us, hl with | [_], _ => rfl
  have FN := ok_ninit IN EF FV bV
  have D_least : Df P w K mg base (L2.CX P w) 6 "least" ["rows", "numbers", "costs"] (spLeast K CN) := ⟨f_least, d_least, ok_least F_least T D_led_up D_Turns D_improve D_left D_amounts D_factors D_settle D_signs_of D_times D_scalar EF FN bN (E aN) mz fz mo fo (Z z_len) (Z z_zip) (Z z_tuple) (Z z_list), E n_least, F_least.kp, b_least⟩
  have D__law_hand : Df P w K mg base CX0 1 "_law_hand" ["script"] (spHand K) := ⟨f__law_hand, d__law_hand, ok_lhand F__law_hand (Z z_abs) (Z z_int) (Z z_len), E n__law_hand, F__law_hand.kp, b__law_hand⟩
  have D__law_draw : Df P w K mg base CX0 1 "_law_draw" ["hand", "below"] spDraw := ⟨f__law_draw, d__law_draw, ok_ldraw F__law_draw (Z z_int) (Z z_len), E n__law_draw, F__law_draw.kp, b__law_draw⟩
  have D__law_common : Df P w K mg base CX0 1 "_law_common" ["one", "other"] spCommon := ⟨f__law_common, d__law_common, ok_lcommon F__law_common (Z z_abs) (Z z_int), E n__law_common, F__law_common.kp, b__law_common⟩
  have D__law_low : Df P w K mg base CX0 2 "_law_low" ["top", "bottom"] (spLow K) := ⟨f__law_low, d__law_low, ok_llow F__law_low D__law_common, E n__law_low, F__law_low.kp, b__law_low⟩
  have D__law_scalar : Df P w K mg base CX0 3 "_law_scalar" ["one", "other"] (spLScal K) := ⟨f__law_scalar, d__law_scalar, ok_lscal F__law_scalar D__law_low (Z z_zip), E n__law_scalar, F__law_scalar.kp, b__law_scalar⟩
  have D__law_less : Df P w K mg base CX0 1 "_law_less" ["one", "other"] (spLLess K) := ⟨f__law_less, d__law_less, ok_lless F__law_less, E n__law_less, F__law_less.kp, b__law_less⟩
  have D__law_is_row : Df P w K mg base CX0 2 "_law_is_row" ["thing", "many"] (spIsRow K) := ⟨f__law_is_row, d__law_is_row, ok_lisrow F__law_is_row D__law_common (Z z_isinstance) (Z z_tuple) (Z z_len), E n__law_is_row, F__law_is_row.kp, b__law_is_row⟩
  have D__law_rows : Df P w K mg base CX0 3 "_law_rows" ["hand", "long", "many"] (spRows K) := ⟨f__law_rows, d__law_rows, ok_lrows F__law_rows D__law_draw D__law_low (Z z_range) (Z z_tuple), E n__law_rows, F__law_rows.kp, b__law_rows⟩
  have D__law_column : Df P w K mg base CX0 1 "_law_column" ["rows", "at"] (spColumn K) := ⟨f__law_column, d__law_column, ok_lcolumn F__law_column, E n__law_column, F__law_column.kp, b__law_column⟩
  have D__law_judged : Df P w K mg base CX0 4 "_law_judged" ["rows", "numbers", "costs", "told"] (spJudged K) := ⟨f__law_judged, d__law_judged, ok_ljudged F__law_judged D__law_is_row D__law_scalar D__law_less D__law_column (Z z_isinstance) (Z z_tuple) (Z z_len) (Z z_any) (Z z_range), E n__law_judged, F__law_judged.kp, b__law_judged⟩
  have D__law_known_right : Df P w K mg base CX0 7 "_law_known_right" ["hand"] spPart := ⟨f__law_known_right, d__law_known_right, ok_lknown F__law_known_right D__law_draw D__law_low D__law_rows D__law_scalar D_least D__law_judged D__law_less D_fitted D_scalar D_less D_times (Z z_range) (Z z_tuple), E n__law_known_right, F__law_known_right.kp, b__law_known_right⟩
  have D__law_none_right : Df P w K mg base CX0 7 "_law_none_right" ["hand"] spPart := ⟨f__law_none_right, d__law_none_right, ok_lnone F__law_none_right D__law_draw D__law_rows D_least D_fitted (Z z_range) (Z z_tuple), E n__law_none_right, F__law_none_right.kp, b__law_none_right⟩
  have D__law_said : Df P w K mg base CX0 7 "_law_said" ["rows", "numbers", "costs"] (spSaid K) := ⟨f__law_said, d__law_said, ok_lsaid F__law_said D_least D__law_judged (E aV) (E aN) (Z z_isinstance) (Z z_ValueError) IC xm kN kV, E n__law_said, F__law_said.kp, b__law_said⟩
  have D__law_endless_right : Df P w K mg base CX0 8 "_law_endless_right" ["hand"] spPart := ⟨f__law_endless_right, d__law_endless_right, ok_lend F__law_endless_right D__law_draw D__law_rows D__law_scalar D__law_said (Z z_range) (Z z_tuple), E n__law_endless_right, F__law_endless_right.kp, b__law_endless_right⟩
  exact law_runs F_law D__law_hand D_least D__law_known_right D__law_none_right D__law_endless_right (Z z_range) (Z z_repr) (by
    obtain ⟨oc, od, kV, doc, pm, an, cdv, ct, osl, rfl, _⟩ := F_law.ex
    exact .of_eq rfl) e hS hl
theorem walk1 {l : PySem.W.OpenLaw} {q : Program} {loose : List Str} {XP : (Str → Option Value) → Heap → Prop} {YP : World → Heap → Prop} {d : DefRec} {K : Params → PySem.W.Frag} (hn : l.most = some 63) (hdf : d.params.defaults = []) (hY : ∀ (w : World) (h : Heap), YP w h → (K w.params).In h)
    (F : ∀ (w : World) (mg : Str → Option Value) (fa : Addr) (h : Heap), (K w.params).In h → h.Ns mainGlobals mg → mg d.name = some (.ref fa) → ∀ (base : Heap) (s : Shared) (H : Hp) (a : Addr) (ns : List Int), Env0 l.prog w (K w.params) mg base callerA [] s H → SqL (K w.params) H a (ns.map V.int) → ns.length ≤ 63 →
      codeAny (model l.prog w) callerA (.call (.ref fa) ⟨[.ref a], []⟩) (CR CX0 [] l.prog w H s (fun v _ => v = .bl true) fun _ _ _ => False) s) : PySem.W.WalkO q loose XP YP l.row.toRowW d [] (fun f vs => PySem.call f vs) := by
  refine Att.attach_call hn hdf fun w s0 s1 mg mb fa o pm cd doc a vs ns G Y ho hd hcd hmg hobj hints hlen hg => ?_
  exact law_once (hY w _ Y) G.T.g G.T.b G.T.builtins G.T.nolimit hg hobj hints (Nat.le_of_lt (small1000 (by omega))) fun base H _ _ hS e => F w mg fa _ (hY w _ Y) G.T.g hmg base s1 H a ns e hS hlen
theorem tx_mk {K : PySem.W.Frag} {C : Addr} (pg : PySem.W.plainGet K C Str.empty = true) (hd : PySem.W.hasDictIn K C = true) (po : PySem.W.plainOver K C = true) (sa : PySem.W.findIn K (.ref C) "__setattr__" = some (some (.builtin "object.__setattr__")))
    (nH : PySem.W.findIn K (.ref C) "high" = some none) (nM : PySem.W.findIn K (.ref C) "many" = some none) (nR : PySem.W.findIn K (.ref C) "rows" = some none) (nB : PySem.W.findIn K (.ref C) "base" = some none) : Tx K C := ⟨⟨pg, hd, po, sa⟩, nH, nM, nR, nB⟩
theorem oex_mk {K : PySem.W.Frag} {C N : Addr} {nm q : Str} {bs bm sub : List Value} {sn : List Str} {ab : Bool} {col : Option Bool} {dd : Option Addr} {k0 k1 k2 k3 k5 : Option Value} (xL : K.lookup C = some (excClassObj nm q C N bs bm true sn sub ab col dd k0 k1 k2 k3 k5 "ValueError.__new__")) (rb : PySem.HandSPX.refsVE bm = true)
    (sa : PySem.W.findIn K (.ref C) "__setattr__" = some (some (.builtin "object.__setattr__"))) (eC : PySem.W.subIn K (.ref C) (.type "BaseException") = some true) (tC : PySem.W.typeIn K (.ref C) = some (.type "type")) (kC : PySem.W.keepIn K (.ref C) = true) : OexC K C :=
  ⟨⟨nm, q, N, bs, bm, sn, sub, ab, col, dd, k0, k1, k2, k3, k5, xL, rb⟩, sa, eC, tC, kC⟩
theorem some_cls {K : PySem.W.Frag} {C : Addr} (h : PySem.W.isClsIn K C = true) : ∃ cd, PySem.W.clsIn K C = some cd := Option.isSome_iff_exists.mp h
theorem isc_mk {K : PySem.W.Frag} {D : Addr} (cl : PySem.W.isClsIn K D = true) (ga : PySem.W.findIn K (.ref D) "__getattribute__" = some (some (.builtin "BaseException.__getattribute__"))) (gt : PySem.W.findIn K (.ref D) "__getattr__" = some none) (sb : PySem.W.subIn K (.ref D) (.type "BaseException") = some true)
    (ca : PySem.W.findIn K (.ref D) "__class__" = some (some (.builtin "object.__class__"))) (sp : PySem.W.specialIn K (.builtin "object.__class__") "__get__" = some (some (.builtin "getset_descriptor.__get__"))) (tk : PySem.W.takesIn K (.builtin "object.__class__") = some true) (ob : PySem.W.mroIn K D (.type "object") = some true) : IsC K D := ⟨cl, ga, gt, sb, ca, sp, tk, ob⟩
theorem pair_mk {K : PySem.W.Frag} {x : Str} {a : Addr} {i : Int} {od : Option Addr} {sl : Array (Option Value)} {t1 t2 : Tok} {n : Nat} (h : PySem.W.nsIn K mainGlobals x = some (some (.ref a))) (l : K.lookup a = some ⟨.type "tuple", od, .seq #[.int i t1, .int 1 t2] n, sl⟩) : PairF K x a (i : Rat) := pairf h l rfl rfl
end K1
open PySem PySem.W PyProof.Rows
set_option maxRecDepth 100000 in
set_option maxHeartbeats 0 in
theorem PySem.Challenge.cw_oneverdict_k01_whole_least_costs_holds : PySem.Challenge.rw_oneverdict_k01_whole_least_costs.Holds := by
  w_on; o_law; k_head; (case hw => w_witness2)
  k_fill
  refine K1.walk1 (l := PySem.Challenge.rw_oneverdict_k01_whole_least_costs) rfl rfl (fun w h Y => PySem.W.kIn_of Y) ?F
  case F =>
    intro w mg fa h KX G hmg base s H a ns e hS hl
    refine' K1.all_runs KX G hmg ?F_common_divisor ?F_fraction ?F_plus ?F_minus ?F_times ?F_over ?F_less ?F_total ?F_scalar ?F_signs_of ?F_led_up ?F_fitted ?F_least ?F__law_hand ?F__law_draw ?F__law_common ?F__law_low ?F__law_scalar ?F__law_less ?F__law_is_row ?F__law_rows ?F__law_column ?F__law_judged ?F__law_known_right ?F__law_none_right ?F__law_endless_right ?F__law_said ?F_law ?M_left ?M_improve ?M_turn ?M_settle ?M_amounts ?M_factors ?M_init ?aC ?aV ?aN ?T ?mkC ?kpC ?IV ?IN ?dV ?dN ?tp ?EF ?IC ?xm ?kN ?kV ?pz ?po ?z_abs ?z_int ?z_len ?z_list ?z_tuple ?z_zip ?z_range ?z_enumerate ?z_any ?z_isinstance ?z_ValueError ?z_super ?z_repr e hS hl
    case aC => first | k_is | ks_is | rfl | kernel_rfl
    case aV => first | k_is | ks_is | rfl | kernel_rfl
    case aN => first | k_is | ks_is | rfl | kernel_rfl
    case F_common_divisor =>
      refine' K1.topf ?a ?l ?c ?k
      (case a => first | k_is | ks_is | rfl | kernel_rfl); (case l => first | k_is | ks_is | rfl | kernel_rfl); (case c => first | k_is | ks_is | rfl | kernel_rfl); (case k => first | k_is | ks_is | rfl | kernel_rfl)
    case F_fraction =>
      refine' K1.topf ?a ?l ?c ?k
      (case a => first | k_is | ks_is | rfl | kernel_rfl); (case l => first | k_is | ks_is | rfl | kernel_rfl); (case c => first | k_is | ks_is | rfl | kernel_rfl); (case k => first | k_is | ks_is | rfl | kernel_rfl)
    case F_plus =>
      refine' K1.topf ?a ?l ?c ?k
      (case a => first | k_is | ks_is | rfl | kernel_rfl); (case l => first | k_is | ks_is | rfl | kernel_rfl); (case c => first | k_is | ks_is | rfl | kernel_rfl); (case k => first | k_is | ks_is | rfl | kernel_rfl)
    case F_minus =>
      refine' K1.topf ?a ?l ?c ?k
      (case a => first | k_is | ks_is | rfl | kernel_rfl); (case l => first | k_is | ks_is | rfl | kernel_rfl); (case c => first | k_is | ks_is | rfl | kernel_rfl); (case k => first | k_is | ks_is | rfl | kernel_rfl)
    case F_times =>
      refine' K1.topf ?a ?l ?c ?k
      (case a => first | k_is | ks_is | rfl | kernel_rfl); (case l => first | k_is | ks_is | rfl | kernel_rfl); (case c => first | k_is | ks_is | rfl | kernel_rfl); (case k => first | k_is | ks_is | rfl | kernel_rfl)
    case F_over =>
      refine' K1.topf ?a ?l ?c ?k
      (case a => first | k_is | ks_is | rfl | kernel_rfl); (case l => first | k_is | ks_is | rfl | kernel_rfl); (case c => first | k_is | ks_is | rfl | kernel_rfl); (case k => first | k_is | ks_is | rfl | kernel_rfl)
    case F_less =>
      refine' K1.topf ?a ?l ?c ?k
      (case a => first | k_is | ks_is | rfl | kernel_rfl); (case l => first | k_is | ks_is | rfl | kernel_rfl); (case c => first | k_is | ks_is | rfl | kernel_rfl); (case k => first | k_is | ks_is | rfl | kernel_rfl)
    case F_total =>
      refine' K1.topf ?a ?l ?c ?k
      (case a => first | k_is | ks_is | rfl | kernel_rfl); (case l => first | k_is | ks_is | rfl | kernel_rfl); (case c => first | k_is | ks_is | rfl | kernel_rfl); (case k => first | k_is | ks_is | rfl | kernel_rfl)
    case F_scalar =>
      refine' K1.topf ?a ?l ?c ?k
      (case a => first | k_is | ks_is | rfl | kernel_rfl); (case l => first | k_is | ks_is | rfl | kernel_rfl); (case c => first | k_is | ks_is | rfl | kernel_rfl); (case k => first | k_is | ks_is | rfl | kernel_rfl)
    case F_signs_of =>
      refine' K1.topf ?a ?l ?c ?k
      (case a => first | k_is | ks_is | rfl | kernel_rfl); (case l => first | k_is | ks_is | rfl | kernel_rfl); (case c => first | k_is | ks_is | rfl | kernel_rfl); (case k => first | k_is | ks_is | rfl | kernel_rfl)
    case F_led_up =>
      refine' K1.topf ?a ?l ?c ?k
      (case a => first | k_is | ks_is | rfl | kernel_rfl); (case l => first | k_is | ks_is | rfl | kernel_rfl); (case c => first | k_is | ks_is | rfl | kernel_rfl); (case k => first | k_is | ks_is | rfl | kernel_rfl)
    case F_fitted =>
      refine' K1.topf ?a ?l ?c ?k
      (case a => first | k_is | ks_is | rfl | kernel_rfl); (case l => first | k_is | ks_is | rfl | kernel_rfl); (case c => first | k_is | ks_is | rfl | kernel_rfl); (case k => first | k_is | ks_is | rfl | kernel_rfl)
    case F_least =>
      refine' K1.topf ?a ?l ?c ?k
      (case a => first | k_is | ks_is | rfl | kernel_rfl); (case l => first | k_is | ks_is | rfl | kernel_rfl); (case c => first | k_is | ks_is | rfl | kernel_rfl); (case k => first | k_is | ks_is | rfl | kernel_rfl)
    case F__law_hand =>
      refine' K1.topf ?a ?l ?c ?k
      (case a => first | k_is | ks_is | rfl | kernel_rfl); (case l => first | k_is | ks_is | rfl | kernel_rfl); (case c => first | k_is | ks_is | rfl | kernel_rfl); (case k => first | k_is | ks_is | rfl | kernel_rfl)
    case F__law_draw =>
      refine' K1.topf ?a ?l ?c ?k
      (case a => first | k_is | ks_is | rfl | kernel_rfl); (case l => first | k_is | ks_is | rfl | kernel_rfl); (case c => first | k_is | ks_is | rfl | kernel_rfl); (case k => first | k_is | ks_is | rfl | kernel_rfl)
    case F__law_common =>
      refine' K1.topf ?a ?l ?c ?k
      (case a => first | k_is | ks_is | rfl | kernel_rfl); (case l => first | k_is | ks_is | rfl | kernel_rfl); (case c => first | k_is | ks_is | rfl | kernel_rfl); (case k => first | k_is | ks_is | rfl | kernel_rfl)
    case F__law_low =>
      refine' K1.topf ?a ?l ?c ?k
      (case a => first | k_is | ks_is | rfl | kernel_rfl); (case l => first | k_is | ks_is | rfl | kernel_rfl); (case c => first | k_is | ks_is | rfl | kernel_rfl); (case k => first | k_is | ks_is | rfl | kernel_rfl)
    case F__law_scalar =>
      refine' K1.topf ?a ?l ?c ?k
      (case a => first | k_is | ks_is | rfl | kernel_rfl); (case l => first | k_is | ks_is | rfl | kernel_rfl); (case c => first | k_is | ks_is | rfl | kernel_rfl); (case k => first | k_is | ks_is | rfl | kernel_rfl)
    case F__law_less =>
      refine' K1.topf ?a ?l ?c ?k
      (case a => first | k_is | ks_is | rfl | kernel_rfl); (case l => first | k_is | ks_is | rfl | kernel_rfl); (case c => first | k_is | ks_is | rfl | kernel_rfl); (case k => first | k_is | ks_is | rfl | kernel_rfl)
    case F__law_is_row =>
      refine' K1.topf ?a ?l ?c ?k
      (case a => first | k_is | ks_is | rfl | kernel_rfl); (case l => first | k_is | ks_is | rfl | kernel_rfl); (case c => first | k_is | ks_is | rfl | kernel_rfl); (case k => first | k_is | ks_is | rfl | kernel_rfl)
    case F__law_rows =>
      refine' K1.topf ?a ?l ?c ?k
      (case a => first | k_is | ks_is | rfl | kernel_rfl); (case l => first | k_is | ks_is | rfl | kernel_rfl); (case c => first | k_is | ks_is | rfl | kernel_rfl); (case k => first | k_is | ks_is | rfl | kernel_rfl)
    case F__law_column =>
      refine' K1.topf ?a ?l ?c ?k
      (case a => first | k_is | ks_is | rfl | kernel_rfl); (case l => first | k_is | ks_is | rfl | kernel_rfl); (case c => first | k_is | ks_is | rfl | kernel_rfl); (case k => first | k_is | ks_is | rfl | kernel_rfl)
    case F__law_judged =>
      refine' K1.topf ?a ?l ?c ?k
      (case a => first | k_is | ks_is | rfl | kernel_rfl); (case l => first | k_is | ks_is | rfl | kernel_rfl); (case c => first | k_is | ks_is | rfl | kernel_rfl); (case k => first | k_is | ks_is | rfl | kernel_rfl)
    case F__law_known_right =>
      refine' K1.topf ?a ?l ?c ?k
      (case a => first | k_is | ks_is | rfl | kernel_rfl); (case l => first | k_is | ks_is | rfl | kernel_rfl); (case c => first | k_is | ks_is | rfl | kernel_rfl); (case k => first | k_is | ks_is | rfl | kernel_rfl)
    case F__law_none_right =>
      refine' K1.topf ?a ?l ?c ?k
      (case a => first | k_is | ks_is | rfl | kernel_rfl); (case l => first | k_is | ks_is | rfl | kernel_rfl); (case c => first | k_is | ks_is | rfl | kernel_rfl); (case k => first | k_is | ks_is | rfl | kernel_rfl)
    case F__law_endless_right =>
      refine' K1.topf ?a ?l ?c ?k
      (case a => first | k_is | ks_is | rfl | kernel_rfl); (case l => first | k_is | ks_is | rfl | kernel_rfl); (case c => first | k_is | ks_is | rfl | kernel_rfl); (case k => first | k_is | ks_is | rfl | kernel_rfl)
    case F__law_said =>
      refine' K1.topf ?a ?l ?c ?k
      (case a => first | k_is | ks_is | rfl | kernel_rfl); (case l => first | k_is | ks_is | rfl | kernel_rfl); (case c => first | k_is | ks_is | rfl | kernel_rfl); (case k => first | k_is | ks_is | rfl | kernel_rfl)
    case F_law =>
      refine' K1.topf ?a ?l ?c ?k
      (case a => first | k_is | ks_is | rfl | kernel_rfl); (case l => first | k_is | ks_is | rfl | kernel_rfl); (case c => first | k_is | ks_is | rfl | kernel_rfl); (case k => first | k_is | ks_is | rfl | kernel_rfl)
    case M_left =>
      refine' K1.metf ?a ?i ?l ?c ?k
      (case a => first | k_is | ks_is | rfl | kernel_rfl); (case i => first | k_is | ks_is | rfl | kernel_rfl); (case l => first | k_is | ks_is | rfl | kernel_rfl); (case c => first | k_is | ks_is | rfl | kernel_rfl); (case k => first | k_is | ks_is | rfl | kernel_rfl)
    case M_improve =>
      refine' K1.metf ?a ?i ?l ?c ?k
      (case a => first | k_is | ks_is | rfl | kernel_rfl); (case i => first | k_is | ks_is | rfl | kernel_rfl); (case l => first | k_is | ks_is | rfl | kernel_rfl); (case c => first | k_is | ks_is | rfl | kernel_rfl); (case k => first | k_is | ks_is | rfl | kernel_rfl)
    case M_turn =>
      refine' K1.metf ?a ?i ?l ?c ?k
      (case a => first | k_is | ks_is | rfl | kernel_rfl); (case i => first | k_is | ks_is | rfl | kernel_rfl); (case l => first | k_is | ks_is | rfl | kernel_rfl); (case c => first | k_is | ks_is | rfl | kernel_rfl); (case k => first | k_is | ks_is | rfl | kernel_rfl)
    case M_settle =>
      refine' K1.metf ?a ?i ?l ?c ?k
      (case a => first | k_is | ks_is | rfl | kernel_rfl); (case i => first | k_is | ks_is | rfl | kernel_rfl); (case l => first | k_is | ks_is | rfl | kernel_rfl); (case c => first | k_is | ks_is | rfl | kernel_rfl); (case k => first | k_is | ks_is | rfl | kernel_rfl)
    case M_amounts =>
      refine' K1.metf ?a ?i ?l ?c ?k
      (case a => first | k_is | ks_is | rfl | kernel_rfl); (case i => first | k_is | ks_is | rfl | kernel_rfl); (case l => first | k_is | ks_is | rfl | kernel_rfl); (case c => first | k_is | ks_is | rfl | kernel_rfl); (case k => first | k_is | ks_is | rfl | kernel_rfl)
    case M_factors =>
      refine' K1.metf ?a ?i ?l ?c ?k
      (case a => first | k_is | ks_is | rfl | kernel_rfl); (case i => first | k_is | ks_is | rfl | kernel_rfl); (case l => first | k_is | ks_is | rfl | kernel_rfl); (case c => first | k_is | ks_is | rfl | kernel_rfl); (case k => first | k_is | ks_is | rfl | kernel_rfl)
    case M_init =>
      refine' K1.metf ?a ?i ?l ?c ?k
      (case a => first | k_is | ks_is | rfl | kernel_rfl); (case i => first | k_is | ks_is | rfl | kernel_rfl); (case l => first | k_is | ks_is | rfl | kernel_rfl); (case c => first | k_is | ks_is | rfl | kernel_rfl); (case k => first | k_is | ks_is | rfl | kernel_rfl)
    case T =>
      refine' K1.tx_mk ?pg ?hd ?pv ?sa ?nH ?nM ?nR ?nB
      (case pg => first | k_is | ks_is | rfl | kernel_rfl); (case hd => first | k_is | ks_is | rfl | kernel_rfl); (case pv => first | k_is | ks_is | rfl | kernel_rfl); (case sa => first | k_is | ks_is | rfl | kernel_rfl); (case nH => first | k_is | ks_is | rfl | kernel_rfl); (case nM => first | k_is | ks_is | rfl | kernel_rfl); (case nR => first | k_is | ks_is | rfl | kernel_rfl); (case nB => first | k_is | ks_is | rfl | kernel_rfl)
    case mkC => first | k_is | ks_is | rfl | kernel_rfl
    case kpC => first | k_is | ks_is | rfl | kernel_rfl
    case EF =>
      refine' ⟨K1.oex_mk ?xL ?rb ?sa ?eC ?tC ?kC, ?wd, ?st, ?mV, ?mN, ?sV, ?sN, ?vE, ?tV, ?fnV, ?iN, ?tN⟩
      (case xL => first | k_is | ks_is | rfl | kernel_rfl); (case rb => decide +kernel); (case sa => first | k_is | ks_is | rfl | kernel_rfl); (case eC => first | k_is | ks_is | rfl | kernel_rfl); (case tC => first | k_is | ks_is | rfl | kernel_rfl); (case kC => first | k_is | ks_is | rfl | kernel_rfl); (case wd => first | k_is | ks_is | rfl | kernel_rfl); (case st => first | k_is | ks_is | rfl | kernel_rfl); (case mV => first | k_is | ks_is | rfl | kernel_rfl); (case mN => first | k_is | ks_is | rfl | kernel_rfl); (case sV => first | k_is | ks_is | rfl | kernel_rfl); (case sN => first | k_is | ks_is | rfl | kernel_rfl); (case vE => first | k_is | ks_is | rfl | kernel_rfl); (case tV => first | k_is | ks_is | rfl | kernel_rfl); (case fnV => first | k_is | ks_is | rfl | kernel_rfl); (case iN => first | k_is | ks_is | rfl | kernel_rfl); (case tN => first | k_is | ks_is | rfl | kernel_rfl)
    case IV =>
      refine' K1.inif ?l ?c ?kc ?h2 ?hf ?k
      (case l => first | k_is | ks_is | rfl | kernel_rfl); (case c => first | k_is | ks_is | rfl | kernel_rfl); (case kc => first | k_is | ks_is | rfl | kernel_rfl); (case h2 => rfl); (case hf => decide +kernel); (case k => first | k_is | ks_is | rfl | kernel_rfl)
    case IN =>
      refine' K1.inif ?l ?c ?kc ?h2 ?hf ?k
      (case l => first | k_is | ks_is | rfl | kernel_rfl); (case c => first | k_is | ks_is | rfl | kernel_rfl); (case kc => first | k_is | ks_is | rfl | kernel_rfl); (case h2 => rfl); (case hf => decide +kernel); (case k => first | k_is | ks_is | rfl | kernel_rfl)
    case dV => refine K1.some_cls ?_; first | k_is | ks_is | rfl | kernel_rfl
    case dN => refine K1.some_cls ?_; first | k_is | ks_is | rfl | kernel_rfl
    case tp => decide +kernel
    case IC =>
      refine' K1.isc_mk ?cl ?ga ?gt ?sb ?ca ?sp ?tk ?ob
      (case cl => first | k_is | ks_is | rfl | kernel_rfl); (case ga => first | k_is | ks_is | rfl | kernel_rfl); (case gt => first | k_is | ks_is | rfl | kernel_rfl); (case sb => first | k_is | ks_is | rfl | kernel_rfl); (case ca => first | k_is | ks_is | rfl | kernel_rfl); (case sp => first | k_is | ks_is | rfl | kernel_rfl); (case tk => first | k_is | ks_is | rfl | kernel_rfl); (case ob => first | k_is | ks_is | rfl | kernel_rfl)
    case xm => first | k_is | ks_is | rfl | kernel_rfl
    case kN => first | k_is | ks_is | rfl | kernel_rfl
    case kV => first | k_is | ks_is | rfl | kernel_rfl
    case pz =>
      refine' K1.pair_mk ?h ?l
      (case h => first | k_is | ks_is | rfl | kernel_rfl); (case l => first | k_is | ks_is | rfl | kernel_rfl)
    case po =>
      refine' K1.pair_mk ?h ?l
      (case h => first | k_is | ks_is | rfl | kernel_rfl); (case l => first | k_is | ks_is | rfl | kernel_rfl)
    case z_abs => first | k_is | ks_is | rfl | kernel_rfl
    case z_int => first | k_is | ks_is | rfl | kernel_rfl
    case z_len => first | k_is | ks_is | rfl | kernel_rfl
    case z_list => first | k_is | ks_is | rfl | kernel_rfl
    case z_tuple => first | k_is | ks_is | rfl | kernel_rfl
    case z_zip => first | k_is | ks_is | rfl | kernel_rfl
    case z_range => first | k_is | ks_is | rfl | kernel_rfl
    case z_enumerate => first | k_is | ks_is | rfl | kernel_rfl
    case z_any => first | k_is | ks_is | rfl | kernel_rfl
    case z_isinstance => first | k_is | ks_is | rfl | kernel_rfl
    case z_ValueError => first | k_is | ks_is | rfl | kernel_rfl
    case z_super => first | k_is | ks_is | rfl | kernel_rfl
    case z_repr => first | k_is | ks_is | rfl | kernel_rfl
#print axioms PySem.Challenge.cw_oneverdict_k01_whole_least_costs_holds
