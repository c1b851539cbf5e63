import PyProof.Rows.All
import Wide.All
import OpenK.AllK
import Wide.FinOn
import KE.GoesZip
import KE.GoesMore
import HandS.ForMost
import HandS.Walk
import HandS.Wide
import HandS.Flow
import HandS.IsInst
import HandS.WordsExc
import HandS.TupAny
import HandS.Lambda
import PyProof.ReprRoads
import PyProof.ReprLen
import HandS.RaiseMore
import HandS.HotCalls
import HandS.ExcField
import PySem.Challenge.RW_oneverdict_k00_whole_fractions_and_what
import HandS.Style
import HandS.TupLe
import PyProof.AssignAttr
import KE.KSuper
import KE.KExcSuper
import HandS.Exc
import HandS.ExcInit
import KE.KExcIs
import HandS.Ends
import HandS.EndBits
import KE.KNest
import KE.RegKSuper
set_option linter.all false
namespace Sx
/-- the sum of f 0 .. f (m - 1) -/
def sm : Nat → (Nat → Rat) → Rat
  | 0, _ => 0
  | m + 1, f => sm m f + f m
theorem sm_ext {f g : Nat → Rat} : ∀ m, (∀ i, i < m → f i = g i) → sm m f = sm m g
  | 0, _ => rfl
  | m + 1, h => by
    show sm m f + f m = sm m g + g m
    rw [sm_ext m fun i hi => h i (Nat.lt_succ_of_lt hi), h m (Nat.lt_succ_self m)]
theorem sm_add (f g : Nat → Rat) : ∀ m, sm m (fun i => f i + g i) = sm m f + sm m g
  | 0 => by show (0 : Rat) = 0 + 0; grind
  | m + 1 => by
    show sm m (fun i => f i + g i) + (f m + g m) = (sm m f + f m) + (sm m g + g m)
    rw [sm_add f g m]; grind
theorem sm_sub (f g : Nat → Rat) : ∀ m, sm m (fun i => f i - g i) = sm m f - sm m g
  | 0 => by show (0 : Rat) = 0 - 0; grind
  | m + 1 => by
    show sm m (fun i => f i - g i) + (f m - g m) = (sm m f + f m) - (sm m g + g m)
    rw [sm_sub f g m]; grind
theorem sm_mul (c : Rat) (f : Nat → Rat) : ∀ m, sm m (fun i => c * f i) = c * sm m f
  | 0 => by simp [sm]
  | m + 1 => by
    show sm m (fun i => c * f i) + c * f m = c * (sm m f + f m)
    rw [sm_mul c f m]; grind
theorem sm_mulr (c : Rat) (f : Nat → Rat) (m : Nat) : sm m (fun i => f i * c) = sm m f * c := by
  rw [sm_ext m (g := fun i => c * f i) fun i _ => by grind, sm_mul]; grind
theorem sm_zero : ∀ m, sm m (fun _ => 0) = 0
  | 0 => rfl
  | m + 1 => by show sm m (fun _ => 0) + 0 = 0; rw [sm_zero m]; grind
theorem sm_eq0 {f : Nat → Rat} {m : Nat} (h : ∀ i, i < m → f i = 0) : sm m f = 0 := by rw [sm_ext m h, sm_zero]
/-- one that alone is not 0 -/
theorem sm_one {f : Nat → Rat} {k : Nat} : ∀ m, k < m → (∀ i, i < m → i ≠ k → f i = 0) → sm m f = f k
  | 0, h, _ => absurd h (Nat.not_lt_zero _)
  | m + 1, hk, h => by
    show sm m f + f m = f k
    by_cases e : k = m
    · subst e
      rw [sm_eq0 fun i hi => h i (Nat.lt_succ_of_lt hi) (Nat.ne_of_lt hi)]; grind
    · have hk' : k < m := by omega
      rw [sm_one m hk' fun i hi ne => h i (Nat.lt_succ_of_lt hi) ne, h m (Nat.lt_succ_self m) (fun z => e z.symm)]; grind
theorem sm_swap (f : Nat → Nat → Rat) (n : Nat) : ∀ m, sm m (fun i => sm n (fun j => f i j)) = sm n (fun j => sm m (fun i => f i j))
  | 0 => by show (0 : Rat) = _; exact (sm_eq0 fun _ _ => rfl).symm
  | m + 1 => by
    show sm m (fun i => sm n (fun j => f i j)) + sm n (fun j => f m j) = sm n (fun j => sm m (fun i => f i j) + f m j)
    rw [sm_swap f n m, sm_add]
theorem sm_nonneg {f : Nat → Rat} : ∀ m, (∀ i, i < m → 0 ≤ f i) → 0 ≤ sm m f
  | 0, _ => by show (0 : Rat) ≤ 0; grind
  | m + 1, h => by
    have h1 := sm_nonneg m fun i hi => h i (Nat.lt_succ_of_lt hi)
    have h2 := h m (Nat.lt_succ_self m)
    show 0 ≤ sm m f + f m
    grind
theorem sm_le {f g : Nat → Rat} (m : Nat) (h : ∀ i, i < m → f i ≤ g i) : sm m f ≤ sm m g := by
  have := sm_nonneg (f := fun i => g i - f i) m fun i hi => by have := h i hi; grind
  rw [sm_sub] at this; grind
/-- a sum above 0 has a part above 0 -/
theorem sm_pos {f : Nat → Rat} : ∀ m, 0 < sm m f → ∃ i, i < m ∧ 0 < f i
  | 0, h => by
    have : (0 : Rat) < 0 := h
    grind
  | m + 1, h => by
    have h' : 0 < sm m f + f m := h
    by_cases e : 0 < f m
    · exact ⟨m, Nat.lt_succ_self m, e⟩
    · obtain ⟨i, hi, p⟩ := sm_pos m (by grind : 0 < sm m f)
      exact ⟨i, Nat.lt_succ_of_lt hi, p⟩
/-- all parts from 0 on and a sum of 0: each is 0 -/
theorem sm_all0 {f : Nat → Rat} : ∀ m, (∀ i, i < m → 0 ≤ f i) → sm m f = 0 → ∀ i, i < m → f i = 0
  | 0, _, _ => fun i hi => absurd hi (Nat.not_lt_zero _)
  | m + 1, h, e => fun i hi => by
    have e' : sm m f + f m = 0 := e
    have h1 := sm_nonneg m fun i hi => h i (Nat.lt_succ_of_lt hi)
    have h2 := h m (Nat.lt_succ_self m)
    by_cases z : i = m
    · subst z; grind
    · exact sm_all0 m (fun i hi => h i (Nat.lt_succ_of_lt hi)) (by grind) i (by omega)
theorem mul_nn {a b : Rat} (h : 0 ≤ a) (k : 0 ≤ b) : 0 ≤ a * b := Rat.mul_nonneg h k
theorem mul_pp {a b : Rat} (h : 0 < a) (k : 0 < b) : 0 < a * b := Rat.mul_pos h k
end Sx
set_option linter.all false
namespace Sx
/-- rows (the last column the numbers), and the base -/
structure Tb where
  r : Nat → Nat → Rat
  b : Nat → Nat
def piv (T : Tb) (p c : Nat) : Tb where
  r := fun i j => if i = p then T.r p j / T.r p c else T.r i j - T.r i c * (T.r p j / T.r p c)
  b := fun i => if i = p then c else T.b i
theorem piv_rp (T : Tb) (p c j : Nat) : (piv T p c).r p j = T.r p j / T.r p c := by show (if p = p then _ else _) = _; rw [if_pos rfl]
theorem piv_ri (T : Tb) {p i : Nat} (c j : Nat) (h : i ≠ p) : (piv T p c).r i j = T.r i j - T.r i c * (T.r p j / T.r p c) := by show (if i = p then _ else _) = _; rw [if_neg h]
theorem piv_bp (T : Tb) (p c : Nat) : (piv T p c).b p = c := by show (if p = p then _ else _) = _; rw [if_pos rfl]
theorem piv_bi (T : Tb) {p i : Nat} (c : Nat) (h : i ≠ p) : (piv T p c).b i = T.b i := by show (if i = p then _ else _) = _; rw [if_neg h]

/-- equations of m rows, n columns and a helping one for each row, column n + m the numbers: what a tableau keeps -/
structure Val (m n : Nat) (A : Nat → Nat → Rat) (T : Tb) : Prop where
  bl : ∀ i, i < m → T.b i < n + m
  id : ∀ i, i < m → ∀ k, k < m → T.r i (T.b k) = if i = k then 1 else 0
  cm : ∀ i, i < m → ∀ j, j ≤ n + m → T.r i j = sm m fun k => T.r i (n + k) * A k j
  iv : ∀ k, k < m → ∀ j, j ≤ n + m → A k j = sm m fun i => A k (T.b i) * T.r i j
variable {m n : Nat} {A : Nat → Nat → Rat} {T T' : Tb}
theorem Val.inj (V : Val m n A T) {i k : Nat} (hi : i < m) (hk : k < m) (e : T.b i = T.b k) : i = k := by
  have h1 := V.id i hi i hi
  have h2 := V.id i hi k hk
  rw [e] at h1
  rw [h1, if_pos rfl] at h2
  by_cases z : i = k
  · exact z
  · rw [if_neg z] at h2; grind
theorem Val.piv (V : Val m n A T) {p c : Nat} (hp : p < m) (hc : c < n + m) (h0 : T.r p c ≠ 0) : Val m n A (piv T p c) where
  bl := fun i hi => by
    by_cases e : i = p
    · subst e; rw [piv_bp]; exact hc
    · rw [piv_bi T c e]; exact V.bl i hi
  id := fun i hi k hk => by
    by_cases e : i = p
    · subst e
      rw [piv_rp]
      by_cases ek : k = i
      · subst ek; rw [piv_bp, if_pos rfl]; grind
      · rw [piv_bi T c ek, V.id i hi k hk, if_neg (fun z => ek z.symm)]; grind
    · rw [piv_ri T c _ e]
      by_cases ek : k = p
      · subst ek; rw [piv_bp, if_neg e]; grind
      · rw [piv_bi T c ek, V.id i hi k hk, V.id p hp k hk, show (if p = k then (1 : Rat) else 0) = 0 from if_neg (fun z => ek z.symm)]; grind
  cm := fun i hi j hj => by
    have hpj := V.cm p hp j hj
    by_cases e : i = p
    · subst e
      rw [piv_rp, hpj]
      rw [sm_ext m (f := fun k => (Sx.piv T i c).r i (n + k) * A k j) (g := fun k => T.r i (n + k) * A k j * (1 / T.r i c)) fun k hk => by
        rw [piv_rp]; grind]
      rw [sm_mulr]; grind
    · have hij := V.cm i hi j hj
      rw [piv_ri T c j e]
      rw [sm_ext m (f := fun k => (Sx.piv T p c).r i (n + k) * A k j) (g := fun k => T.r i (n + k) * A k j - T.r p (n + k) * A k j * (T.r i c / T.r p c)) fun k hk => by
        rw [piv_ri T c _ e]; grind]
      rw [sm_sub, sm_mulr, ← hpj, ← hij]; grind
  iv := fun k hk j hj => by
    have h1 := V.iv k hk j hj
    have h2 := V.iv k hk c (Nat.le_of_lt hc)
    rw [sm_ext m (f := fun i => A k ((Sx.piv T p c).b i) * (Sx.piv T p c).r i j)
      (g := fun i => (A k (T.b i) * T.r i j - A k (T.b i) * T.r i c * (T.r p j / T.r p c)) + (if i = p then A k c * (T.r p j / T.r p c) else 0)) fun i hi => by
        by_cases e : i = p
        · subst e; rw [piv_rp, piv_bp, if_pos rfl]; grind
        · rw [piv_ri T c _ e, piv_bi T c e, if_neg e]; grind]
    rw [sm_add, sm_sub, sm_mulr, ← h1, ← h2]
    rw [sm_one (k := p) m hp fun i _ ne => by show (if i = p then _ else _) = _; rw [if_neg ne]]
    rw [if_pos rfl]; grind
/-- a base has one tableau alone -/
theorem Val.only (V : Val m n A T) (V' : Val m n A T') (e : ∀ i, i < m → T.b i = T'.b i) : ∀ i, i < m → ∀ j, j ≤ n + m → T.r i j = T'.r i j := fun i hi j hj => by
  rw [V.cm i hi j hj]
  rw [sm_ext m (g := fun k => sm m fun l => T.r i (n + k) * (A k (T'.b l) * T'.r l j)) fun k hk => by rw [V'.iv k hk j hj, sm_mul]]
  rw [sm_swap]
  rw [sm_ext m (g := fun l => (if i = l then 1 else 0) * T'.r l j) fun l hl => by
    have h1 := V.cm i hi (T.b l) (Nat.le_of_lt (V.bl l hl))
    rw [V.id i hi l hl] at h1
    rw [h1, ← sm_mulr, ← e l hl]
    exact sm_ext m fun k hk => by grind]
  rw [sm_one (k := i) m hi fun l _ ne => by show (if i = l then _ else _) * _ = _; rw [if_neg (fun z => ne z.symm)]; grind]
  show (if i = i then _ else _) * _ = _
  rw [if_pos rfl]; grind

/-- costs less what the base pays -/
def line (m : Nat) (c : Nat → Rat) (T : Tb) (j : Nat) : Rat := c j - sm m fun i => c (T.b i) * T.r i j
variable {c : Nat → Rat}
theorem line_base (V : Val m n A T) {k : Nat} (hk : k < m) : line m c T (T.b k) = 0 := by
  unfold line
  rw [sm_one (k := k) m hk fun i hi ne => by rw [V.id i hi k hk, if_neg ne]; grind]
  rw [V.id k hk k hk, if_pos rfl]; grind
theorem line_piv (V : Val m n A T) {p q : Nat} (hp : p < m) (h0 : T.r p q ≠ 0) (j : Nat) : line m c (piv T p q) j = line m c T j - line m c T q * (T.r p j / T.r p q) := by
  unfold line
  rw [sm_ext m (f := fun i => c ((piv T p q).b i) * (piv T p q).r i j)
    (g := fun i => (c (T.b i) * T.r i j - c (T.b i) * T.r i q * (T.r p j / T.r p q)) + (if i = p then c q * (T.r p j / T.r p q) else 0)) fun i hi => by
      by_cases e : i = p
      · subst e; rw [piv_rp, piv_bp, if_pos rfl]; grind
      · rw [piv_ri T q _ e, piv_bi T q e, if_neg e]; grind]
  rw [sm_add, sm_sub, sm_mulr, sm_one (f := fun i => if i = p then c q * (T.r p j / T.r p q) else 0) (k := p) m hp fun i _ ne => by show (if i = p then _ else _) = _; rw [if_neg ne]]
  rw [if_pos rfl]; grind
/-- the factors that show the sum -/
def fac (m n : Nat) (c : Nat → Rat) (T : Tb) (k : Nat) : Rat := sm m fun i => c (T.b i) * T.r i (n + k)
theorem line_fac (V : Val m n A T) {j : Nat} (hj : j ≤ n + m) : line m c T j = c j - sm m fun k => fac m n c T k * A k j := by
  unfold line
  congr 1
  rw [sm_ext m (g := fun i => sm m fun k => c (T.b i) * (T.r i (n + k) * A k j)) fun i hi => by rw [V.cm i hi j hj, sm_mul]]
  rw [sm_swap]
  refine sm_ext m fun k hk => ?_
  unfold fac
  rw [← sm_mulr]
  exact sm_ext m fun i hi => by grind
/-- the line of one tableau by that of another -/
theorem line_two (V : Val m n A T) (V' : Val m n A T') {j : Nat} (hj : j ≤ n + m) : line m c T j = line m c T' j - sm m fun i => line m c T' (T.b i) * T.r i j := by
  rw [line_fac V' hj]
  rw [sm_ext m (f := fun i => line m c T' (T.b i) * T.r i j) (g := fun i => c (T.b i) * T.r i j - sm m fun k => fac m n c T' k * (A k (T.b i) * T.r i j)) fun i hi => by
    rw [line_fac V' (Nat.le_of_lt (V.bl i hi))]
    rw [sm_ext m (f := fun k => fac m n c T' k * (A k (T.b i) * T.r i j)) (g := fun k => (fac m n c T' k * A k (T.b i)) * T.r i j) fun k _ => by grind]
    rw [sm_mulr]; grind]
  rw [sm_sub, sm_swap]
  rw [sm_ext m (f := fun k => sm m fun i => fac m n c T' k * (A k (T.b i) * T.r i j)) (g := fun k => fac m n c T' k * A k j) fun k hk => by
    rw [sm_mul, ← V.iv k hk j hj]]
  unfold line
  grind
end Sx
set_option linter.all false
namespace Sx
variable {m n : Nat} {A : Nat → Nat → Rat} {T T' : Tb} {c : Nat → Rat} {most : Nat}
/-- the numbers of rows are from 0 on -/
def Nn (m N : Nat) (T : Tb) : Prop := ∀ i, i < m → 0 ≤ T.r i N
/-- how a turn is chosen: the first good column, the least share, the least place in the base -/
structure Cho (m N : Nat) (c : Nat → Rat) (most : Nat) (T : Tb) (p q : Nat) : Prop where
  hq : q < most
  neg : line m c T q < 0
  first : ∀ j, j < q → 0 ≤ line m c T j
  hp : p < m
  pos : 0 < T.r p q
  low : ∀ i, i < m → 0 < T.r i q → T.r p N / T.r p q ≤ T.r i N / T.r i q
  tie : ∀ i, i < m → 0 < T.r i q → T.r i N / T.r i q = T.r p N / T.r p q → T.b p ≤ T.b i
theorem div_nn {a b : Rat} (h : 0 ≤ a) (k : 0 < b) : 0 ≤ a / b := by
  rw [Rat.div_def]
  exact Rat.mul_nonneg h (Rat.le_of_lt (Rat.inv_pos.mpr k))
theorem div_pp {a b : Rat} (h : 0 < a) (k : 0 < b) : 0 < a / b := by
  rw [Rat.div_def]
  exact Rat.mul_pos h (Rat.inv_pos.mpr k)
theorem Cho.nn {N p q : Nat} (C : Cho m N c most T p q) (h : Nn m N T) : Nn m N (piv T p q) := fun i hi => by
  by_cases e : i = p
  · subst e; rw [piv_rp]; exact div_nn (h i hi) C.pos
  · rw [piv_ri T q N e]
    have h1 := div_nn (h p C.hp) C.pos
    by_cases z : 0 < T.r i q
    · have h2 := C.low i hi z
      have h3 := mul_nn (Rat.le_of_lt z) (show 0 ≤ T.r i N / T.r i q - T.r p N / T.r p q by grind)
      have h5 : T.r i q * (T.r i N / T.r i q) = T.r i N := by
        have : T.r i q ≠ 0 := by grind
        grind
      generalize T.r p N / T.r p q = u at *
      generalize T.r i N / T.r i q = v at *
      grind
    · have h3 := mul_nn (show 0 ≤ - T.r i q by grind) h1
      have h4 := h i hi
      grind
/-- the value of a column -/
def sol (m N : Nat) (T : Tb) (v : Nat) : Rat := sm m fun i => if T.b i = v then T.r i N else 0
theorem sol_base (V : Val m n A T) {i N : Nat} (hi : i < m) : sol m N T (T.b i) = T.r i N := by
  unfold sol
  rw [sm_one (k := i) m hi fun k hk ne => if_neg fun z => ne (V.inj hk hi z), if_pos rfl]
theorem sol_out {N v : Nat} (h : ∀ i, i < m → T.b i ≠ v) : sol m N T v = 0 := sm_eq0 fun i hi => if_neg (h i hi)
theorem sol_piv {N p q v : Nat} (h0 : T.r p N = 0) : sol m N (piv T p q) v = sol m N T v := by
  refine sm_ext m fun i hi => ?_
  by_cases e : i = p
  · subst e
    rw [piv_rp, h0]
    have : (0 : Rat) / T.r i q = 0 := by grind
    rw [this]
    split <;> split <;> rfl
  · rw [piv_bi T q e, piv_ri T q N e, h0]
    have : T.r i N - T.r i q * (0 / T.r p q) = T.r i N := by grind
    rw [this]

/-- turns, one behind another -/
structure Row (m n : Nat) (A : Nat → Nat → Rat) (c : Nat → Rat) (most : Nat) (S : Nat → Tb) (p q : Nat → Nat) (lo hi : Nat) : Prop where
  val : ∀ s, lo ≤ s → s ≤ hi → Val m n A (S s)
  nn : ∀ s, lo ≤ s → s ≤ hi → Nn m (n + m) (S s)
  cho : ∀ s, lo ≤ s → s < hi → Cho m (n + m) c most (S s) (p s) (q s)
  nxt : ∀ s, lo ≤ s → s < hi → S (s + 1) = piv (S s) (p s) (q s)
variable {S : Nat → Tb} {p q : Nat → Nat} {lo hi : Nat}
theorem Row.mono (R : Row m n A c most S p q lo hi) : ∀ d, lo + d ≤ hi → line m c (S lo) (n + m) ≤ line m c (S (lo + d)) (n + m)
  | 0, _ => Rat.le_refl
  | d + 1, h => by
    have ih := R.mono d (by omega)
    have C := R.cho (lo + d) (by omega) (by omega)
    have e := R.nxt (lo + d) (by omega) (by omega)
    have V := R.val (lo + d) (by omega) (by omega)
    have l := line_piv (c := c) V (q := q (lo + d)) C.hp (by have := C.pos; grind) (n + m)
    rw [← e] at l
    have h1 := div_nn (R.nn (lo + d) (by omega) (by omega) _ C.hp) C.pos
    have h2 := mul_nn (show 0 ≤ - line m c (S (lo + d)) (q (lo + d)) by have := C.neg; grind) h1
    have : lo + (d + 1) = lo + d + 1 := by omega
    rw [this]
    grind
/-- going round, no turn moves anything -/
theorem Row.still (R : Row m n A c most S p q lo hi) (hl : lo < hi) (ring : ∀ i, i < m → (S lo).b i = (S hi).b i) : ∀ s, lo ≤ s → s < hi → (S s).r (p s) (n + m) = 0 := fun s h1 h2 => by
  have V1 := R.val lo (Nat.le_refl _) (by omega)
  have V2 := R.val hi (by omega) (Nat.le_refl _)
  have e : line m c (S lo) (n + m) = line m c (S hi) (n + m) := by
    unfold line
    congr 1
    exact sm_ext m fun i hi' => by rw [V1.only V2 ring i hi' _ (Nat.le_refl _), ring i hi']
  have R1 : Row m n A c most S p q lo s := ⟨fun t a b => R.val t a (by omega), fun t a b => R.nn t a (by omega), fun t a b => R.cho t a (by omega), fun t a b => R.nxt t a (by omega)⟩
  have R2 : Row m n A c most S p q (s + 1) hi := ⟨fun t a b => R.val t (by omega) b, fun t a b => R.nn t (by omega) b, fun t a b => R.cho t (by omega) b, fun t a b => R.nxt t (by omega) b⟩
  have m1 := R1.mono (s - lo) (by omega)
  have m2 := R2.mono (hi - (s + 1)) (by omega)
  rw [show lo + (s - lo) = s by omega] at m1
  rw [show s + 1 + (hi - (s + 1)) = hi by omega] at m2
  have C := R.cho s h1 h2
  have V := R.val s h1 (by omega)
  have l := line_piv (c := c) V (q := q s) C.hp (by have := C.pos; grind) (n + m)
  rw [← R.nxt s h1 h2] at l
  have h3 := R.nn s h1 (by omega) _ C.hp
  by_cases z : (S s).r (p s) (n + m) = 0
  · exact z
  · have h4 := div_pp (show 0 < (S s).r (p s) (n + m) by grind) C.pos
    have h5 := mul_pp (show 0 < - line m c (S s) (q s) by have := C.neg; grind) h4
    grind
theorem Row.sols (R : Row m n A c most S p q lo hi) (still : ∀ s, lo ≤ s → s < hi → (S s).r (p s) (n + m) = 0) (v : Nat) : ∀ d, lo + d ≤ hi → sol m (n + m) (S (lo + d)) v = sol m (n + m) (S lo) v
  | 0, _ => rfl
  | d + 1, h => by
    rw [show lo + (d + 1) = lo + d + 1 by omega, R.nxt (lo + d) (by omega) (by omega), sol_piv (still _ (by omega) (by omega))]
    exact R.sols still v d (by omega)
theorem Row.sol_eq (R : Row m n A c most S p q lo hi) (still : ∀ s, lo ≤ s → s < hi → (S s).r (p s) (n + m) = 0) (v : Nat) {s t : Nat} (h1 : lo ≤ s) (h2 : s ≤ hi) (h3 : lo ≤ t) (h4 : t ≤ hi) : sol m (n + m) (S s) v = sol m (n + m) (S t) v := by
  have a := R.sols still v (s - lo) (by omega)
  have b := R.sols still v (t - lo) (by omega)
  rw [show lo + (s - lo) = s by omega] at a
  rw [show lo + (t - lo) = t by omega] at b
  rw [a, b]
/-- whether a column is in the base -/
def isIn (m : Nat) (T : Tb) (v : Nat) : Prop := ∃ i, i < m ∧ T.b i = v
theorem isIn_piv_out {p q v : Nat} (h1 : isIn m T v) (h2 : ¬ isIn m (piv T p q) v) : T.b p = v := by
  obtain ⟨i, hi, e⟩ := h1
  by_cases z : i = p
  · subst z; exact e
  · exact absurd ⟨i, hi, by rw [piv_bi T q z]; exact e⟩ h2
theorem isIn_piv_in {p q v : Nat} (h1 : ¬ isIn m T v) (h2 : isIn m (piv T p q) v) : q = v := by
  obtain ⟨i, hi, e⟩ := h2
  by_cases z : i = p
  · subst z; rw [piv_bp] at e; exact e
  · rw [piv_bi T q z] at e; exact absurd ⟨i, hi, e⟩ h1
/-- somewhere between it leaves -/
theorem goes_out {Q : Nat → Prop} : ∀ (d a : Nat), Q a → ¬ Q (a + d) → ∃ s, a ≤ s ∧ s < a + d ∧ Q s ∧ ¬ Q (s + 1)
  | 0, a, h, k => absurd h k
  | d + 1, a, h, k => by
    by_cases z : Q (a + d)
    · exact ⟨a + d, by omega, by omega, z, k⟩
    · obtain ⟨s, h1, h2, h3, h4⟩ := goes_out d a h z
      exact ⟨s, h1, by omega, h3, h4⟩
theorem goes_out' {Q : Nat → Prop} {a b : Nat} (hab : a ≤ b) (h : Q a) (k : ¬ Q b) : ∃ s, a ≤ s ∧ s < b ∧ Q s ∧ ¬ Q (s + 1) := by
  obtain ⟨s, h1, h2, h3, h4⟩ := goes_out (b - a) a h (by rw [show a + (b - a) = b by omega]; exact k)
  exact ⟨s, h1, by omega, h3, h4⟩
/-- the greatest of some numbers -/
theorem has_most (f : Nat → Nat) (lo : Nat) : ∀ d, ∃ s, lo ≤ s ∧ s < lo + (d + 1) ∧ ∀ t, lo ≤ t → t < lo + (d + 1) → f t ≤ f s
  | 0 => ⟨lo, by omega, by omega, fun t h1 h2 => by rw [show t = lo by omega]; exact Nat.le_refl _⟩
  | d + 1 => by
    obtain ⟨s, h1, h2, h3⟩ := has_most f lo d
    by_cases z : f s ≤ f (lo + (d + 1))
    · exact ⟨lo + (d + 1), by omega, by omega, fun t a b => by
        by_cases e : t = lo + (d + 1)
        · rw [e]; exact Nat.le_refl _
        · exact Nat.le_trans (h3 t a (by omega)) z⟩
    · exact ⟨s, h1, by omega, fun t a b => by
        by_cases e : t = lo + (d + 1)
        · rw [e]; omega
        · exact h3 t a (by omega)⟩
/-- Bland: no base comes again -/
theorem Row.noRing (R : Row m n A c most S p q lo hi) (hmost : most ≤ n + m) (hl : lo < hi) (ring : ∀ i, i < m → (S lo).b i = (S hi).b i) : False := by
  have still := R.still hl ring
  obtain ⟨g, g1, g2, g3⟩ := has_most q lo (hi - lo - 1)
  rw [show lo + (hi - lo - 1 + 1) = hi by omega] at g2 g3
  have Cg := R.cho g g1 g2
  have Vg := R.val g g1 (by omega)
  have outg : ¬ isIn m (S g) (q g) := fun ⟨i, hi', e⟩ => by
    have := line_base (c := c) Vg hi'
    rw [e] at this
    have := Cg.neg
    grind
  have ing : isIn m (S (g + 1)) (q g) := by
    rw [R.nxt g g1 g2]
    exact ⟨p g, Cg.hp, piv_bp _ _ _⟩
  have ringIn : ∀ v, isIn m (S lo) v ↔ isIn m (S hi) v := fun v =>
    ⟨fun ⟨i, a, b⟩ => ⟨i, a, by rw [← ring i a]; exact b⟩, fun ⟨i, a, b⟩ => ⟨i, a, by rw [ring i a]; exact b⟩⟩
  -- where the greatest leaves
  have leave : ∃ s, lo ≤ s ∧ s < hi ∧ isIn m (S s) (q g) ∧ ¬ isIn m (S (s + 1)) (q g) := by
    by_cases z : isIn m (S lo) (q g)
    · obtain ⟨s, a, b, d, e⟩ := goes_out' (Q := fun s => isIn m (S s) (q g)) g1 z outg
      exact ⟨s, a, by omega, d, e⟩
    · have z' : ¬ isIn m (S hi) (q g) := fun y => z ((ringIn _).mpr y)
      obtain ⟨s, a, b, d, e⟩ := goes_out' (Q := fun s => isIn m (S s) (q g)) (show g + 1 ≤ hi by omega) ing z'
      exact ⟨s, by omega, b, d, e⟩
  obtain ⟨s, s1, s2, ins, outs⟩ := leave
  have Cs := R.cho s s1 s2
  have Vs := R.val s s1 (by omega)
  have bs : (S s).b (p s) = q g := by
    rw [R.nxt s s1 s2] at outs
    exact isIn_piv_out ins outs
  have qs : q s < q g := by
    have h1 := g3 s s1 s2
    refine Nat.lt_of_le_of_ne h1 fun z => ?_
    have h2 := line_base (c := c) Vs Cs.hp
    rw [bs, ← z] at h2
    have := Cs.neg
    grind
  -- the line there by the line where the greatest comes in
  have two := line_two (c := c) Vs Vg (j := q s) (by have := Cs.hq; omega)
  have h1 := Cg.first (q s) qs
  have h2 := Cs.neg
  obtain ⟨i, hi', pos⟩ := sm_pos (f := fun i => line m c (S g) ((S s).b i) * (S s).r i (q s)) m (by grind)
  have pos' : 0 < line m c (S g) ((S s).b i) * (S s).r i (q s) := pos
  have notg : ¬ isIn m (S g) ((S s).b i) := fun ⟨k, hk, e⟩ => by
    have := line_base (c := c) Vg hk
    rw [e] at this
    rw [this] at pos'
    grind
  have inS : isIn m (S s) ((S s).b i) := ⟨i, hi', rfl⟩
  -- it is one of those that come in
  have comes : ∃ t, lo ≤ t ∧ t < hi ∧ q t = (S s).b i := by
    have up : ∀ {a b : Nat}, lo ≤ a → a ≤ b → b ≤ hi → ¬ isIn m (S a) ((S s).b i) → isIn m (S b) ((S s).b i) → ∃ t, lo ≤ t ∧ t < hi ∧ q t = (S s).b i := fun {a b} ha hab hb x y => by
      obtain ⟨t, t1, t2, t3, t4⟩ := goes_out' (Q := fun s' => ¬ isIn m (S s') ((S s).b i)) hab x (fun z => z y)
      have t4' : isIn m (S (t + 1)) ((S s).b i) := Classical.byContradiction t4
      rw [R.nxt t (by omega) (by omega)] at t4'
      exact ⟨t, by omega, by omega, isIn_piv_in t3 t4'⟩
    by_cases z : g ≤ s
    · exact up g1 z (by omega) notg inS
    · by_cases y : isIn m (S lo) ((S s).b i)
      · exact up g1 (show g ≤ hi by omega) (Nat.le_refl _) notg ((ringIn _).mp y)
      · exact up (Nat.le_refl _) s1 (by omega) y inS
  obtain ⟨t, t1, t2, t3⟩ := comes
  have le : (S s).b i ≤ q g := by rw [← t3]; exact g3 t t1 t2
  by_cases same : (S s).b i = q g
  · have ei : i = p s := Vs.inj hi' Cs.hp (by rw [same, bs])
    rw [same, ei] at pos'
    have h5 := mul_pp (show 0 < - line m c (S g) (q g) by have := Cg.neg; grind) Cs.pos
    grind
  · have lt : (S s).b i < q g := by omega
    have h5 := Cg.first _ lt
    have rpos : 0 < (S s).r i (q s) := by
      by_cases z : 0 < (S s).r i (q s)
      · exact z
      · have := mul_nn h5 (show 0 ≤ - (S s).r i (q s) by grind)
        grind
    have e0 : (S s).r i (n + m) = 0 := by
      rw [← sol_base (N := n + m) Vs hi', R.sol_eq still _ s1 (by omega) g1 (by omega)]
      exact sol_out fun k hk z => notg ⟨k, hk, z⟩
    have ep := still s s1 s2
    have := Cs.tie i hi' rpos (by rw [e0, ep]; grind)
    rw [bs] at this
    omega
end Sx
set_option linter.all false
namespace Sx
def det3 (a b c d e f g h i : Rat) : Rat := a * (e * i - f * h) - b * (d * i - f * g) + c * (d * h - e * g)
theorem det3_mul (a b c d e f g h i A B C D E F G H I : Rat) :
    det3 a b c d e f g h i * det3 A B C D E F G H I = det3 (a*A+b*D+c*G) (a*B+b*E+c*H) (a*C+b*F+c*I) (d*A+e*D+f*G) (d*B+e*E+f*H) (d*C+e*F+f*I) (g*A+h*D+i*G) (g*B+h*E+i*H) (g*C+h*F+i*I) := by
  unfold det3; grind
/-- Cramer, three rows: x solves B x = v -/
theorem cramer3 {a b c d e f g h i x y z u v w : Rat} (h1 : u = a*x+b*y+c*z) (h2 : v = d*x+e*y+f*z) (h3 : w = g*x+h*y+i*z) :
    x * det3 a b c d e f g h i = det3 u b c v e f w h i ∧ y * det3 a b c d e f g h i = det3 a u c d v f g w i ∧ z * det3 a b c d e f g h i = det3 a b u d e v g h w := by
  subst h1; subst h2; subst h3
  unfold det3
  refine ⟨?_, ?_, ?_⟩ <;> grind
/-- an integer so great at most -/
def Bd (b : Nat) (q : Rat) : Prop := ∃ z : Int, q = (z : Rat) ∧ z.natAbs ≤ b
theorem Bd.mono {b b' : Nat} {q : Rat} (h : Bd b q) (k : b ≤ b') : Bd b' q := let ⟨z, e, l⟩ := h; ⟨z, e, Nat.le_trans l k⟩
theorem Bd.mul {b b' : Nat} {q r : Rat} (h : Bd b q) (k : Bd b' r) : Bd (b * b') (q * r) := by
  obtain ⟨z, rfl, l⟩ := h
  obtain ⟨y, rfl, l'⟩ := k
  exact ⟨z * y, by rw [Rat.intCast_mul], by rw [Int.natAbs_mul]; exact Nat.mul_le_mul l l'⟩
theorem Bd.add {b b' : Nat} {q r : Rat} (h : Bd b q) (k : Bd b' r) : Bd (b + b') (q + r) := by
  obtain ⟨z, rfl, l⟩ := h
  obtain ⟨y, rfl, l'⟩ := k
  exact ⟨z + y, by rw [Rat.intCast_add], by omega⟩
theorem Bd.sub {b b' : Nat} {q r : Rat} (h : Bd b q) (k : Bd b' r) : Bd (b + b') (q - r) := by
  obtain ⟨z, rfl, l⟩ := h
  obtain ⟨y, rfl, l'⟩ := k
  exact ⟨z - y, by rw [Rat.intCast_sub], by omega⟩
theorem Bd.det3 {B : Nat} {a b c d e f g h i : Rat} (ha : Bd B a) (hb : Bd B b) (hc : Bd B c) (hd : Bd B d) (he : Bd B e) (hf : Bd B f) (hg : Bd B g) (hh : Bd B h) (hi : Bd B i) : Bd (6 * (B * B * B)) (det3 a b c d e f g h i) := by
  have z := ((ha.mul ((he.mul hi).sub (hf.mul hh))).sub (hb.mul ((hd.mul hi).sub (hf.mul hg)))).add (hc.mul ((hd.mul hh).sub (he.mul hg)))
  refine z.mono ?_
  have : B * (B * B + B * B) + B * (B * B + B * B) + B * (B * B + B * B) = 6 * (B * B * B) := by
    rw [Nat.mul_add, ← Nat.mul_assoc]; omega
  omega
/-- top and bottom so great at most -/
def Sz (X : Nat) (q : Rat) : Prop := q.num.natAbs ≤ X ∧ q.den ≤ X
theorem Sz.mono {X Y : Nat} {q : Rat} (h : Sz X q) (k : X ≤ Y) : Sz Y q := ⟨Nat.le_trans h.1 k, Nat.le_trans h.2 k⟩
theorem sz_divInt {X : Nat} {p d : Int} (h0 : d ≠ 0) (hp : p.natAbs ≤ X) (hd : d.natAbs ≤ X) : Sz X (Rat.divInt p d) := by
  constructor
  · rw [Rat.num_divInt]
    have h1 : ((d.sign * p) / (d.gcd p : Int)).natAbs ≤ (d.sign * p).natAbs := by
      rw [Int.natAbs_ediv_of_dvd]
      · exact Nat.div_le_self _ _
      · exact Int.dvd_trans (Int.gcd_dvd_right _ _) (Int.dvd_mul_left _ _)
    have h2 : (d.sign * p).natAbs = p.natAbs := by
      rw [Int.natAbs_mul, Int.natAbs_sign_of_ne_zero h0, Nat.one_mul]
    omega
  · rw [Rat.den_divInt, if_neg h0]
    exact Nat.le_trans (Nat.div_le_self _ _) hd
theorem sz_of {X : Nat} {q p d : Rat} (hp : Bd X p) (hd : Bd X d) (h0 : d ≠ 0) (e : q * d = p) : Sz X q := by
  obtain ⟨a, rfl, la⟩ := hp
  obtain ⟨b, rfl, lb⟩ := hd
  have b0 : b ≠ 0 := fun z => h0 (by rw [z]; rfl)
  have : q = Rat.divInt a b := by
    rw [Rat.divInt_eq_div]
    have : (b : Rat) ≠ 0 := h0
    grind
  rw [this]
  exact sz_divInt b0 la lb
theorem Bd.zero {B : Nat} : Bd B 0 := ⟨0, rfl, Nat.zero_le _⟩
theorem Bd.one {B : Nat} (h : 1 ≤ B) : Bd B 1 := ⟨1, rfl, h⟩
theorem sm1 (f : Nat → Rat) : sm 1 f = f 0 := by show (0 : Rat) + f 0 = f 0; grind
theorem sm2 (f : Nat → Rat) : sm 2 f = f 0 + f 1 := by show (0 : Rat) + f 0 + f 1 = f 0 + f 1; grind
theorem sm3 (f : Nat → Rat) : sm 3 f = f 0 + f 1 + f 2 := by show (0 : Rat) + f 0 + f 1 + f 2 = f 0 + f 1 + f 2; grind
theorem det_ne {a b c d e f g h i A B C D E F G H I : Rat}
    (h1 : a*A+b*D+c*G = 1) (h2 : a*B+b*E+c*H = 0) (h3 : a*C+b*F+c*I = 0) (h4 : d*A+e*D+f*G = 0) (h5 : d*B+e*E+f*H = 1) (h6 : d*C+e*F+f*I = 0)
    (h7 : g*A+h*D+i*G = 0) (h8 : g*B+h*E+i*H = 0) (h9 : g*C+h*F+i*I = 1) {D0 : Rat} (k : D0 ≠ 0) : det3 (A*D0) (B*D0) (C*D0) (D*D0) (E*D0) (F*D0) (G*D0) (H*D0) (I*D0) ≠ 0 := fun z => by
  have m1 := det3_mul a b c d e f g h i A B C D E F G H I
  rw [h1, h2, h3, h4, h5, h6, h7, h8, h9] at m1
  have s : det3 (A*D0) (B*D0) (C*D0) (D*D0) (E*D0) (F*D0) (G*D0) (H*D0) (I*D0) = D0 * D0 * D0 * det3 A B C D E F G H I := by unfold det3; grind
  rw [s] at z
  have one : det3 1 0 0 0 1 0 0 0 1 = 1 := by unfold det3; grind
  rw [one] at m1
  have : det3 A B C D E F G H I = 0 := by grind
  rw [this] at m1
  grind
/-- the entries of a tableau of three rows at most are small where those of the equations are, by a share D -/
theorem Val.sz {m n : Nat} {A : Nat → Nat → Rat} {T : Tb} (V : Val m n A T) (hm : m = 1 ∨ m = 2 ∨ m = 3) {B : Nat} (hB : 1 ≤ B) {D : Rat} (hD : D ≠ 0) (h : ∀ k, k < m → ∀ j, j ≤ n + m → Bd B (A k j * D)) :
    ∀ i, i < m → ∀ j, j ≤ n + m → Sz (6 * (B * B * B)) (T.r i j) := by
  have hBB : B ≤ 6 * (B * B * B) := by
    have : B * 1 ≤ B * B := Nat.mul_le_mul_left B hB
    have h2 : B * B * 1 ≤ B * B * B := Nat.mul_le_mul_left _ hB
    omega
  intro i hi j hj
  have bl : ∀ k, k < m → T.b k ≤ n + m := fun k hk => Nat.le_of_lt (V.bl k hk)
  rcases hm with rfl | rfl | rfl
  · obtain rfl : i = 0 := by omega
    have e := V.iv 0 (by omega) j hj
    rw [sm1] at e
    have k := V.cm 0 (by omega) _ (bl 0 (by omega))
    rw [V.id 0 (by omega) 0 (by omega), if_pos rfl, sm1] at k
    refine (sz_of (h 0 (by omega) j hj) (h 0 (by omega) _ (bl 0 (by omega))) (fun z => ?_) ?_).mono hBB
    · grind
    · grind
  · have e0 := V.iv 0 (by omega) j hj
    have e1 := V.iv 1 (by omega) j hj
    rw [sm2] at e0 e1
    have k00 := V.cm 0 (by omega) _ (bl 0 (by omega))
    have k01 := V.cm 0 (by omega) _ (bl 1 (by omega))
    have k10 := V.cm 1 (by omega) _ (bl 0 (by omega))
    have k11 := V.cm 1 (by omega) _ (bl 1 (by omega))
    rw [V.id 0 (by omega) 0 (by omega), if_pos rfl, sm2] at k00
    rw [V.id 0 (by omega) 1 (by omega), if_neg (by omega), sm2] at k01
    rw [V.id 1 (by omega) 0 (by omega), if_neg (by omega), sm2] at k10
    rw [V.id 1 (by omega) 1 (by omega), if_pos rfl, sm2] at k11
    have ne := det_ne (D0 := D) (a := T.r 0 (n + 0)) (b := T.r 0 (n + 1)) (c := 0) (d := T.r 1 (n + 0)) (e := T.r 1 (n + 1)) (f := 0) (g := 0) (h := 0) (i := 1)
      (A := A 0 (T.b 0)) (B := A 0 (T.b 1)) (C := 0) (D := A 1 (T.b 0)) (E := A 1 (T.b 1)) (F := 0) (G := 0) (H := 0) (I := 1)
      (by grind) (by grind) (by grind) (by grind) (by grind) (by grind) (by grind) (by grind) (by grind) hD
    have cr := cramer3 (a := A 0 (T.b 0) * D) (b := A 0 (T.b 1) * D) (c := 0) (d := A 1 (T.b 0) * D) (e := A 1 (T.b 1) * D) (f := 0) (g := 0) (h := 0) (i := 1) (x := T.r 0 j) (y := T.r 1 j) (z := 0) (u := A 0 j * D) (v := A 1 j * D) (w := 0)
      (by grind) (by grind) (by grind)
    have ne' : det3 (A 0 (T.b 0) * D) (A 0 (T.b 1) * D) 0 (A 1 (T.b 0) * D) (A 1 (T.b 1) * D) 0 0 0 1 ≠ 0 := fun z => ne (by unfold det3 at z ⊢; grind)
    have b00 := h 0 (by omega) _ (bl 0 (by omega))
    have b01 := h 0 (by omega) _ (bl 1 (by omega))
    have b10 := h 1 (by omega) _ (bl 0 (by omega))
    have b11 := h 1 (by omega) _ (bl 1 (by omega))
    have bu := h 0 (by omega) j hj
    have bv := h 1 (by omega) j hj
    have bd := Bd.det3 b00 b01 Bd.zero b10 b11 Bd.zero Bd.zero Bd.zero (Bd.one hB)
    have : i = 0 ∨ i = 1 := by omega
    rcases this with rfl | rfl
    · exact sz_of (Bd.det3 bu b01 Bd.zero bv b11 Bd.zero Bd.zero Bd.zero (Bd.one hB)) bd ne' cr.1
    · exact sz_of (Bd.det3 b00 bu Bd.zero b10 bv Bd.zero Bd.zero Bd.zero (Bd.one hB)) bd ne' cr.2.1
  · have e0 := V.iv 0 (by omega) j hj
    have e1 := V.iv 1 (by omega) j hj
    have e2 := V.iv 2 (by omega) j hj
    rw [sm3] at e0 e1 e2
    have k00 := V.cm 0 (by omega) _ (bl 0 (by omega))
    have k01 := V.cm 0 (by omega) _ (bl 1 (by omega))
    have k02 := V.cm 0 (by omega) _ (bl 2 (by omega))
    have k10 := V.cm 1 (by omega) _ (bl 0 (by omega))
    have k11 := V.cm 1 (by omega) _ (bl 1 (by omega))
    have k12 := V.cm 1 (by omega) _ (bl 2 (by omega))
    have k20 := V.cm 2 (by omega) _ (bl 0 (by omega))
    have k21 := V.cm 2 (by omega) _ (bl 1 (by omega))
    have k22 := V.cm 2 (by omega) _ (bl 2 (by omega))
    rw [V.id 0 (by omega) 0 (by omega), if_pos rfl, sm3] at k00
    rw [V.id 0 (by omega) 1 (by omega), if_neg (by omega), sm3] at k01
    rw [V.id 0 (by omega) 2 (by omega), if_neg (by omega), sm3] at k02
    rw [V.id 1 (by omega) 0 (by omega), if_neg (by omega), sm3] at k10
    rw [V.id 1 (by omega) 1 (by omega), if_pos rfl, sm3] at k11
    rw [V.id 1 (by omega) 2 (by omega), if_neg (by omega), sm3] at k12
    rw [V.id 2 (by omega) 0 (by omega), if_neg (by omega), sm3] at k20
    rw [V.id 2 (by omega) 1 (by omega), if_neg (by omega), sm3] at k21
    rw [V.id 2 (by omega) 2 (by omega), if_pos rfl, sm3] at k22
    have ne := det_ne (D0 := D) k00.symm k01.symm k02.symm k10.symm k11.symm k12.symm k20.symm k21.symm k22.symm hD
    have cr := cramer3 (a := A 0 (T.b 0) * D) (b := A 0 (T.b 1) * D) (c := A 0 (T.b 2) * D) (d := A 1 (T.b 0) * D) (e := A 1 (T.b 1) * D) (f := A 1 (T.b 2) * D) (g := A 2 (T.b 0) * D) (h := A 2 (T.b 1) * D) (i := A 2 (T.b 2) * D) (x := T.r 0 j) (y := T.r 1 j) (z := T.r 2 j) (u := A 0 j * D) (v := A 1 j * D) (w := A 2 j * D)
      (by grind) (by grind) (by grind)
    have b00 := h 0 (by omega) _ (bl 0 (by omega))
    have b01 := h 0 (by omega) _ (bl 1 (by omega))
    have b02 := h 0 (by omega) _ (bl 2 (by omega))
    have b10 := h 1 (by omega) _ (bl 0 (by omega))
    have b11 := h 1 (by omega) _ (bl 1 (by omega))
    have b12 := h 1 (by omega) _ (bl 2 (by omega))
    have b20 := h 2 (by omega) _ (bl 0 (by omega))
    have b21 := h 2 (by omega) _ (bl 1 (by omega))
    have b22 := h 2 (by omega) _ (bl 2 (by omega))
    have bu := h 0 (by omega) j hj
    have bv := h 1 (by omega) j hj
    have bw := h 2 (by omega) j hj
    have bd := Bd.det3 b00 b01 b02 b10 b11 b12 b20 b21 b22
    have : i = 0 ∨ i = 1 ∨ i = 2 := by omega
    rcases this with rfl | rfl | rfl
    · exact sz_of (Bd.det3 bu b01 b02 bv b11 b12 bw b21 b22) bd ne cr.1
    · exact sz_of (Bd.det3 b00 bu b02 b10 bv b12 b20 bw b22) bd ne cr.2.1
    · exact sz_of (Bd.det3 b00 b01 bu b10 b11 bv b20 b21 bw) bd ne cr.2.2
end Sx
set_option linter.all false
namespace Sx
theorem pigeon : ∀ (K s : Nat) (f : Nat → Nat), (∀ i, i ≤ s → f i < K) → (∀ i j, i < j → j ≤ s → f i ≠ f j) → s < K
  | 0, s, f, h, _ => absurd (h 0 (by omega)) (by omega)
  | K + 1, s, f, h, d => by
    by_cases h0 : s = 0
    · omega
    · by_cases e : ∃ t, t ≤ s ∧ f t = K
      · obtain ⟨t, ht, et⟩ := e
        have ne : ∀ j, j ≤ s → j ≠ t → f j < K := fun j hj hn => by
          have h1 := h j hj
          have h2 : f j ≠ K := fun z => by
            rcases Nat.lt_or_gt_of_ne hn with x | x
            · exact d j t x ht (by rw [z, et])
            · exact d t j x hj (by rw [z, et])
          omega
        have := pigeon K (s - 1) (fun i => if i < t then f i else f (i + 1)) (fun i hi => by
          by_cases x : i < t
          · rw [if_pos x]; exact ne i (by omega) (by omega)
          · rw [if_neg x]; exact ne (i + 1) (by omega) (by omega)) (fun i j hij hj => by
          by_cases x : i < t
          · by_cases y : j < t
            · rw [if_pos x, if_pos y]; exact d i j hij (by omega)
            · rw [if_pos x, if_neg y]; exact d i (j + 1) (by omega) (by omega)
          · rw [if_neg x, if_neg (by omega)]; exact d (i + 1) (j + 1) (by omega) (by omega))
        omega
      · have := pigeon K s f (fun i hi => by
          have h1 := h i hi
          have h2 : f i ≠ K := fun z => e ⟨i, hi, z⟩
          omega) d
        omega
def code (N : Nat) (b : Nat → Nat) : Nat → Nat
  | 0 => 0
  | m + 1 => code N b m * N + b m
theorem code_lt {N : Nat} {b : Nat → Nat} : ∀ m, (∀ i, i < m → b i < N) → code N b m < N ^ m
  | 0, _ => by show 0 < 1; omega
  | m + 1, h => by
    have h1 := code_lt m fun i hi => h i (by omega)
    have h2 := h m (by omega)
    show code N b m * N + b m < N ^ (m + 1)
    rw [Nat.pow_succ]
    have h3 : (code N b m + 1) * N ≤ N ^ m * N := Nat.mul_le_mul_right N h1
    rw [Nat.add_mul, Nat.one_mul] at h3
    omega
theorem code_inj {N : Nat} {b b' : Nat → Nat} : ∀ m, (∀ i, i < m → b i < N) → (∀ i, i < m → b' i < N) → code N b m = code N b' m → ∀ i, i < m → b i = b' i
  | 0, _, _, _ => fun i hi => by omega
  | m + 1, h, h', e => fun i hi => by
    have e : code N b m * N + b m = code N b' m * N + b' m := e
    have l1 := h m (by omega)
    have l2 := h' m (by omega)
    have hN : 0 < N := by omega
    have m1 : (code N b m * N + b m) % N = b m := by rw [Nat.mul_add_mod_self_right, Nat.mod_eq_of_lt l1]
    have m2 : (code N b' m * N + b' m) % N = b' m := by rw [Nat.mul_add_mod_self_right, Nat.mod_eq_of_lt l2]
    have eb : b m = b' m := by rw [← m1, ← m2, e]
    by_cases z : i = m
    · rw [z, eb]
    · have ec : code N b m = code N b' m := by
        rw [eb] at e
        exact Nat.eq_of_mul_eq_mul_right hN (by omega)
      exact code_inj m (fun i hi => h i (by omega)) (fun i hi => h' i (by omega)) ec i (by omega)
variable {m n : Nat} {A : Nat → Nat → Rat} {c : Nat → Rat} {most : Nat} {T0 T : Tb}
/-- s turns from T0 to T -/
def Hist (m n : Nat) (A : Nat → Nat → Rat) (c : Nat → Rat) (most : Nat) (T0 T : Tb) (s : Nat) : Prop := ∃ S p q, Row m n A c most S p q 0 s ∧ S 0 = T0 ∧ S s = T
theorem Hist.zero (V : Val m n A T) (h : Nn m (n + m) T) : Hist m n A c most T T 0 :=
  ⟨fun _ => T, fun _ => 0, fun _ => 0, ⟨fun _ _ _ => V, fun _ _ _ => h, fun s _ h => absurd h (by omega), fun s _ h => absurd h (by omega)⟩, rfl, rfl⟩
theorem Hist.snoc {s p q : Nat} (h : Hist m n A c most T0 T s) (C : Cho m (n + m) c most T p q) (V : Val m n A (piv T p q)) : Hist m n A c most T0 (piv T p q) (s + 1) := by
  obtain ⟨S, P, Q, R, e0, es⟩ := h
  have nn := R.nn s (by omega) (by omega)
  rw [es] at nn
  refine ⟨fun t => if t ≤ s then S t else piv T p q, fun t => if t < s then P t else p, fun t => if t < s then Q t else q, ⟨fun t _ ht => ?_, fun t _ ht => ?_, fun t _ ht => ?_, fun t _ ht => ?_⟩, ?_, ?_⟩
  · by_cases x : t ≤ s
    · simp only [if_pos x]; exact R.val t (by omega) x
    · simp only [if_neg x]; exact V
  · by_cases x : t ≤ s
    · simp only [if_pos x]; exact R.nn t (by omega) x
    · simp only [if_neg x]; exact C.nn nn
  · by_cases x : t < s
    · simp only [if_pos x, if_pos (Nat.le_of_lt x)]; exact R.cho t (by omega) x
    · have : t = s := by omega
      subst this
      simp only [if_neg x, if_pos (Nat.le_refl _)]
      rw [es]; exact C
  · by_cases x : t < s
    · simp only [if_pos x, if_pos (Nat.le_of_lt x), if_pos (show t + 1 ≤ s from x)]; exact R.nxt t (by omega) x
    · have : t = s := by omega
      subst this
      simp only [if_neg x, if_pos (Nat.le_refl _), if_neg (show ¬ t + 1 ≤ t by omega)]
      rw [es]
  · simp only [if_pos (Nat.zero_le _)]; exact e0
  · simp only [if_neg (show ¬ s + 1 ≤ s by omega)]
theorem Hist.bound {s : Nat} (h : Hist m n A c most T0 T s) (hm : most ≤ n + m) : s < (n + m) ^ m := by
  obtain ⟨S, P, Q, R, _, _⟩ := h
  refine pigeon _ s (fun t => code (n + m) (S t).b m) (fun i hi => code_lt m (R.val i (by omega) hi).bl) fun i j hij hj e => ?_
  have ring := code_inj m (R.val i (by omega) (by omega)).bl (R.val j (by omega) hj).bl e
  have R' : Row m n A c most S P Q i j := ⟨fun t a b => R.val t (by omega) (by omega), fun t a b => R.nn t (by omega) (by omega), fun t a b => R.cho t (by omega) (by omega), fun t a b => R.nxt t (by omega) (by omega)⟩
  exact R'.noRing hm hij ring
/-- turns as a path -/
inductive Rch (m N : Nat) (c : Nat → Rat) (most : Nat) (T0 : Tb) : Tb → Prop
  | refl : Rch m N c most T0 T0
  | step {T : Tb} {p q : Nat} (h : Rch m N c most T0 T) (C : Cho m N c most T p q) : Rch m N c most T0 (piv T p q)
/-- the first of those below k that bear P -/
theorem filter_nil {P : Nat → Bool} {k : Nat} (h : (List.range k).filter P = []) : ∀ j, j < k → P j = false := fun j hj => by
  have := List.filter_eq_nil_iff.mp h j (List.mem_range.mpr hj)
  simpa using this
theorem filter_head {P : Nat → Bool} {q : Nat} {r : List Nat} : ∀ k, (List.range k).filter P = q :: r → q < k ∧ P q = true ∧ ∀ j, j < q → P j = false
  | 0, h => by simp at h
  | k + 1, h => by
    rw [List.range_succ, List.filter_append] at h
    cases e : (List.range k).filter P with
    | nil =>
      rw [e, List.nil_append] at h
      by_cases z : P k = true
      · rw [List.filter_cons_of_pos z] at h
        injection h with h1 h2
        subst h1
        exact ⟨by omega, z, filter_nil e⟩
      · rw [List.filter_cons_of_neg z] at h
        simp at h
    | cons x y =>
      rw [e, List.cons_append] at h
      injection h with h1 h2
      subst h1
      obtain ⟨a, b, d⟩ := filter_head k e
      exact ⟨by omega, b, d⟩
/-- the best of the first i rows -/
def Bst (m N q : Nat) (T : Tb) (i : Nat) : Option Nat → Prop
  | none => ∀ k, k < i → ¬ 0 < T.r k q
  | some a => a < i ∧ 0 < T.r a q ∧ (∀ k, k < i → 0 < T.r k q → T.r a N / T.r a q ≤ T.r k N / T.r k q) ∧ ∀ k, k < i → 0 < T.r k q → T.r k N / T.r k q = T.r a N / T.r a q → T.b a ≤ T.b k
variable {N q i a : Nat}
theorem Bst.skip {o : Option Nat} (h : Bst m N q T i o) (k : ¬ 0 < T.r i q) : Bst m N q T (i + 1) o := by
  cases o with
  | none =>
    intro j hj
    by_cases e : j = i
    · rw [e]; exact k
    · exact h j (by omega)
  | some a =>
    obtain ⟨h1, h2, h3, h4⟩ := h
    refine ⟨by omega, h2, fun j hj hp => ?_, fun j hj hp => ?_⟩
    · by_cases e : j = i
      · rw [e] at hp; exact absurd hp k
      · exact h3 j (by omega) hp
    · by_cases e : j = i
      · rw [e] at hp; exact absurd hp k
      · exact h4 j (by omega) hp
theorem Bst.first (h : Bst m N q T i none) (k : 0 < T.r i q) : Bst m N q T (i + 1) (some i) :=
  ⟨by omega, k, fun j hj hp => by
    by_cases e : j = i
    · rw [e]; exact Rat.le_refl
    · exact absurd hp (h j (by omega)), fun j hj hp _ => by
    by_cases e : j = i
    · rw [e]; exact Nat.le_refl _
    · exact absurd hp (h j (by omega))⟩
theorem Bst.better (h : Bst m N q T i (some a)) (k : 0 < T.r i q) (lt : T.r i N / T.r i q < T.r a N / T.r a q) : Bst m N q T (i + 1) (some i) := by
  obtain ⟨h1, h2, h3, h4⟩ := h
  refine ⟨by omega, k, fun j hj hp => ?_, fun j hj hp he => ?_⟩
  · by_cases e : j = i
    · rw [e]; exact Rat.le_refl
    · have := h3 j (by omega) hp
      generalize T.r i N / T.r i q = x at *
      generalize T.r a N / T.r a q = y at *
      generalize T.r j N / T.r j q = z at *
      grind
  · by_cases e : j = i
    · rw [e]; exact Nat.le_refl _
    · have := h3 j (by omega) hp
      generalize T.r i N / T.r i q = x at *
      generalize T.r a N / T.r a q = y at *
      generalize T.r j N / T.r j q = z at *
      grind
theorem Bst.tie (h : Bst m N q T i (some a)) (k : 0 < T.r i q) (eq : T.r i N / T.r i q = T.r a N / T.r a q) (lt : T.b i < T.b a) : Bst m N q T (i + 1) (some i) := by
  obtain ⟨h1, h2, h3, h4⟩ := h
  refine ⟨by omega, k, fun j hj hp => ?_, fun j hj hp he => ?_⟩
  · by_cases e : j = i
    · rw [e]; exact Rat.le_refl
    · rw [eq]; exact h3 j (by omega) hp
  · by_cases e : j = i
    · rw [e]; exact Nat.le_refl _
    · have := h4 j (by omega) hp (by rw [he, eq])
      omega
theorem Bst.keep (h : Bst m N q T i (some a)) (k : 0 < T.r i q) (nl : ¬ T.r i N / T.r i q < T.r a N / T.r a q) (nt : ¬ (T.r i N / T.r i q = T.r a N / T.r a q ∧ T.b i < T.b a)) : Bst m N q T (i + 1) (some a) := by
  obtain ⟨h1, h2, h3, h4⟩ := h
  refine ⟨by omega, h2, fun j hj hp => ?_, fun j hj hp he => ?_⟩
  · by_cases e : j = i
    · rw [e]
      generalize T.r i N / T.r i q = x at *
      generalize T.r a N / T.r a q = y at *
      grind
    · exact h3 j (by omega) hp
  · by_cases e : j = i
    · rw [e] at he ⊢
      have : ¬ T.b i < T.b a := fun z => nt ⟨he, z⟩
      omega
    · exact h4 j (by omega) hp he
theorem Bst.cho {most : Nat} (h : Bst m N q T m (some a)) (hq : q < most) (hn : line m c T q < 0) (hf : ∀ j, j < q → 0 ≤ line m c T j) : Cho m N c most T a q := by
  obtain ⟨h1, h2, h3, h4⟩ := h
  exact ⟨hq, hn, hf, h1, h2, h3, h4⟩
end Sx
set_option linter.all false
namespace Sx
variable {m n : Nat} {A : Nat → Nat → Rat} {T T' : Tb} {c : Nat → Rat}
/-- weights from 0 on that make the numbers -/
def FeA (m n : Nat) (A : Nat → Nat → Rat) (x : Nat → Rat) : Prop := (∀ j, j < n → 0 ≤ x j) ∧ ∀ k, k < m → sm n (fun j => A k j * x j) = A k (n + m)
/-- a base whose helping rows are empty -/
def Ar (m n : Nat) (T : Tb) : Prop := ∀ i, i < m → n ≤ T.b i → T.r i (n + m) = 0 ∧ ∀ j, j < n → T.r i j = 0
theorem sol_nn {N : Nat} (h : Nn m N T) (v : Nat) : 0 ≤ sol m N T v := sm_nonneg m fun i hi => by
  by_cases e : T.b i = v
  · rw [if_pos e]; exact h i hi
  · rw [if_neg e]; grind
/-- a sum over columns by the base -/
theorem sum_base (f : Nat → Rat) (N : Nat) (h : ∀ i, i < m → n ≤ T.b i → f (T.b i) * T.r i N = 0) : sm n (fun j => f j * sol m N T j) = sm m (fun i => f (T.b i) * T.r i N) := by
  unfold sol
  rw [sm_ext n (g := fun j => sm m fun i => f j * (if T.b i = j then T.r i N else 0)) fun j _ => by rw [sm_mul]]
  rw [sm_swap]
  refine sm_ext m fun i hi => ?_
  by_cases hb : T.b i < n
  · rw [sm_one (k := T.b i) n hb fun j _ ne => by rw [if_neg (fun z => ne z.symm)]; grind]
    rw [if_pos rfl]
  · rw [h i hi (by omega)]
    exact sm_eq0 fun j hj => by rw [if_neg (by omega)]; grind
theorem Val.fe (V : Val m n A T) (hn : Nn m (n + m) T) (hA : ∀ i, i < m → n ≤ T.b i → T.r i (n + m) = 0) : FeA m n A (sol m (n + m) T) :=
  ⟨fun j _ => sol_nn hn j, fun k hk => by
    rw [sum_base (fun j => A k j) (n + m) fun i hi hb => by rw [hA i hi hb]; grind]
    exact (V.iv k hk (n + m) (Nat.le_refl _)).symm⟩
/-! ### the first costs: the helping columns alone -/
def c1 (m n : Nat) (j : Nat) : Rat := if j < n then 0 else if j < n + m then 1 else 0
theorem c1_lo {j : Nat} (h : j < n) : c1 m n j = 0 := if_pos h
theorem c1_hi {j : Nat} (h : n ≤ j) (k : j < n + m) : c1 m n j = 1 := by unfold c1; rw [if_neg (by omega), if_pos k]
theorem c1_N : c1 m n (n + m) = 0 := by unfold c1; rw [if_neg (by omega), if_neg (by omega)]
theorem c1_nn (j : Nat) : 0 ≤ c1 m n j := by unfold c1; split <;> (try split) <;> grind
theorem first_ends {q : Nat} (h : line m (c1 m n) T q < 0) (k : ∀ i, i < m → ¬ 0 < T.r i q) : False := by
  have h2 : sm m (fun i => c1 m n (T.b i) * T.r i q) ≤ 0 := by
    have := sm_le (f := fun i => c1 m n (T.b i) * T.r i q) (g := fun _ => 0) m fun i hi => by
      have h1 := k i hi
      have h3 := mul_nn (c1_nn (m := m) (n := n) (T.b i)) (show 0 ≤ - T.r i q by grind)
      grind
    rwa [sm_zero] at this
  have h1 := c1_nn (m := m) (n := n) q
  unfold line at h
  grind
/-- y times the columns -/
theorem dot_two (y : Nat → Rat) (x : Nat → Rat) (h : ∀ k, k < m → sm n (fun j => A k j * x j) = A k (n + m)) : sm m (fun k => y k * A k (n + m)) = sm n (fun j => sm m (fun k => y k * A k j) * x j) := by
  rw [sm_ext m (g := fun k => sm n fun j => y k * (A k j * x j)) fun k hk => by rw [← h k hk, sm_mul]]
  rw [sm_swap]
  refine sm_ext n fun j _ => ?_
  rw [sm_ext m (g := fun k => (y k * A k j) * x j) fun k _ => by grind]
  rw [sm_mulr]
theorem first_bar (V : Val m n A T) (hn : Nn m (n + m) T) (h : ∀ j, j < n + m → 0 ≤ line m (c1 m n) T j) (h0 : line m (c1 m n) T (n + m) ≠ 0) (x : Nat → Rat) : ¬ FeA m n A x := fun ⟨hx, hf⟩ => by
  have l := line_fac (c := c1 m n) V (j := n + m) (Nat.le_refl _)
  have e := dot_two (fac m n (c1 m n) T) x hf
  have h1 : sm n (fun j => sm m (fun k => fac m n (c1 m n) T k * A k j) * x j) ≤ 0 := by
    have := sm_le (f := fun j => sm m (fun k => fac m n (c1 m n) T k * A k j) * x j) (g := fun _ => 0) n fun j hj => by
      have h2 := h j (by omega)
      rw [line_fac V (by omega), c1_lo hj] at h2
      have h3 := mul_nn (show 0 ≤ - sm m (fun k => fac m n (c1 m n) T k * A k j) by grind) (hx j hj)
      grind
    rwa [sm_zero] at this
  have h2 : 0 ≤ sm m (fun i => c1 m n (T.b i) * T.r i (n + m)) := sm_nonneg m fun i hi => mul_nn (c1_nn _) (hn i hi)
  rw [c1_N] at l
  unfold line at l h0
  rw [c1_N] at l h0
  grind
theorem first_x (V : Val m n A T) (hn : Nn m (n + m) T) (h0 : line m (c1 m n) T (n + m) = 0) : ∀ i, i < m → n ≤ T.b i → T.r i (n + m) = 0 := fun i hi hb => by
  unfold line at h0
  rw [c1_N] at h0
  have h1 := sm_all0 (f := fun i => c1 m n (T.b i) * T.r i (n + m)) m (fun i hi => mul_nn (c1_nn _) (hn i hi)) (by grind) i hi
  rw [c1_hi hb (V.bl i hi)] at h1
  grind
/-! ### the second costs -/
def c2 (n : Nat) (c : Nat → Rat) (j : Nat) : Rat := if j < n then c j else 0
theorem c2_lo {j : Nat} (h : j < n) : c2 n c j = c j := if_pos h
theorem c2_hi {j : Nat} (h : n ≤ j) : c2 n c j = 0 := if_neg (by omega)
theorem Ar.step {N p q : Nat} {d : Nat → Rat} (h : Ar m n T) (C : Cho m N d n T p q) : Ar m n (piv T p q) := fun i hi hb => by
  have hq := C.hq
  by_cases e : i = p
  · subst e; rw [piv_bp] at hb; omega
  · rw [piv_bi T q e] at hb
    obtain ⟨h1, h2⟩ := h i hi hb
    have h3 := h2 q hq
    refine ⟨?_, fun j hj => ?_⟩
    · rw [piv_ri T q _ e, h1, h3]; grind
    · rw [piv_ri T q _ e, h2 j hj, h3]; grind
theorem Ar.rch {N : Nat} {d : Nat → Rat} (h : Ar m n T) (r : Rch m N d n T T') : Ar m n T' := by
  induction r with
  | refl => exact h
  | step _ C ih => exact ih.step C
/-- factors that bar less -/
def DuA (m n : Nat) (A : Nat → Nat → Rat) (c : Nat → Rat) (y : Nat → Rat) : Prop := ∀ j, j < n → sm m (fun k => y k * A k j) ≤ c j
theorem second_told (V : Val m n A T) (hA : Ar m n T) (h : ∀ j, j < n → 0 ≤ line m (c2 n c) T j) :
    DuA m n A c (fac m n (c2 n c) T) ∧ sm m (fun k => fac m n (c2 n c) T k * A k (n + m)) = sm n (fun j => c j * sol m (n + m) T j) := by
  constructor
  · intro j hj
    have h2 := h j hj
    rw [line_fac V (by omega), c2_lo hj] at h2
    grind
  · have l := line_fac (c := c2 n c) V (j := n + m) (Nat.le_refl _)
    have e := sum_base (m := m) (n := n) (T := T) (c2 n c) (n + m) fun i hi hb => by rw [(hA i hi hb).1]; grind
    rw [sm_ext n (f := fun j => c2 n c j * sol m (n + m) T j) (g := fun j => c j * sol m (n + m) T j) fun j hj => by rw [c2_lo hj]] at e
    unfold line at l
    rw [e]
    grind
theorem second_ends {q : Nat} (V : Val m n A T) (hA : Ar m n T) (hq : q < n) (h : line m (c2 n c) T q < 0) (k : ∀ i, i < m → ¬ 0 < T.r i q) (y : Nat → Rat) : ¬ DuA m n A c y := fun hd => by
  have h1 := hd q hq
  -- y times the column, by the base
  have e : sm m (fun k => y k * A k q) = sm m (fun i => sm m (fun k => y k * A k (T.b i)) * T.r i q) := by
    rw [sm_ext m (f := fun k => y k * A k q) (g := fun k => sm m fun i => y k * (A k (T.b i) * T.r i q)) fun k hk => by rw [V.iv k hk q (by omega), sm_mul]]
    rw [sm_swap]
    refine sm_ext m fun i _ => ?_
    rw [← sm_mulr]
    exact sm_ext m fun k _ => by grind
  have h2 : sm m (fun i => c2 n c (T.b i) * T.r i q) ≤ sm m (fun i => sm m (fun k => y k * A k (T.b i)) * T.r i q) := sm_le m fun i hi => by
    by_cases hb : T.b i < n
    · rw [c2_lo hb]
      have h3 := hd (T.b i) hb
      have h4 := mul_nn (show 0 ≤ c (T.b i) - sm m (fun k => y k * A k (T.b i)) by grind) (show 0 ≤ - T.r i q by have := k i hi; grind)
      grind
    · rw [(hA i hi (by omega)).2 q hq]
      grind
  unfold line at h
  rw [c2_lo hq] at h
  grind
end Sx
namespace Sx
variable {m n : Nat} {A : Nat → Nat → Rat} {T : Tb}
/-- factors that bar all weights: each column at most 0, the numbers above 0 -/
def BarA (m n : Nat) (A : Nat → Nat → Rat) (y : Nat → Rat) : Prop := (∀ j, j < n → sm m (fun k => y k * A k j) ≤ 0) ∧ 0 < sm m (fun k => y k * A k (n + m))
theorem first_told (V : Val m n A T) (hn : Nn m (n + m) T) (h : ∀ j, j < n + m → 0 ≤ line m (c1 m n) T j) (h0 : line m (c1 m n) T (n + m) ≠ 0) : BarA m n A (fac m n (c1 m n) T) := by
  constructor
  · intro j hj
    have h2 := h j (by omega)
    rw [line_fac V (by omega), c1_lo hj] at h2
    grind
  · have l := line_fac (c := c1 m n) V (j := n + m) (Nat.le_refl _)
    have h2 : 0 ≤ sm m (fun i => c1 m n (T.b i) * T.r i (n + m)) := sm_nonneg m fun i hi => mul_nn (c1_nn _) (hn i hi)
    rw [c1_N] at l
    unfold line at l h0
    rw [c1_N] at l h0
    grind
end Sx
set_option Elab.async false
set_option linter.all false
set_option maxRecDepth 100000
/-! zip of lists and tuples in any mixture -/
namespace Kz
open PySem PySem.Spec PyProof.Rows L2
/-- a tuple (true) or a list (false) that is read -/
def Sq : Bool → PySem.W.Frag → Hp → Addr → List V → Prop
  | true, K, H, a, xs => SqT K H a xs
  | false, K, H, a, xs => SqL K H a xs
def SqO : Bool → Heap → Addr → Array Value → Prop
  | true, h, a, its => h.IsTuple a its
  | false, h, a, its => h.IsList a its
def ItO : Bool → Heap → Addr → Addr → Nat → Prop
  | true, h, it, a, i => h.IsTupleIter it a i
  | false, h, it, a, i => h.IsListIter it a i
def itObj : Bool → Addr → Obj
  | true, a => { cls := .type "tuple_iterator", data := .fields #[.ref a, .int 0 0] }
  | false, a => { cls := .type "list_iterator", data := .fields #[.ref a, .int 0 0] }
theorem begins (k : Bool) (a : Addr) (its : Array Value) : Begins (.ref a) (itObj k a) fun h => SqO k h a its := by
  cases k
  · exact begins_list a its
  · exact begins_tuple a its
theorem draws {prog : Program} {w : World} {A : Around} (hh : A.handled = none) (k : Bool) (it a : Addr) (hne : a ≠ it) (its : Array Value) :
    Draws prog w A it [it, a] its.size (fun i v => its[i]? = some v) (fun i h => ItO k h it a i ∧ SqO k h a its) := by
  cases k
  · exact Draws.list hh it a hne its
  · exact Draws.tuple hh it a hne its
theorem ItO.rec' {k : Bool} {h : Heap} {it a : Addr} {i : Nat} (x : ItO k h it a i) : ∃ o, h.get? it = some o ∧ ∀ v, o.data ≠ .cell v := by
  cases k with
  | false =>
    obtain ⟨o, e, _, d⟩ := x
    exact ⟨o, e, fun v z => by rw [d] at z; cases z⟩
  | true =>
    obtain ⟨o, e, _, d⟩ := x
    exact ⟨o, e, fun v z => by rw [d] at z; cases z⟩
theorem ItO.stay {k : Bool} {h h' : Heap} {it a : Addr} {i : Nat} (x : ItO k h it a i) (f : ∀ o, h.get? it = some o → h'.get? it = some o) : ItO k h' it a i := by
  cases k with
  | false => exact Heap.IsListIter.at x fun o e => f o e
  | true => exact Heap.IsTupleIter.at x fun o e => f o e
theorem ItO.new {k : Bool} {h : Heap} {it a : Addr} (e : h.get? it = some (itObj k a)) : ItO k h it a 0 := by
  cases k with
  | false => exact ⟨_, e, rfl, rfl⟩
  | true => exact ⟨_, e, rfl, rfl⟩
theorem sq_inv {X : Cx} {pins : List (Addr × Obj)} {σ : L2.St} {H : Hp} {s : Shared} {k : Bool} {a : Addr} {xs : List V} (I : Inv X pins σ H s) (q : Sq k X.K H a xs) :
    ∃ its : List Value, Vals xs its ∧ SqO k s.heap a its.toArray ∧ a < s.heap.objs.size := by
  cases k with
  | false =>
    obtain ⟨its, r, p, _⟩ := I.list q
    exact ⟨its, r, p.isList, p.lt⟩
  | true =>
    obtain ⟨its, r, p, _⟩ := I.tuple q
    exact ⟨its, r, p, p.lt⟩
theorem sq_inj {X : Cx} {pins : List (Addr × Obj)} {σ : L2.St} {H : Hp} {s : Shared} {k : Bool} {a : Addr} {xs ys : List V} (I : Inv X pins σ H s) (q : Sq k X.K H a xs) (q' : Sq k X.K H a ys) : xs = ys := by
  cases k with
  | false => exact I.list_inj q q'
  | true => exact I.tuple_inj q q'
/-- what stands at a and b at each turn, in new pairs -/
def ItM (K : PySem.W.Frag) (k1 k2 : Bool) (a b : Addr) : It where
  go := fun i H => ∃ (xs ys : List V) (x y : V), Sq k1 K H a xs ∧ Sq k2 K H b ys ∧ xs[i]? = some x ∧ ys[i]? = some y
  yld := fun i H v H' => ∃ T x y, v = .ref T ∧ H T = none ∧ H' = upd H T (.tup [x, y]) ∧ (∀ xs, Sq k1 K H a xs → xs[i]? = some x) ∧ ∀ ys, Sq k2 K H b ys → ys[i]? = some y
  stop := fun i H => ∃ xs ys : List V, Sq k1 K H a xs ∧ Sq k2 K H b ys ∧ i ≤ xs.length ∧ i ≤ ys.length ∧ (i = xs.length ∨ i = ys.length)
/-- the five new cells of a zip -/
abbrev fpz (z : Addr) : List Addr := [z + 4, z + 2, z + 3, z, z + 1]
theorem ltn {z a : Nat} (h : a < z) (k : Nat) : a ≠ z + k ∧ z + k ≠ a := ⟨by omega, by omega⟩
theorem adn (z : Nat) {j k : Nat} (h : j ≠ k) : z + j ≠ z + k := by omega
theorem ad0 (z : Nat) {k : Nat} (h : 0 < k) : z ≠ z + k ∧ z + k ≠ z := ⟨by omega, by omega⟩
theorem out2 {x y c : Nat} (h : c ≠ x) (k : c ≠ y) : c ∉ [x, y] := by simp [h, k]
theorem sep {z a b : Addr} (ha : a < z) (hb : b < z) : ZipSep2 (z + 4) (z + 2) (z + 3) z (z + 1) [z, a] [z + 1, b] where
  TIz := adn z (by decide)
  TOz := adn z (by decide)
  TITO := adn z (by decide)
  TIi1 := (ad0 z (by decide)).2
  mem1 := List.mem_cons_self ..
  zf1 := out2 (ad0 z (by decide)).2 (ltn ha 4).2
  Tf1 := out2 (ad0 z (by decide)).2 (ltn ha 3).2
  TIi2 := adn z (by decide)
  mem2 := List.mem_cons_self ..
  zf2 := out2 (adn z (by decide)) (ltn hb 4).2
  Tf2 := out2 (adn z (by decide)) (ltn hb 3).2
  sep1_2 := out2 (ad0 z (by decide)).1 (Nat.ne_of_gt hb)
  sep2_1 := out2 (ad0 z (by decide)).2 (ltn ha 1).2
theorem ltz {z N : Nat} (h : z + 4 < N) : z < N ∧ z + 1 < N ∧ z + 2 < N ∧ z + 3 < N := ⟨by omega, by omega, by omega, by omega⟩
theorem lez {z c : Nat} (h : c = z + 4 ∨ c = z + 2 ∨ c = z + 3 ∨ c = z ∨ c = z + 1) : z ≤ c := by omega
def Tn (k1 k2 : Bool) (z a b : Addr) (i : Nat) (h : Heap) : Prop :=
  IsZip h (z + 4) (z + 2) (z + 3) .none ∧ IsTupOf2 h (z + 2) (.ref z) (.ref (z + 1)) ∧ (∃ x y, IsTupOf2 h (z + 3) x y) ∧ ItO k1 h z a i ∧ ItO k2 h (z + 1) b i
theorem turnM {P : Program} {w : World} {K : PySem.W.Frag} {elts : List Expr} {kk : Nat} {tpos : Pos} {k1 k2 : Bool} {a b z : Addr} (ha : a < z) (hb : b < z) :
    Turn P w K (.Tuple elts kk tpos) (ItM K k1 k2 a b) (fpz z) (z + 4) (Tn k1 k2 z a b) where
  mem := List.mem_cons_self ..
  obj := fun i h st c hc => by
    obtain ⟨h1, h2, ⟨x, y, h3⟩, h4, h5⟩ := st
    rcases (by simpa using hc : c = z + 4 ∨ c = z + 2 ∨ c = z + 3 ∨ c = z ∨ c = z + 1) with q | q | q | q | q <;> subst q
    · exact ⟨_, h1, fun v q => nomatch q⟩
    · exact ⟨_, h2, fun v q => nomatch q⟩
    · exact ⟨_, h3, fun v q => nomatch q⟩
    · exact h4.rec'
    · exact h5.rec'
  keep := fun i h h' st f => by
    obtain ⟨h1, h2, ⟨x, y, h3⟩, h4, h5⟩ := st
    exact ⟨f _ (by simp) _ h1, f _ (by simp) _ h2, ⟨x, y, f _ (by simp) _ h3⟩, h4.stay (f _ (by simp)), h5.stay (f _ (by simp))⟩
  item := by
    intro X eP ew eK hc i pins s σ H E I hf st hg
    subst eP ew eK
    obtain ⟨h1, h2, ⟨x0, y0, h3⟩, h4, h5⟩ := st
    obtain ⟨xs, ys, x, y, qx, qy, ex, ey⟩ := hg
    obtain ⟨us, rx, px, _⟩ := sq_inv I qx
    obtain ⟨ws, ry, py, _⟩ := sq_inv I qy
    obtain ⟨u, eu, ru⟩ := rx.get ex
    obtain ⟨v, ev, rv⟩ := ry.get ey
    have zl : z + 4 < s.heap.objs.size := Heap.lt_size h1
    have hi1 : i < us.toArray.size := by
      have := (List.getElem?_eq_some_iff.mp eu).1
      simpa using this
    have hi2 : i < ws.toArray.size := by
      have := (List.getElem?_eq_some_iff.mp ev).1
      simpa using this
    refine wpAny_pyNext_zipD2_item (sep ha hb) (draws (A := X.A.in1) (I.ok.hd hc) k1 z a (Nat.ne_of_lt ha) us.toArray) (draws (A := X.A.in1) (I.ok.hd hc) k2 (z + 1) b (ltn hb 1).1 ws.toArray) h1 h2 h3 ⟨h4, px⟩ ⟨h5, py⟩ hi1 hi2
      fun x1 x2 h' tk e1 e2 g1 g2 g3 g4 g5 g6 g7 => ?_
    have e1' : x1 = u := by
      have : us[i]? = some x1 := by simpa using e1
      rw [eu] at this
      exact (Option.some.inj this).symm
    have e2' : x2 = v := by
      have : ws[i]? = some x2 := by simpa using e2
      rw [ev] at this
      exact (Option.some.inj this).symm
    subst e1' e2'
    refine ⟨_, rfl, wpAny_letOwnedTupleGo_zip (s := { s with heap := h', toks := tk }) g1 fun h'' g1' sb => ?_⟩
    have up : ∀ c o, c ≠ z + 4 → h'.get? c = some o → h''.get? c = some o := fun c o ne q => (sb.2 c ne).trans q
    have pr : h''.get? s.heap.objs.size = some { cls := .type "tuple", data := .seq #[x1, x2] } := up _ _ (Nat.ne_of_gt zl) g5
    have new : ObjOk X.prog X.w (upd H s.heap.objs.size (.tup [x, y])) h'' s.heap.objs.size (.tup [x, y]) :=
      ⟨(by decide : (2 : Nat) ≤ sizeLine), [x1, x2], .cons ru (.cons rv .nil), ⟨_, pr, rfl, _, rfl⟩⟩
    have ne4 : ∀ {c : Addr}, c ∉ fpz z → c ≠ z + 4 ∧ c ≠ z + 3 ∧ c ≠ z ∧ c ≠ z + 1 := fun {c} n => by
      simp only [List.mem_cons, List.mem_nil_iff, or_false, not_or] at n
      exact ⟨n.1, n.2.2.1, n.2.2.2.1, n.2.2.2.2⟩
    have J : Inv X pins σ (upd H s.heap.objs.size (.tup [x, y])) { s with heap := h'', toks := tk } :=
      I.turnedNew (t' := tk) (ch := fpz z) (fun c o n q => by
        obtain ⟨n1, n2, n3, n4⟩ := ne4 n
        exact up c o n1 (g7 c o n1 n2 n3 n4 q)) hf (Nat.le_refl _) new
    refine ⟨.ref s.heap.objs.size, _, J, rfl, ⟨_, x, y, rfl, I.hok.fresh (Nat.le_refl _), rfl, fun l hl => by rw [sq_inj I hl qx]; exact ex, fun l hl => by rw [sq_inj I hl qy]; exact ey⟩,
      ⟨g1', up _ _ (adn z (by decide)) (g7 _ _ (adn z (by decide)) (adn z (by decide)) (ad0 z (by decide)).2 (adn z (by decide)) h2), ⟨_, _, up _ _ (adn z (by decide)) g2⟩, g3.1.stay fun o q => up _ o (ad0 z (by decide)).1 q, g4.1.stay fun o q => up _ o (adn z (by decide)) q⟩, fun c hcm => ?_⟩
    have lt : c < s.heap.objs.size := by
      rcases (by simpa using hcm : c = z + 4 ∨ c = z + 2 ∨ c = z + 3 ∨ c = z ∨ c = z + 1) with q | q | q | q | q <;> subst q
      · exact zl
      · exact (ltz zl).2.2.1
      · exact (ltz zl).2.2.2
      · exact (ltz zl).1
      · exact (ltz zl).2.1
    rw [upd_ne (Nat.ne_of_lt lt)]
    exact (hf c hcm).1
  done := by
    intro X eP ew eK hc i pins s σ H E I hf st hg
    subst eP ew eK
    obtain ⟨h1, h2, ⟨x0, y0, h3⟩, h4, h5⟩ := st
    obtain ⟨xs, ys, qx, qy, l1, l2, hend⟩ := hg
    obtain ⟨us, rx, px, _⟩ := sq_inv I qx
    obtain ⟨ws, ry, py, _⟩ := sq_inv I qy
    have s1 : us.toArray.size = xs.length := by simp [rx.length]
    have s2 : ws.toArray.size = ys.length := by simp [ry.length]
    refine wpAny_pyNext_zipD2_end (i := i) (sep ha hb) (draws (A := X.A.in1) (I.ok.hd hc) k1 z a (Nat.ne_of_lt ha) us.toArray) (draws (A := X.A.in1) (I.ok.hd hc) k2 (z + 1) b (ltn hb 1).1 ws.toArray) h1 h2 h3 ⟨h4, px⟩ ⟨h5, py⟩
      (by omega) (by omega) (by omega) fun h' tk f => ⟨rfl, I.turnedL (t' := tk) (ch := fpz z) (fun c o n q => ?_) hf⟩
    simp only [List.mem_cons, List.mem_nil_iff, or_false, not_or] at n
    exact f c o n.1 n.2.2.1 n.2.2.2.1 n.2.2.2.2 q
  self := fun A i s Q E st q => wpAny_pyIter_zip st.1 q

def iZipM (K : PySem.W.Frag) (ta : TA) : TI := fun σ H R => ta σ H fun vs H1 => ∃ k1 k2 a b xs ys, vs = [.ref a, .ref b] ∧ Sq k1 K H1 a xs ∧ Sq k2 K H1 b ys ∧ R (ItM K k1 k2 a b) H1
theorem pi_zipM {X : Cx} {e e2 : Expr} {ta : TA} {p pos tpos : Pos} {elts : List Expr} {kk : Nat} (hg : Gl X "zip") (hm : X.mg "zip" = none) (ha : PA X [e, e2] ta)
    (hs : starEach [e, e2] X.env = (false, eval e X.env) :: starEach [e2] X.env := by rfl) (hpl : (backTo pos (starEach [e2] X.env)).any (·.1) = false := by rfl) :
    PI X (.Tuple elts kk tpos) (.Call (.Name "zip" p) [e, e2] [] pos) (iZipM X.K ta) := by
  refine ⟨fun pins s σ H R I h => Call_ (ld_blt I hg hm boot_zip (callWith_type1 (thn (ha.run pos pins s σ H _ I h) fun us s1 q1 => ?_) hs hpl))⟩
  obtain ⟨vs, H1, I1, r1, k1, k2, a, b, xs, ys, ev, qx, qy, q⟩ := q1
  subst ev
  obtain ⟨u, v, rfl, ra, rb⟩ := vals2 r1
  cases ra
  cases rb
  obtain ⟨its, _, p1, la⟩ := sq_inv I1 qx
  obtain ⟨its2, _, p2, lb⟩ := sq_inv I1 qy
  refine zip_begins2 (begins k1 a its.toArray) (begins k2 b its2.toArray) p1 p2 fun h' hz hTI hTO o1 o2 hsz hk => wpAny_pyIter_zip hz ?_
  have I2 : Inv X pins σ H1 { s1 with heap := h' } := I1.kept (t' := s1.toks) hk
  refine ⟨s1.heap.objs.size + 4, fpz s1.heap.objs.size, _, _, H1, rfl, I2, turnM la lb, ⟨hz, hTI, ⟨_, _, hTO⟩, ItO.new o1, ItO.new o2⟩, fun c hcm => ?_, q⟩
  have le : s1.heap.objs.size ≤ c := lez (by simpa using hcm)
  exact I1.fpOk le (I1.hok.fresh le)
theorem walkM {K : PySem.W.Frag} {k1 k2 : Bool} {a b : Addr} {xs ys : List V} {n : Nat} (h1 : xs.length = n) (h2 : ys.length = n) :
    Walk (ItM K k1 k2 a b) n (fun H => Sq k1 K H a xs ∧ Sq k2 K H b ys) (YPair (fun i => xs[i]?) (fun i => ys[i]?)) := by
  refine ⟨fun i H hi q => ?_, fun H q => ⟨xs, ys, q.1, q.2, by omega, by omega, .inl h1.symm⟩, fun i H v H' _ q y => ?_⟩
  · have a1 : i < xs.length := by omega
    have a2 : i < ys.length := by omega
    exact ⟨xs, ys, xs[i], ys[i], q.1, q.2, by simp [a1], by simp [a2]⟩
  · obtain ⟨T, x, z, e1, e2, e3, e4, e5⟩ := y
    exact ⟨T, x, z, e1, e2, e3, e4 xs q.1, e5 ys q.2⟩
end Kz
set_option Elab.async false
set_option linter.all false
set_option maxRecDepth 100000
/-! data in place of heaps: what a def does, told of data -/
namespace Dl
open PySem L2
/-- data; the drawing hand; a class of Python's own; any other object by its address -/
inductive D where
  | non | bl (b : Bool) | int (i : Int) | str (s : Str) | lst (xs : List D) | tup (xs : List D) | hand | ty (n : String) | adr (a : Addr)
structure Hd where
  ha : Addr
  ca : Addr
  ns : List Int
structure HandAt (H : Hp) (h : Hd) : Prop where
  ex : ∃ i d s e : Int, H h.ha = some (.lst [.ref h.ca, .int i, .int d, .int s, .int e]) ∧ 0 ≤ i
  cs : H h.ca = some (.lst (h.ns.map V.int))
  ne : h.ca ≠ h.ha
  len : h.ns.length ≤ 63
mutual
/-- the value v is the data d, as the frozen heap F tells -/
inductive Rp (K : PySem.W.Frag) (o : Option Hd) (F : Hp) : V → D → Prop
  | non : Rp K o F .non .non
  | bl (b : Bool) : Rp K o F (.bl b) (.bl b)
  | int (i : Int) : Rp K o F (.int i) (.int i)
  | str (s : Str) : Rp K o F (.str s) (.str s)
  | lst {a : Addr} {xs : List V} {ds : List D} : F a = some (.lst xs) → RpA K o F xs ds → Rp K o F (.ref a) (.lst ds)
  | tup {a : Addr} {xs : List V} {ds : List D} : SqT K F a xs → RpA K o F xs ds → Rp K o F (.ref a) (.tup ds)
  | hand {h : Hd} : o = some h → Rp K o F (.ref h.ha) .hand
  | ty (n : String) : Rp K o F (.ty n) (.ty n)
  | adr (a : Addr) : Rp K o F (.ref a) (.adr a)
inductive RpA (K : PySem.W.Frag) (o : Option Hd) (F : Hp) : List V → List D → Prop
  | nil : RpA K o F [] []
  | cons {v : V} {vs : List V} {d : D} {ds : List D} : Rp K o F v d → RpA K o F vs ds → RpA K o F (v :: vs) (d :: ds)
end
theorem Same.sqT {K : PySem.W.Frag} {H H' : Hp} {a : Addr} {xs : List V} (e : Same H H') (h : SqT K H a xs) : SqT K H' a xs := by
  rcases h with (h | ⟨o, h⟩) | h
  · exact .inl (.inl (e _ _ h))
  · exact .inl (.inr ⟨o, e _ _ h⟩)
  · exact .inr h
theorem Same.upd {H : Hp} {p : Addr} {o : HO} (n : H p = none) : Same H (upd H p o) := fun b u e => by rw [upd_ne (ne_of_none e n)]; exact e
section
variable {K : PySem.W.Frag} {o : Option Hd} {F F' : Hp}
mutual
theorem Rp.same (e : Same F F') : ∀ {v : V} {d : D}, Rp K o F v d → Rp K o F' v d
  | _, _, .non => .non
  | _, _, .bl b => .bl b
  | _, _, .int i => .int i
  | _, _, .str s => .str s
  | _, _, .lst h r => .lst (e _ _ h) (RpA.same e r)
  | _, _, .tup h r => .tup (Same.sqT e h) (RpA.same e r)
  | _, _, .hand h => .hand h
  | _, _, .ty n => .ty n
  | _, _, .adr a => .adr a
theorem RpA.same (e : Same F F') : ∀ {vs : List V} {ds : List D}, RpA K o F vs ds → RpA K o F' vs ds
  | _, _, .nil => .nil
  | _, _, .cons h r => .cons (Rp.same e h) (RpA.same e r)
end
theorem RpA.length : ∀ {vs : List V} {ds : List D}, RpA K o F vs ds → vs.length = ds.length
  | _, _, .nil => rfl
  | _, _, .cons _ r => congrArg (· + 1) (RpA.length r)
theorem RpA.get : ∀ {vs : List V} {ds : List D} {i : Nat} {v : V}, RpA K o F vs ds → vs[i]? = some v → ∃ d, ds[i]? = some d ∧ Rp K o F v d
  | _, _, _, _, .nil, e => by simp at e
  | _, _, 0, _, .cons h _, e => by simp at e; subst e; exact ⟨_, rfl, h⟩
  | _, _, i + 1, v, .cons _ r, e => by
    obtain ⟨d, h1, h2⟩ := RpA.get (i := i) (v := v) r (by simpa using e)
    exact ⟨d, by simpa using h1, h2⟩
theorem RpA.getD : ∀ {vs : List V} {ds : List D} {i : Nat} {d : D}, RpA K o F vs ds → ds[i]? = some d → ∃ v, vs[i]? = some v ∧ Rp K o F v d
  | _, _, _, _, .nil, e => by simp at e
  | _, _, 0, _, .cons h _, e => by simp at e; subst e; exact ⟨_, rfl, h⟩
  | _, _, i + 1, d, .cons _ r, e => by
    obtain ⟨v, h1, h2⟩ := RpA.getD (i := i) (d := d) r (by simpa using e)
    exact ⟨v, by simpa using h1, h2⟩
theorem RpA.append : ∀ {vs : List V} {ds : List D} {ws : List V} {es : List D}, RpA K o F vs ds → RpA K o F ws es → RpA K o F (vs ++ ws) (ds ++ es)
  | _, _, _, _, .nil, h => h
  | _, _, _, _, .cons h r, h2 => .cons h (RpA.append r h2)
theorem RpA.one {v : V} {d : D} (h : Rp K o F v d) : RpA K o F [v] [d] := .cons h .nil
theorem RpA.set : ∀ {vs : List V} {ds : List D} {v : V} {d : D} (i : Nat), RpA K o F vs ds → Rp K o F v d → RpA K o F (vs.set i v) (ds.set i d)
  | _, _, _, _, _, .nil, _ => .nil
  | _, _, _, _, 0, .cons _ r, h => .cons h r
  | _, _, _, _, i + 1, .cons q r, h => .cons q (RpA.set i r h)
theorem Rp.inv_int {v : V} {i : Int} (h : Rp K o F v (.int i)) : v = .int i := by cases h; rfl
theorem Rp.inv_bl {v : V} {b : Bool} (h : Rp K o F v (.bl b)) : v = .bl b := by cases h; rfl
theorem Rp.inv_str {v : V} {s : Str} (h : Rp K o F v (.str s)) : v = .str s := by cases h; rfl
theorem Rp.inv_non {v : V} (h : Rp K o F v .non) : v = .non := by cases h; rfl
theorem Rp.inv_tup {v : V} {ds : List D} (h : Rp K o F v (.tup ds)) : ∃ a xs, v = .ref a ∧ SqT K F a xs ∧ RpA K o F xs ds := by cases h with | tup a b => exact ⟨_, _, rfl, a, b⟩
theorem Rp.inv_lst {v : V} {ds : List D} (h : Rp K o F v (.lst ds)) : ∃ a xs, v = .ref a ∧ F a = some (.lst xs) ∧ RpA K o F xs ds := by cases h with | lst a b => exact ⟨_, _, rfl, a, b⟩
theorem Rp.inv_adr {v : V} {a : Addr} (h : Rp K o F v (.adr a)) : v = .ref a := by cases h; rfl
theorem Rp.inv_ty {v : V} {n : String} (h : Rp K o F v (.ty n)) : v = .ty n := by cases h; rfl
theorem Rp.inv_hand {v : V} (h : Rp K o F v .hand) : ∃ h, o = some h ∧ v = .ref h.ha := by cases h with | hand e => exact ⟨_, e, rfl⟩
end
/-! ### steps -/
def Mut : HO → Prop
  | .tup _ => False
  | .frz _ _ => False
  | .tbl _ => False
  | _ => True
/-- a code table that may grow -/
def isTb : HO → Prop
  | .tbl _ => True
  | _ => False
theorem notTb {u : HO} (m : Mut u) : ¬ isTb u := fun z => by cases u <;> first | exact z | exact m
/-- what a call may do to the heap: all but the hand is kept -/
structure Ext (o : Option Hd) (H H' : Hp) : Prop where
  kp : ∀ b u, (∀ h, o = some h → b ≠ h.ha) → ¬ isTb u → H b = some u → H' b = some u
  hd : ∀ h, o = some h → HandAt H h → HandAt H' h
  tb : (∀ h, o = some h → HandAt H h) → ∀ P q, LamX.TabS H P q → LamX.TabS H' P q
theorem Ext.refl {o : Option Hd} {H : Hp} : Ext o H H := ⟨fun _ _ _ _ e => e, fun _ _ h => h, fun _ _ _ h => h⟩
theorem Ext.trans {o : Option Hd} {H H1 H2 : Hp} (a : Ext o H H1) (b : Ext o H1 H2) : Ext o H H2 := ⟨fun c u n t e => b.kp c u n t (a.kp c u n t e), fun h e q => b.hd h e (a.hd h e q), fun hh P q t => b.tb (fun h e => a.hd h e (hh h e)) P q (a.tb hh P q t)⟩
theorem HandAt.same {H H' : Hp} {h : Hd} (s : Same H H') (q : HandAt H h) : HandAt H' h := by
  obtain ⟨i, d, x, e, h1, h2⟩ := q.ex
  exact ⟨⟨i, d, x, e, s _ _ h1, h2⟩, s _ _ q.cs, q.ne, q.len⟩
theorem Ext.of {o : Option Hd} {H H' : Hp} (s : Same H H') : Ext o H H' := ⟨fun b u _ _ e => s b u e, fun _ _ q => q.same s, fun _ _ _ t => t.ext s⟩
structure Stp (o : Option Hd) (F H F' H' : Hp) : Prop where
  fs : Same F F'
  sm : Same F' H'
  ex : Ext o H H'
  fr : ∀ b u, F b = none → H b = some u → Mut u → F' b = none
structure Ok (o : Option Hd) (pb : Addr → Prop) (F H : Hp) : Prop where
  sm : Same F H
  hd : ∀ h, o = some h → HandAt H h ∧ F h.ha = none
  pr : ∀ b, pb b → F b = none ∧ ∃ u, H b = some u ∧ Mut u
section
variable {K : PySem.W.Frag} {o : Option Hd} {pb : Addr → Prop} {F H F' H' F2 H2 : Hp}
theorem Stp.refl (s : Same F H) : Stp o F H F H := ⟨Same.refl _, s, .refl, fun _ _ e _ _ => e⟩
/-- what may change stays of the kind -/
theorem Ext.mut (e : Ext o H H') (hh : ∀ h, o = some h → HandAt H h) {b : Addr} {u : HO} (hb : H b = some u) (m : Mut u) : ∃ u', H' b = some u' ∧ Mut u' := by
  by_cases z : ∀ h, o = some h → b ≠ h.ha
  · exact ⟨u, e.kp b u z (notTb m) hb, m⟩
  · obtain ⟨h, z⟩ := Classical.not_forall.mp z
    obtain ⟨eo, z⟩ := Classical.not_imp.mp z
    have z : b = h.ha := Classical.not_not.mp z
    obtain ⟨i, d, x, e2, h1, _⟩ := (e.hd h eo (hh h eo)).ex
    exact ⟨.lst [.ref h.ca, .int i, .int d, .int x, .int e2], by rw [z]; exact h1, True.intro⟩
theorem Stp.trans (hh : ∀ h, o = some h → HandAt H h) (a : Stp o F H F' H') (b : Stp o F' H' F2 H2) : Stp o F H F2 H2 :=
  ⟨a.fs.trans b.fs, b.sm, a.ex.trans b.ex, fun c u e h m => by
    obtain ⟨u', h', m'⟩ := a.ex.mut hh h m
    exact b.fr c u' (a.fr c u e h m) h' m'⟩
theorem Ok.step (k : Ok o pb F H) (s : Stp o F H F' H') : Ok o pb F' H' where
  sm := s.sm
  hd := fun h e => by
    obtain ⟨h1, h2⟩ := k.hd h e
    obtain ⟨i, d, x, e2, h3, _⟩ := h1.ex
    exact ⟨s.ex.hd h e h1, s.fr _ _ h2 h3 True.intro⟩
  pr := fun b q => by
    obtain ⟨h1, u, h2, m⟩ := k.pr b q
    exact ⟨s.fr b u h1 h2 m, s.ex.mut (fun h e => (k.hd h e).1) h2 m⟩
theorem Ok.hh (k : Ok o pb F H) : ∀ h, o = some h → HandAt H h := fun h e => (k.hd h e).1
theorem Stp.tr (k : Ok o pb F H) (a : Stp o F H F' H') (b : Stp o F' H' F2 H2) : Stp o F H F2 H2 := Stp.trans k.hh a b
theorem free_of (s : Same F H) {p : Addr} (n : H p = none) : F p = none := by
  cases e : F p with
  | none => rfl
  | some u => have := s _ _ e; rw [n] at this; cases this
/-- a new thing, frozen -/
theorem Stp.new (s : Same F H) {p : Addr} (n : H p = none) (u : HO) : Stp o F H (upd F p u) (upd H p u) where
  fs := Same.upd (free_of s n)
  sm := fun b v e => by
    by_cases q : b = p
    · subst q
      rw [upd_same] at e ⊢
      exact e
    · rw [upd_ne q] at e ⊢
      exact s _ _ e
  ex := .of (Same.upd n)
  fr := fun b v e h _ => by rw [upd_ne (ne_of_none h n)]; exact e
/-- nothing changes but that new things stand -/
theorem Stp.grow (s : Same F H) (e : Same H H') : Stp o F H F H' := ⟨Same.refl _, s.trans e, .of e, fun _ _ h _ _ => h⟩
end
/-! ### slots -/
inductive DV where
  | no | dat (d : D) | own (ds : List D)
structure Sl (K : PySem.W.Frag) (o : Option Hd) (pb : Addr → Prop) (F H : Hp) (σ : St) (ρ : List DV) : Prop where
  len : ρ.length = σ.length
  dat : ∀ (i : Nat) (d : D), ρ[i]? = some (DV.dat d) → ∃ v, σ[i]? = some (some v) ∧ Rp K o F v d
  own : ∀ (i : Nat) (ds : List D), ρ[i]? = some (DV.own ds) → ∃ a xs, σ[i]? = some (some (V.ref a)) ∧ H a = some (.lst xs) ∧ RpA K o F xs ds ∧ F a = none ∧ (∀ h, o = some h → a ≠ h.ha ∧ a ≠ h.ca) ∧ ¬ pb a
  inj : ∀ (i j : Nat) (ds es : List D) (a : Addr), ρ[i]? = some (DV.own ds) → ρ[j]? = some (DV.own es) → σ[i]? = some (some (V.ref a)) → σ[j]? = some (some (V.ref a)) → i = j
section
variable {K : PySem.W.Frag} {o : Option Hd} {pb : Addr → Prop} {F H F' H' : Hp} {σ : St} {ρ : List DV}
theorem Sl.step (h : Sl K o pb F H σ ρ) (s : Stp o F H F' H') : Sl K o pb F' H' σ ρ where
  len := h.len
  dat := fun i d e => let ⟨v, h1, h2⟩ := h.dat i d e; ⟨v, h1, h2.same s.fs⟩
  own := fun i ds e => let ⟨a, xs, h1, h2, h3, h4, h5, h6⟩ := h.own i ds e; ⟨a, xs, h1, s.ex.kp _ _ (fun h e => (h5 h e).1) (fun z => z) h2, h3.same s.fs, s.fr _ _ h4 h2 True.intro, h5, h6⟩
  inj := h.inj
theorem Sl.setD (h : Sl K o pb F H σ ρ) {v : V} {d : D} (i : Nat) (r : Rp K o F v d) : Sl K o pb F H (σ.set i (some v)) (ρ.set i (DV.dat d)) where
  len := by rw [List.length_set, List.length_set, h.len]
  dat := fun j e hj => by
    rw [List.getElem?_set] at hj ⊢
    by_cases q : i = j
    · subst q
      rw [if_pos rfl] at hj ⊢
      rw [← h.len]
      by_cases z : i < ρ.length
      · rw [if_pos z] at hj ⊢
        cases hj
        exact ⟨v, rfl, r⟩
      · rw [if_neg z] at hj; cases hj
    · rw [if_neg q] at hj ⊢
      exact h.dat j e hj
  own := fun j es hj => by
    rw [List.getElem?_set] at hj ⊢
    by_cases q : i = j
    · subst q
      rw [if_pos rfl] at hj
      by_cases z : i < ρ.length
      · rw [if_pos z] at hj; cases hj
      · rw [if_neg z] at hj; cases hj
    · rw [if_neg q] at hj ⊢
      exact h.own j es hj
  inj := fun j l ds es a e1 e2 e3 e4 => by
    have go : ∀ {j : Nat} {ds : List D}, (ρ.set i (DV.dat d))[j]? = some (DV.own ds) → i ≠ j ∧ ρ[j]? = some (DV.own ds) := fun {j ds} e => by
      rw [List.getElem?_set] at e
      by_cases q : i = j
      · subst q
        rw [if_pos rfl] at e
        by_cases z : i < ρ.length
        · rw [if_pos z] at e; cases e
        · rw [if_neg z] at e; cases e
      · rw [if_neg q] at e
        exact ⟨q, e⟩
    obtain ⟨n1, f1⟩ := go e1
    obtain ⟨n2, f2⟩ := go e2
    rw [List.getElem?_set, if_neg n1] at e3
    rw [List.getElem?_set, if_neg n2] at e4
    exact h.inj j l ds es a f1 f2 e3 e4
end
end Dl
set_option Elab.async false
set_option linter.all false
set_option maxRecDepth 100000
namespace Dl
open PySem L2
/-- what stays fixed in a def's body: the written part, the hand, what must not be frozen, the wish of exceptions -/
structure Dc where
  K : PySem.W.Frag
  o : Option Hd
  pb : Addr → Prop
  W : WX
abbrev XD := Addr → List (Str × D) → Prop
abbrev GE := List DV → (D → Prop) → XD → Prop
abbrev GT := List DV → (Bool → Prop) → XD → Prop
abbrev GA := List DV → (List D → Prop) → XD → Prop
def RpF (K : PySem.W.Frag) (o : Option Hd) (F : Hp) (vs : List (Str × V)) (ds : List (Str × D)) : Prop := vs.map (·.1) = ds.map (·.1) ∧ RpA K o F (vs.map (·.2)) (ds.map (·.2))
def QL (c : Dc) (F H : Hp) (Q : VK) : D → Prop := fun d => ∀ F' H' v, Stp c.o F H F' H' → Rp c.K c.o F' v d → Q v H'
def QA (c : Dc) (F H : Hp) (Q : List V → Hp → Prop) : List D → Prop := fun ds => ∀ F' H' vs, Stp c.o F H F' H' → RpA c.K c.o F' vs ds → Q vs H'
def QT (c : Dc) (F H : Hp) (Q : Bool → Hp → Prop) : Bool → Prop := fun b => ∀ F' H', Stp c.o F H F' H' → Q b H'
def XL (c : Dc) (F H : Hp) (σ : St) : XD := fun C fs => ∀ F' H' dd vs, Stp c.o F H F' H' → H' dd = some (.xd vs) → RpF c.K c.o F' vs fs → c.W (.ref C) (some dd) σ H'
def tD (c : Dc) (g : GE) : TE := fun σ H Q => ∃ F ρ, Ok c.o c.pb F H ∧ Sl c.K c.o c.pb F H σ ρ ∧ g ρ (QL c F H Q) (XL c F H σ)
def tDT (c : Dc) (g : GT) : TT := fun σ H Q => ∃ F ρ, Ok c.o c.pb F H ∧ Sl c.K c.o c.pb F H σ ρ ∧ g ρ (QT c F H Q) (XL c F H σ)
def tDA (c : Dc) (g : GA) : TA := fun σ H Q => ∃ F ρ, Ok c.o c.pb F H ∧ Sl c.K c.o c.pb F H σ ρ ∧ g ρ (QA c F H Q) (XL c F H σ)
/-- g grows with what is wanted -/
structure Mn {α : Type} (g : List DV → (α → Prop) → XD → Prop) : Prop where
  up : ∀ {ρ : List DV} {P P' : α → Prop} {Z Z' : XD}, (∀ a, P a → P' a) → (∀ C fs, Z C fs → Z' C fs) → g ρ P Z → g ρ P' Z'
structure DE (X : Cx) (c : Dc) (e : Expr) (g : GE) : Prop where
  mono : Mn g
  pe : PE X e (tD c g)
structure DT (X : Cx) (c : Dc) (e : Expr) (g : GT) : Prop where
  mono : Mn g
  pt : PT X e (tDT c g)
structure DW (X : Cx) (c : Dc) (e : Expr) (g : GT) : Prop where
  mono : Mn g
  pw : PW X e (tDT c g)
theorem DW.t {X : Cx} {c : Dc} {e : Expr} {g : GT} (h : DW X c e g) : DT X c e g := ⟨h.mono, h.pw.pt⟩
structure DA (X : Cx) (c : Dc) (es : List Expr) (g : GA) : Prop where
  mono : Mn g
  pa : PA X es (tDA c g)
theorem PE.imp {X : Cx} {e : Expr} {t t' : TE} (h : PE X e t) (k : ∀ σ H Q, t' σ H Q → t σ H Q) : PE X e t' := ⟨fun pins s σ H Q I q => h.run pins s σ H Q I (k _ _ _ q)⟩
theorem PT.imp {X : Cx} {e : Expr} {t t' : TT} (h : PT X e t) (k : ∀ σ H Q, t' σ H Q → t σ H Q) : PT X e t' := ⟨fun pins s σ H Q I q => h.run pins s σ H Q I (k _ _ _ q)⟩
theorem PW.imp {X : Cx} {e : Expr} {t t' : TT} (h : PW X e t) (k : ∀ σ H Q, t' σ H Q → t σ H Q) : PW X e t' := ⟨fun wh pins s σ H Q I q => h.run wh pins s σ H Q I (k _ _ _ q)⟩
theorem PA.imp {X : Cx} {e : List Expr} {t t' : TA} (h : PA X e t) (k : ∀ σ H Q, t' σ H Q → t σ H Q) : PA X e t' := ⟨fun pos pins s σ H Q I q => h.run pos pins s σ H Q I (k _ _ _ q)⟩
theorem XL.step {c : Dc} {F H F' H' : Hp} {σ : St} (k : Ok c.o c.pb F H) (s : Stp c.o F H F' H') : ∀ C fs, XL c F H σ C fs → XL c F' H' σ C fs := fun _ _ h F2 H2 dd vs s2 e r => h F2 H2 dd vs (s.tr k s2) e r
section
variable {c : Dc} {F0 H0 F H : Hp} {σ : St} {ρ : List DV}
theorem go {g : GE} {P : D → Prop} {Q : VK} (m : Mn g) (k : Ok c.o c.pb F0 H0) (s : Stp c.o F0 H0 F H) (sl : Sl c.K c.o c.pb F0 H0 σ ρ) (w : g ρ P (XL c F0 H0 σ)) (q : ∀ d F' H' v, Stp c.o F H F' H' → Rp c.K c.o F' v d → P d → Q v H') : tD c g σ H Q :=
  ⟨F, ρ, k.step s, sl.step s, m.up (fun d p F' H' v s' r => q d F' H' v s' r p) (XL.step k s) w⟩
theorem goT {g : GT} {P : Bool → Prop} {Q : Bool → Hp → Prop} (m : Mn g) (k : Ok c.o c.pb F0 H0) (s : Stp c.o F0 H0 F H) (sl : Sl c.K c.o c.pb F0 H0 σ ρ) (w : g ρ P (XL c F0 H0 σ)) (q : ∀ b F' H', Stp c.o F H F' H' → P b → Q b H') : tDT c g σ H Q :=
  ⟨F, ρ, k.step s, sl.step s, m.up (fun b p F' H' s' => q b F' H' s' p) (XL.step k s) w⟩
theorem goA {g : GA} {P : List D → Prop} {Q : List V → Hp → Prop} (m : Mn g) (k : Ok c.o c.pb F0 H0) (s : Stp c.o F0 H0 F H) (sl : Sl c.K c.o c.pb F0 H0 σ ρ) (w : g ρ P (XL c F0 H0 σ)) (q : ∀ d F' H' v, Stp c.o F H F' H' → RpA c.K c.o F' v d → P d → Q v H') : tDA c g σ H Q :=
  ⟨F, ρ, k.step s, sl.step s, m.up (fun d p F' H' v s' r => q d F' H' v s' r p) (XL.step k s) w⟩
theorem Ok.rf (k : Ok c.o c.pb F H) : Stp c.o F H F H := Stp.refl k.sm
end
section
variable {X : Cx} {c : Dc} {e a b : Expr} {es : List Expr} {ga gb : GE} {gt gu : GT} {gs : GA} {pos : Pos}
/-! ### names and constants -/
def gC (d : D) : GE := fun _ Q _ => Q d
def gVar (i : Nat) : GE := fun ρ Q _ => ∃ d, ρ[i]? = some (.dat d) ∧ Q d
theorem mnC {d : D} : Mn (gC d) := ⟨fun h _ q => h _ q⟩
theorem mnVar {i : Nat} : Mn (gVar i) := ⟨fun h _ ⟨d, e, q⟩ => ⟨d, e, h _ q⟩⟩
theorem deC {v : V} {d : D} (h : PE X e (tC v)) (r : ∀ F, Rp c.K c.o F v d) : DE X c e (gC d) := ⟨mnC, PE.imp h fun σ H Q ⟨F, ρ, k, sl, w⟩ => w F H v k.rf (r F)⟩
theorem de_int {i : Int} {j : Nat} : DE X c (.Constant (.int i) j pos) (gC (.int i)) := deC pe_int fun _ => .int i
theorem de_str {x : Str} {j : Nat} : DE X c (.Constant (.str x) j pos) (gC (.str x)) := deC pe_str fun _ => .str x
theorem de_bl {x : Bool} {j : Nat} : DE X c (.Constant (.bool x) j pos) (gC (.bl x)) := deC pe_bl fun _ => .bl x
theorem de_non {j : Nat} : DE X c (.Constant .none j pos) (gC .non) := deC pe_non fun _ => .non
theorem dv (i : Nat) {x : Str} (hN : X.N[i]? = some x := by rfl) (hv : Vis X.env.scope x := by first | exact Or.inl rfl | exact Or.inr (Or.inl rfl) | exact Or.inr (Or.inr rfl)) (hd : (x == ("__debug__" : Str)) = false := by decide)
    (hcd : (x == ("__classdict__" : Str)) = false := by decide) : DE X c (.Name x pos) (gVar i) := ⟨mnVar, PE.imp (pe_var hN hv hd hcd) fun σ H Q ⟨F, ρ, k, sl, d, e, w⟩ => by
  obtain ⟨v, h1, h2⟩ := sl.dat i d e
  exact ⟨v, h1, w F H v k.rf h2⟩⟩
/-- a built-in's name as a value -/
theorem de_bltn {x : Str} {n : String} (h : PE X (.Name x pos) (tC (.ty n))) : DE X c (.Name x pos) (gC (.ty n)) := deC h fun _ => .ty n
/-! ### one, two parts -/
def g1 (f : D → (D → Prop) → Prop) (ga : GE) : GE := fun ρ Q Z => ga ρ (fun d => f d Q) Z
def g2 (f : D → D → (D → Prop) → Prop) (ga gb : GE) : GE := fun ρ Q Z => ga ρ (fun x => gb ρ (fun y => f x y Q) Z) Z
def gN (f : List D → (D → Prop) → Prop) (gs : GA) : GE := fun ρ Q Z => gs ρ (fun ds => f ds Q) Z
structure M1 {α : Type} (f : α → (D → Prop) → Prop) : Prop where
  up : ∀ {x : α} {P P' : D → Prop}, (∀ d, P d → P' d) → f x P → f x P'
structure M2 (f : D → D → (D → Prop) → Prop) : Prop where
  up : ∀ {x y : D} {P P' : D → Prop}, (∀ d, P d → P' d) → f x y P → f x y P'
theorem mn1 {f : D → (D → Prop) → Prop} (m : M1 f) (ma : Mn ga) : Mn (g1 f ga) := ⟨fun h z w => ma.up (fun _ q => m.up h q) z w⟩
theorem mn2 {f : D → D → (D → Prop) → Prop} (m : M2 f) (ma : Mn ga) (mb : Mn gb) : Mn (g2 f ga gb) := ⟨fun h z w => ma.up (fun _ q => mb.up (fun _ q => m.up h q) z q) z w⟩
theorem mnN {f : List D → (D → Prop) → Prop} (m : M1 f) (ma : Mn gs) : Mn (gN f gs) := ⟨fun h z w => ma.up (fun _ q => m.up h q) z w⟩
def R1 (c : Dc) (r : V → Hp → VK → Prop) (f : D → (D → Prop) → Prop) : Prop := ∀ F H v d (P : D → Prop) (Q : VK), Ok c.o c.pb F H → Rp c.K c.o F v d → f d P → (∀ d' F' H' u, P d' → Stp c.o F H F' H' → Rp c.K c.o F' u d' → Q u H') → r v H Q
def RR2 (c : Dc) (r : V → V → Hp → VK → Prop) (f : D → D → (D → Prop) → Prop) : Prop := ∀ F H v w x y (P : D → Prop) (Q : VK), Ok c.o c.pb F H → Rp c.K c.o F v x → Rp c.K c.o F w y → f x y P → (∀ d' F' H' u, P d' → Stp c.o F H F' H' → Rp c.K c.o F' u d' → Q u H') → r v w H Q
def RRN (c : Dc) (r : List V → Hp → VK → Prop) (f : List D → (D → Prop) → Prop) : Prop := ∀ F H vs ds (P : D → Prop) (Q : VK), Ok c.o c.pb F H → RpA c.K c.o F vs ds → f ds P → (∀ d' F' H' u, P d' → Stp c.o F H F' H' → Rp c.K c.o F' u d' → Q u H') → r vs H Q
theorem de1 {r : V → Hp → VK → Prop} {f : D → (D → Prop) → Prop} (up : PE X e (tUn r (tD c ga))) (m : M1 f) (ma : Mn ga) (l : R1 c r f) : DE X c e (g1 f ga) := ⟨mn1 m ma, PE.imp up fun σ H Q ⟨F, ρ, k, sl, w⟩ =>
  go ma k k.rf sl w fun d F' H' v s rp p => l F' H' v d _ Q (k.step s) rp p fun d' F2 H2 u pd s2 r2 => pd F2 H2 u (s.tr k s2) r2⟩
theorem de2 {r : V → V → Hp → VK → Prop} {f : D → D → (D → Prop) → Prop} (up : PE X e (tOp r (tD c ga) (tD c gb))) (m : M2 f) (ma : Mn ga) (mb : Mn gb) (l : RR2 c r f) : DE X c e (g2 f ga gb) := ⟨mn2 m ma mb, PE.imp up fun σ H Q ⟨F, ρ, k, sl, w⟩ =>
  go ma k k.rf sl w fun x F1 H1 v s1 rx p => go mb k s1 sl p fun y F2 H2 w' s2 ry p2 => l F2 H2 v w' x y _ Q (k.step (s1.tr k s2)) (rx.same s2.fs) ry p2 fun d' F3 H3 u pd s3 r3 => pd F3 H3 u ((s1.tr k s2).tr k s3) r3⟩
theorem deN {r : List V → Hp → VK → Prop} {f : List D → (D → Prop) → Prop} (up : PE X e (tCB r (tDA c gs))) (m : M1 f) (ma : Mn gs) (l : RRN c r f) : DE X c e (gN f gs) := ⟨mnN m ma, PE.imp up fun σ H Q ⟨F, ρ, k, sl, w⟩ =>
  goA ma k k.rf sl w fun ds F' H' vs s rp p => l F' H' vs ds _ Q (k.step s) rp p fun d' F2 H2 u pd s2 r2 => pd F2 H2 u (s.tr k s2) r2⟩
/-! ### lists of arguments -/
def gAn : GA := fun _ Q _ => Q []
def gAc (ga : GE) (gs : GA) : GA := fun ρ Q Z => ga ρ (fun d => gs ρ (fun ds => Q (d :: ds)) Z) Z
theorem da_nil : DA X c [] gAn := ⟨⟨fun h _ q => h _ q⟩, PA.imp pa_nil fun σ H Q ⟨F, ρ, k, sl, w⟩ => w F H [] k.rf .nil⟩
theorem da_cons (ha : DE X c a ga) (hr : DA X c es gs) (hs : starEach (a :: es) X.env = (false, eval a X.env) :: starEach es X.env := by rfl) : DA X c (a :: es) (gAc ga gs) := ⟨⟨fun h z w => ha.mono.up (fun _ q => hr.mono.up (fun _ q => h _ q) z q) z w⟩, PA.imp (pa_cons ha.pe hr.pa hs) fun σ H Q ⟨F, ρ, k, sl, w⟩ =>
  go ha.mono k k.rf sl w fun d F1 H1 v s1 rd p => goA hr.mono k s1 sl p fun ds F2 H2 vs s2 rs p2 => p2 F2 H2 (v :: vs) (s1.tr k s2) (.cons (rd.same s2.fs) rs)⟩
/-! ### displays -/
def fTup (ds : List D) (Q : D → Prop) : Prop := ds.length ≤ sizeLine ∧ Q (.tup ds)
def fLst (ds : List D) (Q : D → Prop) : Prop := ds.length ≤ sizeLine ∧ Q (.lst ds)
theorem de_tup {x1} (h : DA X c es gs) : DE X c (.Tuple es x1 pos) (gN fTup gs) := ⟨mnN ⟨fun h q => ⟨q.1, h _ q.2⟩⟩ h.mono, PE.imp (pe_tup h.pa) fun σ H Q ⟨F, ρ, k, sl, w⟩ =>
  goA h.mono k k.rf sl w fun ds F1 H1 vs s1 rs p => ⟨by rw [rs.length]; exact p.1, fun q nq => p.2 _ _ _ (s1.tr k (Stp.new s1.sm nq _)) (.tup (SqT.of upd_same) (rs.same (Same.upd (free_of s1.sm nq))))⟩⟩
theorem de_lst (h : DA X c es gs) : DE X c (.List es pos) (gN fLst gs) := ⟨mnN ⟨fun h q => ⟨q.1, h _ q.2⟩⟩ h.mono, PE.imp (pe_lst h.pa) fun σ H Q ⟨F, ρ, k, sl, w⟩ =>
  goA h.mono k k.rf sl w fun ds F1 H1 vs s1 rs p => ⟨by rw [rs.length]; exact p.1, fun q nq => p.2 _ _ _ (s1.tr k (Stp.new s1.sm nq _)) (.lst upd_same (rs.same (Same.upd (free_of s1.sm nq))))⟩⟩
/-! ### tests -/
def gB (g : GE) : GT := fun ρ Q Z => g ρ (fun d => ∃ b, d = .bl b ∧ Q b) Z
theorem mnB (m : Mn ga) : Mn (gB ga) := ⟨fun h z w => m.up (fun _ ⟨b, e, q⟩ => ⟨b, e, h _ q⟩) z w⟩
theorem dt_val (ha : DE X c e ga) (he : ∀ whole, isTrue e X.env whole = (do let v ← whole; standAt e.pos; holding [v] (truthy v)) := by intro _; rfl) : DT X c e (gB ga) := ⟨mnB ha.mono, PT.imp (pt_val ha.pe he) fun σ H Q ⟨F, ρ, k, sl, w⟩ =>
  go ha.mono k k.rf sl w fun d F' H' v s rp ⟨b, e, q⟩ => ⟨b, by subst e; exact rp.inv_bl, q F' H' s⟩⟩
/-- a comparison by its operator's rule, as a test -/
theorem dt_cmp {op : CmpOp} {r : R2} {f : D → D → (D → Prop) → Prop} (ho : OpR X (compareOp op) r) (ha : DE X c a ga) (hb : DE X c b gb) (m : M2 f) (l : RR2 c r f) (hm : behindInMarks op b = false) : DT X c (.Compare a [op] [b] pos) (gB (g2 f ga gb)) := by
  refine ⟨mnB (mn2 m ha.mono hb.mono), PT.imp (pt_cmpR ho ha.pe hb.pe hm) fun σ H Q ⟨F, ρ, k, sl, w⟩ => ?_⟩
  exact go ha.mono k k.rf sl w fun x F1 H1 v s1 rx p => go hb.mono k s1 sl p fun y F2 H2 w' s2 ry p2 => l F2 H2 v w' x y _ _ (k.step (s1.tr k s2)) (rx.same s2.fs) ry p2 fun d' F3 H3 u ⟨b, e, q⟩ s3 r3 => ⟨b, by subst e; exact r3.inv_bl, q F3 H3 ((s1.tr k s2).tr k s3)⟩
theorem de_cmp {op : CmpOp} {r : R2} {f : D → D → (D → Prop) → Prop} (ho : OpR X (compareOp op) r) (ha : DE X c a ga) (hb : DE X c b gb) (m : M2 f) (l : RR2 c r f) (hm : behindInMarks op b = false) : DE X c (.Compare a [op] [b] pos) (g2 f ga gb) := de2 (pe_cmpR ho ha.pe hb.pe hm) m ha.mono hb.mono l
theorem de_op {op : Operator} {r : R2} {f : D → D → (D → Prop) → Prop} (ho : OpR X (binaryOp op) r) (ha : DE X c a ga) (hb : DE X c b gb) (m : M2 f) (l : RR2 c r f) : DE X c (.BinOp a op b pos) (g2 f ga gb) := de2 (pe_op ho ha.pe hb.pe) m ha.mono hb.mono l
def gAnd (t u : GT) : GT := fun ρ Q Z => t ρ (fun x => if x = true then u ρ Q Z else Q false) Z
def gOr (t u : GT) : GT := fun ρ Q Z => t ρ (fun x => if x = true then Q true else u ρ Q Z) Z
def gNot (t : GT) : GT := fun ρ Q Z => t ρ (fun x => Q (!x)) Z
variable {rest : List Expr}
theorem dw_and1 (ha : DT X c a gt) : DW X c (.BoolOp .And [a] pos) gt := ⟨ha.mono, pw_and1 ha.pt⟩
theorem dw_or1 (ha : DT X c a gt) : DW X c (.BoolOp .Or [a] pos) gt := ⟨ha.mono, pw_or1 ha.pt⟩
theorem dw_and (ha : DT X c a gt) (hb : DW X c (.BoolOp .And (b :: rest) pos) gu) : DW X c (.BoolOp .And (a :: b :: rest) pos) (gAnd gt gu) := ⟨⟨fun h z w => ha.mono.up (fun x q => by cases x; exact h _ q; exact hb.mono.up h z q) z w⟩, PW.imp (pw_and ha.pt hb.pw) fun σ H Q ⟨F, ρ, k, sl, w⟩ =>
  goT ha.mono k k.rf sl w fun x F' H' s p => by
    cases x
    · exact p F' H' s
    · exact goT hb.mono k s sl p fun y F2 H2 s2 p2 => p2 F2 H2 (s.tr k s2)⟩
theorem dw_or (ha : DT X c a gt) (hb : DW X c (.BoolOp .Or (b :: rest) pos) gu) : DW X c (.BoolOp .Or (a :: b :: rest) pos) (gOr gt gu) := ⟨⟨fun h z w => ha.mono.up (fun x q => by cases x; exact hb.mono.up h z q; exact h _ q) z w⟩, PW.imp (pw_or ha.pt hb.pw) fun σ H Q ⟨F, ρ, k, sl, w⟩ =>
  goT ha.mono k k.rf sl w fun x F' H' s p => by
    cases x
    · exact goT hb.mono k s sl p fun y F2 H2 s2 p2 => p2 F2 H2 (s.tr k s2)
    · exact p F' H' s⟩
theorem dt_not (ha : DT X c a gt) : DT X c (.UnaryOp .Not a pos) (gNot gt) := ⟨⟨fun h z w => ha.mono.up (fun _ q => h _ q) z w⟩, PT.imp (pt_not ha.pt) fun σ H Q ⟨F, ρ, k, sl, w⟩ =>
  goT ha.mono k k.rf sl w fun x F' H' s p => p F' H' s⟩
/-! ### and, or, not as values -/
def fNot (d : D) (Q : D → Prop) : Prop := ∃ b, d = .bl b ∧ Q (.bl (!b))
def gAndV (ga gb : GE) : GE := fun ρ Q Z => ga ρ (fun d => ∃ x, d = .bl x ∧ if x = true then gb ρ Q Z else Q (.bl false)) Z
def gOrV (ga gb : GE) : GE := fun ρ Q Z => ga ρ (fun d => ∃ x, d = .bl x ∧ if x = true then Q (.bl true) else gb ρ Q Z) Z
theorem de_not (ha : DE X c a ga) : DE X c (.UnaryOp .Not a pos) (g1 fNot ga) := ⟨mn1 ⟨fun h ⟨b, e, q⟩ => ⟨b, e, h _ q⟩⟩ ha.mono, PE.imp (pe_not ha.pe) fun σ H Q ⟨F, ρ, k, sl, w⟩ =>
  go ha.mono k k.rf sl w fun d F' H' v s rp ⟨b, e, q⟩ => ⟨b, by subst e; exact rp.inv_bl, q F' H' _ s (.bl _)⟩⟩
theorem de_one {op} (h : DE X c a ga) : DE X c (.BoolOp op [a] pos) ga := ⟨h.mono, pe_one h.pe⟩
theorem de_and (ha : DE X c a ga) (hb : DE X c (.BoolOp .And (b :: rest) pos) gb) : DE X c (.BoolOp .And (a :: b :: rest) pos) (gAndV ga gb) := ⟨⟨fun h z w => ha.mono.up (fun _ ⟨x, e, q⟩ => ⟨x, e, by cases x; exact h _ q; exact hb.mono.up h z q⟩) z w⟩, PE.imp (pe_and ha.pe hb.pe) fun σ H Q ⟨F, ρ, k, sl, w⟩ =>
  go ha.mono k k.rf sl w fun d F' H' v s rp ⟨x, e, q⟩ => ⟨x, by subst e; exact rp.inv_bl, by
    cases x
    · exact q F' H' _ s (.bl _)
    · exact go hb.mono k s sl q fun d2 F2 H2 v2 s2 r2 p2 => p2 F2 H2 v2 (s.tr k s2) r2⟩⟩
theorem de_or (ha : DE X c a ga) (hb : DE X c (.BoolOp .Or (b :: rest) pos) gb) : DE X c (.BoolOp .Or (a :: b :: rest) pos) (gOrV ga gb) := ⟨⟨fun h z w => ha.mono.up (fun _ ⟨x, e, q⟩ => ⟨x, e, by cases x; exact hb.mono.up h z q; exact h _ q⟩) z w⟩, PE.imp (pe_or ha.pe hb.pe) fun σ H Q ⟨F, ρ, k, sl, w⟩ =>
  go ha.mono k k.rf sl w fun d F' H' v s rp ⟨x, e, q⟩ => ⟨x, by subst e; exact rp.inv_bl, by
    cases x
    · exact go hb.mono k s sl q fun d2 F2 H2 v2 s2 r2 p2 => p2 F2 H2 v2 (s.tr k s2) r2
    · exact q F' H' _ s (.bl _)⟩⟩
def gIf (t : GT) (ga gb : GE) : GE := fun ρ Q Z => t ρ (fun x => if x = true then ga ρ Q Z else gb ρ Q Z) Z
theorem de_if {t : Expr} (ht : DT X c t gt) (ha : DE X c a ga) (hb : DE X c b gb) : DE X c (.IfExp t a b pos) (gIf gt ga gb) := ⟨⟨fun h z w => ht.mono.up (fun x q => by cases x; exact hb.mono.up h z q; exact ha.mono.up h z q) z w⟩, PE.imp (pe_ifExp ht.pt ha.pe hb.pe) fun σ H Q ⟨F, ρ, k, sl, w⟩ =>
  goT ht.mono k k.rf sl w fun x F' H' s p => by
    cases x
    · exact go hb.mono k s sl p fun d2 F2 H2 v2 s2 r2 p2 => p2 F2 H2 v2 (s.tr k s2) r2
    · exact go ha.mono k s sl p fun d2 F2 H2 v2 s2 r2 p2 => p2 F2 H2 v2 (s.tr k s2) r2⟩
end
end Dl
set_option Elab.async false
set_option linter.all false
set_option maxRecDepth 100000
namespace Dl
open PySem L2
/-- an iterator that gives the items ds -/
def DWk (c : Dc) (F : Hp) (J : It) (ds : List D) : Prop := ∃ (G : Hp → Prop) (Y : Nat → Hp → V → Hp → Prop), Walk J ds.length G Y ∧ (∀ H, Same F H → G H) ∧
  ∀ i H x H' F2 d, Y i H x H' → Same F F2 → Same F2 H → ds[i]? = some d → ∃ F3, Stp c.o F2 H F3 H' ∧ Rp c.K c.o F3 x d
abbrev GI := List DV → (List D → Prop) → XD → Prop
def tDI (c : Dc) (g : GI) : TI := fun σ H R => ∃ F ρ, Ok c.o c.pb F H ∧ Sl c.K c.o c.pb F H σ ρ ∧ g ρ (fun ds => ∀ F' H' J, Stp c.o F H F' H' → DWk c F' J ds → R J H') (XL c F H σ)
structure DI (X : Cx) (c : Dc) (tg e : Expr) (g : GI) : Prop where
  mono : Mn g
  pi : PI X tg e (tDI c g)
theorem PI.imp {X : Cx} {tg e : Expr} {t t' : TI} (h : PI X tg e t) (k : ∀ σ H R, t' σ H R → t σ H R) : PI X tg e t' := ⟨fun pins s σ H R I q => h.run pins s σ H R I (k _ _ _ q)⟩
section
variable {X : Cx} {c : Dc} {tg e a b : Expr} {es : List Expr} {ga gb : GE} {gs : GA} {pos : Pos}
def giL (ga : GE) : GI := fun ρ Q Z => ga ρ (fun d => ∃ ds, d = .lst ds ∧ Q ds) Z
def giT (ga : GE) : GI := fun ρ Q Z => ga ρ (fun d => ∃ ds, d = .tup ds ∧ Q ds) Z
theorem wk_list {F : Hp} {a : Addr} {xs : List V} {ds : List D} (h : F a = some (.lst xs)) (r : RpA c.K c.o F xs ds) : DWk c F (Itl c.K a) ds := ⟨fun H => SqL c.K H a xs, YAt xs, by rw [← r.length]; exact walk_list, fun H s => SqL.of (s _ _ h), fun i H x H' F2 d y s1 s2 e => by
  obtain ⟨rfl, hx⟩ := y
  obtain ⟨d', h1, h2⟩ := r.get hx
  rw [e] at h1
  cases h1
  exact ⟨F2, Stp.refl s2, h2.same s1⟩⟩
theorem wk_tup {F : Hp} {a : Addr} {xs : List V} {ds : List D} (h : SqT c.K F a xs) (r : RpA c.K c.o F xs ds) : DWk c F (Itt c.K a) ds := ⟨fun H => SqT c.K H a xs, YAt xs, by rw [← r.length]; exact walk_tup, fun H s => Same.sqT s h, fun i H x H' F2 d y s1 s2 e => by
  obtain ⟨rfl, hx⟩ := y
  obtain ⟨d', h1, h2⟩ := r.get hx
  rw [e] at h1
  cases h1
  exact ⟨F2, Stp.refl s2, h2.same s1⟩⟩
theorem di_list (h : DE X c e ga) (hK : X.K = c.K := by rfl) : DI X c tg e (giL ga) := ⟨⟨fun h' z w => h.mono.up (fun _ ⟨ds, e, q⟩ => ⟨ds, e, h' _ q⟩) z w⟩, PI.imp (pi_list h.pe) fun σ H R ⟨F, ρ, k, sl, w⟩ =>
  go h.mono k k.rf sl w fun d F' H' v s rp ⟨ds, e, q⟩ => by
    subst e
    obtain ⟨a, xs, rfl, hs, r⟩ := rp.inv_lst
    rw [hK]
    exact ⟨a, rfl, ⟨xs, SqL.of (s.sm _ _ hs)⟩, q F' H' _ s (wk_list hs r)⟩⟩
theorem di_tup (h : DE X c e ga) (hK : X.K = c.K := by rfl) : DI X c tg e (giT ga) := ⟨⟨fun h' z w => h.mono.up (fun _ ⟨ds, e, q⟩ => ⟨ds, e, h' _ q⟩) z w⟩, PI.imp (pi_tup h.pe) fun σ H R ⟨F, ρ, k, sl, w⟩ =>
  go h.mono k k.rf sl w fun d F' H' v s rp ⟨ds, e, q⟩ => by
    subst e
    obtain ⟨a, xs, rfl, hs, r⟩ := rp.inv_tup
    rw [hK]
    exact ⟨a, rfl, ⟨xs, Same.sqT s.sm hs⟩, q F' H' _ s (wk_tup hs r)⟩⟩
/-- range(n) -/
def rngD (lo : Int) (n : Nat) : List D := (List.range n).map fun i => .int (lo + (i : Nat))
def giR1 (gs : GA) : GI := fun ρ Q Z => gs ρ (fun ds => ∃ n : Int, ds = [.int n] ∧ -(2 ^ 62) ≤ n ∧ n < 2 ^ 62 ∧ Q (rngD 0 n.toNat)) Z
theorem wk_range {F : Hp} {lo : Int} {n : Nat} : DWk c F (Itr lo n) (rngD lo n) := ⟨fun _ => True, YFn fun i => .int (lo + (i : Nat)), by rw [show (rngD lo n).length = n by simp [rngD]]; exact walk_range, fun _ _ => trivial, fun i H x H' F2 d y s1 s2 e => by
  obtain ⟨rfl, rfl⟩ := y
  simp only [rngD, List.getElem?_map, Option.map_eq_some_iff] at e
  obtain ⟨j, h1, rfl⟩ := e
  obtain ⟨h2, h3⟩ := List.getElem?_eq_some_iff.mp h1
  simp at h3
  subst h3
  exact ⟨F2, Stp.refl s2, .int _⟩⟩
theorem di_range1 {p : Pos} (hg : Gl X "range") (hm : X.mg "range" = none) (h : DA X c [a] gs) (hs : starEach [a] X.env = [(false, eval a X.env)] := by rfl) : DI X c tg (.Call (.Name "range" p) [a] [] pos) (giR1 gs) :=
  ⟨⟨fun h' z w => h.mono.up (fun _ ⟨n, e, q1, q2, q⟩ => ⟨n, e, q1, q2, h' _ q⟩) z w⟩, PI.imp (pi_range1 hg hm h.pa hs) fun σ H R ⟨F, ρ, k, sl, w⟩ =>
    goA h.mono k k.rf sl w fun ds F' H' vs s rp ⟨n, e, q1, q2, q⟩ => by
      subst e
      cases rp with
      | cons r1 r2 =>
        cases r2
        obtain rfl := r1.inv_int
        exact ⟨n, rfl, q1, q2, q F' H' _ s wk_range⟩⟩
/-- zip of two lists or tuples -/
inductive SqD : D → List D → Prop
  | lst (ds : List D) : SqD (.lst ds) ds
  | tup (ds : List D) : SqD (.tup ds) ds
def zipD (xs ys : List D) : List D := (xs.zip ys).map fun p => .tup [p.1, p.2]
end
/-! ### targets -/
abbrev GG := D → List DV → (List DV → Prop) → Prop
def ggN (i : Nat) : GG := fun d ρ Q => Q (ρ.set i (.dat d))
def ggT2 (i j : Nat) : GG := fun d ρ Q => ∃ x y, d = .tup [x, y] ∧ Q ((ρ.set i (.dat x)).set j (.dat y))
def ggT3 (i j l : Nat) : GG := fun d ρ Q => ∃ x y z, d = .tup [x, y, z] ∧ Q (((ρ.set i (.dat x)).set j (.dat y)).set l (.dat z))
def wipeD (ρ : List DV) : List Nat → List DV
  | [] => ρ
  | v :: vs => (wipeD ρ vs).set v .no
theorem Sl.wipe {K : PySem.W.Frag} {o : Option Hd} {pb : Addr → Prop} {F H : Hp} {σ : St} {ρ : List DV} (h : Sl K o pb F H σ ρ) : ∀ vs, Sl K o pb F H (wipe σ vs) (wipeD ρ vs)
  | [] => h
  | v :: vs => by
    have q := Sl.wipe h vs
    have go : ∀ {j : Nat} {u : DV}, u ≠ .no → ((wipeD ρ vs).set v .no)[j]? = some u → v ≠ j ∧ (wipeD ρ vs)[j]? = some u := fun {j u} n e => by
      rw [List.getElem?_set] at e
      by_cases z : v = j
      · subst z
        rw [if_pos rfl] at e
        split at e
        · exact (n (Option.some.inj e).symm).elim
        · cases e
      · rw [if_neg z] at e
        exact ⟨z, e⟩
    refine ⟨?_, fun i d e => ?_, fun i ds e => ?_, fun i j ds es a e1 e2 e3 e4 => ?_⟩
    · show ((wipeD ρ vs).set v .no).length = ((L2.wipe σ vs).set v none).length
      rw [List.length_set, List.length_set, q.len]
    · obtain ⟨n, e'⟩ := go (by intro z; cases z) e
      show ∃ w, ((L2.wipe σ vs).set v none)[i]? = _ ∧ _
      rw [List.getElem?_set, if_neg n]
      exact q.dat i d e'
    · obtain ⟨n, e'⟩ := go (by intro z; cases z) e
      show ∃ a xs, ((L2.wipe σ vs).set v none)[i]? = _ ∧ _
      rw [List.getElem?_set, if_neg n]
      exact q.own i ds e'
    · obtain ⟨n1, f1⟩ := go (by intro z; cases z) e1
      obtain ⟨n2, f2⟩ := go (by intro z; cases z) e2
      have e3 : ((L2.wipe σ vs).set v none)[i]? = _ := e3
      have e4 : ((L2.wipe σ vs).set v none)[j]? = _ := e4
      rw [List.getElem?_set, if_neg n1] at e3
      rw [List.getElem?_set, if_neg n2] at e4
      exact q.inj i j ds es a f1 f2 e3 e4
/-- a target's rule: what it stores -/
def Tgt (c : Dc) (g : TG) (gg : GG) (vs : List Nat) : Prop := ∀ (v : V) (σ : St) (H F : Hp) (d : D) (ρ : List DV) (P : List DV → Prop) (Q : St → Hp → Prop), Same F H → Rp c.K c.o F v d → Sl c.K c.o c.pb F H σ ρ → gg d ρ P →
  (∀ σ2 ρ2, L2.wipe σ2 vs = L2.wipe σ vs → Sl c.K c.o c.pb F H σ2 ρ2 → P ρ2 → Q σ2 H) → g v σ H Q
theorem wipe_set (i : Nat) (x : Option V) : ∀ (σ : St) (vs : List Nat), i ∈ vs → L2.wipe (σ.set i x) vs = L2.wipe σ vs
  | σ, [], h => by cases h
  | σ, v :: vs, h => by
    show (L2.wipe (σ.set i x) vs).set v none = (L2.wipe σ vs).set v none
    by_cases q : i ∈ vs
    · rw [wipe_set i x σ vs q]
    · have e : i = v := by
        rcases List.mem_cons.mp h with e | e
        · exact e
        · exact (q e).elim
      subst e
      have sw : ∀ (ws : List Nat) (σ : St), i ∉ ws → L2.wipe (σ.set i x) ws = (L2.wipe σ ws).set i x := by
        intro ws
        induction ws with
        | nil => intro σ _; rfl
        | cons w ws ih =>
          intro σ hw
          show (L2.wipe (σ.set i x) ws).set w none = ((L2.wipe σ ws).set w none).set i x
          rw [ih σ fun z => hw (List.mem_cons_of_mem _ z), List.set_comm _ _ (fun z => hw (by rw [z]; exact List.mem_cons_self))]
      rw [sw vs σ q, List.set_set]
theorem wipe_get (i : Nat) : ∀ (vs : List Nat) (σ : St), i ∈ vs → i < σ.length → (L2.wipe σ vs)[i]? = some none
  | [], _, h, _ => by cases h
  | v :: vs, σ, h, hl => by
    show ((L2.wipe σ vs).set v none)[i]? = some none
    rw [List.getElem?_set]
    by_cases e : v = i
    · rw [if_pos e, if_pos (by rw [wipe_length, e]; exact hl)]
    · rw [if_neg e]
      rcases List.mem_cons.mp h with z | z
      · exact (e z.symm).elim
      · exact wipe_get i vs σ z hl
theorem wipe_out (i : Nat) : ∀ (vs : List Nat) (σ : St), i ∉ vs → (L2.wipe σ vs)[i]? = σ[i]?
  | [], _, _ => rfl
  | v :: vs, σ, h => by
    show ((L2.wipe σ vs).set v none)[i]? = _
    rw [List.getElem?_set, if_neg (fun e => h (by rw [e]; exact List.mem_cons_self))]
    exact wipe_out i vs σ fun z => h (List.mem_cons_of_mem _ z)
theorem wipe_wipe (σ : St) (vs : List Nat) : L2.wipe (L2.wipe σ vs) vs = L2.wipe σ vs := by
  refine List.ext_getElem? fun i => ?_
  by_cases h : i ∈ vs
  · by_cases hl : i < σ.length
    · rw [wipe_get i vs _ h (by rw [wipe_length]; exact hl), wipe_get i vs _ h hl]
    · rw [List.getElem?_eq_none (by rw [wipe_length, wipe_length]; omega), List.getElem?_eq_none (by rw [wipe_length]; omega)]
  · rw [wipe_out i vs _ h]
theorem tgN {c : Dc} {i : Nat} {vs : List Nat} (h : i ∈ vs := by decide) : Tgt c (gName i) (ggN i) vs := fun v σ H F d ρ P Q s r sl q kk => kk _ _ (wipe_set i _ σ vs h) (sl.setD i r) q
theorem tgT2 {c : Dc} {i j : Nat} {vs : List Nat} (hi : i ∈ vs := by decide) (hj : j ∈ vs := by decide) : Tgt c (gTup c.K 2 (gCons (gName i) (gCons (gName j) gNil))) (ggT2 i j) vs := fun v σ H F d ρ P Q s r sl ⟨x, y, e, q⟩ kk => by
  subst e
  obtain ⟨a, xs, rfl, hs, ra⟩ := r.inv_tup
  cases ra with
  | cons r1 ra =>
    cases ra with
    | cons r2 ra =>
      cases ra
      exact ⟨a, _, rfl, Same.sqT s hs, rfl, _, _, rfl, _, _, rfl, rfl, kk _ _ (by rw [wipe_set j _ _ vs hj, wipe_set i _ _ vs hi]) ((sl.setD i r1).setD j r2) q⟩
theorem tgT3 {c : Dc} {i j l : Nat} {vs : List Nat} (hi : i ∈ vs := by decide) (hj : j ∈ vs := by decide) (hl : l ∈ vs := by decide) : Tgt c (gTup c.K 3 (gCons (gName i) (gCons (gName j) (gCons (gName l) gNil)))) (ggT3 i j l) vs := fun v σ H F d ρ P Q s r sl ⟨x, y, z, e, q⟩ kk => by
  subst e
  obtain ⟨a, xs, rfl, hs, ra⟩ := r.inv_tup
  cases ra with
  | cons r1 ra =>
    cases ra with
    | cons r2 ra =>
      cases ra with
      | cons r3 ra =>
        cases ra
        exact ⟨a, _, rfl, Same.sqT s hs, rfl, _, _, rfl, _, _, rfl, _, _, rfl, rfl, kk _ _ (by rw [wipe_set l _ _ vs hl, wipe_set j _ _ vs hj, wipe_set i _ _ vs hi]) (((sl.setD i r1).setD j r2).setD l r3) q⟩
structure MG (gg : GG) : Prop where
  up : ∀ {d : D} {ρ : List DV} {P P' : List DV → Prop}, (∀ r, P r → P' r) → gg d ρ P → gg d ρ P'
theorem mgN {i : Nat} : MG (ggN i) := ⟨fun h q => h _ q⟩
theorem mgT2 {i j : Nat} : MG (ggT2 i j) := ⟨fun h ⟨x, y, e, q⟩ => ⟨x, y, e, h _ q⟩⟩
theorem mgT3 {i j l : Nat} : MG (ggT3 i j l) := ⟨fun h ⟨x, y, z, e, q⟩ => ⟨x, y, z, e, h _ q⟩⟩
/-! ### comprehensions -/
abbrev Z0 : XD := fun _ _ => False
abbrev Dc.calm (c : Dc) : Dc := { c with W := fun _ _ _ _ => False }
def lcRun (gg : GG) (gt : GT) (ge : GE) (ρ : List DV) (Q : List D → Prop) : List D → List D → Prop
  | [], acc => Q acc
  | d :: ds, acc => gg d ρ fun ρ1 => gt ρ1 (fun b => if b = true then ge ρ1 (fun y => acc.length < sizeLine ∧ lcRun gg gt ge ρ Q ds (acc ++ [y])) Z0 else lcRun gg gt ge ρ Q ds acc) Z0
theorem lcRun_up {gg : GG} {gt : GT} {ge : GE} (mg : MG gg) (mt : Mn gt) (me : Mn ge) {ρ : List DV} {Q Q' : List D → Prop} (h : ∀ d, Q d → Q' d) : ∀ (ds acc : List D), lcRun gg gt ge ρ Q ds acc → lcRun gg gt ge ρ Q' ds acc
  | [], _, q => h _ q
  | d :: ds, acc, q => mg.up (fun ρ1 q => mt.up (fun b q => by
      cases b
      · exact lcRun_up mg mt me h ds acc q
      · exact me.up (fun y q => ⟨q.1, lcRun_up mg mt me h ds _ q.2⟩) (fun _ _ z => z) q) (fun _ _ z => z) q) q
def gLc (gi : GI) (gg : GG) (gt : GT) (ge : GE) (vs : List Nat) : GE := fun ρ Q Z => gi ρ (fun ds => lcRun gg gt ge (wipeD ρ vs) (fun acc => Q (.lst acc)) ds []) Z
def gYes : GT := fun _ Q _ => Q true
theorem mnYes : Mn gYes := ⟨fun h _ q => h _ q⟩
structure DTs (X : Cx) (c : Dc) (es : List Expr) (g : GT) : Prop where
  mono : Mn g
  pt : PTs X es (tDT c g)
theorem dts_nil {X : Cx} {c : Dc} : DTs X c [] gYes := ⟨mnYes, ⟨fun pins s σ H Q I ⟨F, ρ, k, sl, w⟩ => pts_nil.run pins s σ H Q I (w F H k.rf)⟩⟩
theorem dts_one {X : Cx} {c : Dc} {e : Expr} {g : GT} (h : DT X c e g) : DTs X c [e] g := ⟨h.mono, pts_one h.pt⟩
section
variable {X : Cx} {c : Dc}
/-- a list is written: the tables stay -/
theorem tabs_upd {H : Hp} {a P : Addr} {q : Str} {xs ys : List V} (t : LamX.TabS H P q) (h : H a = some (.lst xs)) : LamX.TabS (upd H a (.lst ys)) P q := by
  obtain ⟨ps, h1, h2, h3⟩ := t
  refine ⟨ps, by rw [upd_ne (fun z => by rw [z, h] at h1; cases h1)]; exact h1, h2, fun pos cv e => ?_⟩
  obtain ⟨c, e1, e2⟩ := h3 pos cv e
  exact ⟨c, e1, by rw [upd_ne (fun z => by rw [z, h] at e2; cases e2)]; exact e2⟩
theorem lc_gen {gi : GI} {gg : GG} {gt : GT} {ge : GE} {g : TG} {vs : List Nat} (tg : Tgt c.calm g gg vs) (mg : MG gg) (mt : Mn gt) (me : Mn ge) (mi : Mn gi) {σ : St} {H F : Hp} {ρ : List DV} {Q : VK} {R : List D → Prop} (k : Ok c.o c.pb F H) (sl : Sl c.K c.o c.pb F H σ ρ) (w : gi ρ (fun ds => lcRun gg gt ge (wipeD ρ vs) R ds []) (XL c F H σ))
    (fin : ∀ F1 H1 F2 H2 L acc accD, Stp c.o F H F1 H1 → Stp c.o F1 H1 F2 H2 → H1 L = none → H2 L = some (.lst acc) → F2 L = none → RpA c.K c.o F2 acc accD → R accD → Q (.ref L) H2) :
    tLc (tDI c gi) g (tDT c.calm gt) (tD c.calm ge) vs σ H Q := by
  refine ⟨F, ρ, k, sl, mi.up (fun ds q F1 H1 J s1 wk L nL => ?_) (fun _ _ z => z) w⟩
  obtain ⟨G, Y, W, hG, hY⟩ := wk
  have k1 := k.step s1
  have FL : F1 L = none := free_of k1.sm nL
  have Lh : ∀ h, c.o = some h → L ≠ h.ha := fun h e z => by
    obtain ⟨i, d, x, e2, h1, _⟩ := (k1.hd h e).1.ex
    rw [z, h1] at nL
    cases nL
  refine lc_it W (tt := tDT c.calm gt) (te := tD c.calm ge) (vs := vs) (σ := σ) (fun i H2 => ∃ F2 acc accD, Stp c.o F1 H1 F2 H2 ∧ H2 L = some (.lst acc) ∧ F2 L = none ∧ RpA c.K c.o F2 acc accD ∧ lcRun gg gt ge (wipeD ρ vs) R (ds.drop i) accD)
    ⟨F1, [], [], Stp.grow k1.sm (Same.upd nL), upd_same, FL, .nil, by rw [List.drop_zero]; exact q⟩ (fun i H2 _ ⟨F2, acc, accD, s2, _⟩ => hG H2 (s2.fs.trans s2.sm)) ?_ ?_
  · rintro i x H2 H3 hi ⟨F2, acc, accD, s2, hL, fL, ra, run⟩ hy
    have hd : ds[i]? = some ds[i] := List.getElem?_eq_getElem hi
    rw [List.drop_eq_getElem_cons hi] at run
    obtain ⟨F3, s3, rx⟩ := hY i H2 x H3 F2 _ hy s2.fs s2.sm hd
    have s13 := s2.tr k1 s3
    have k3 := k1.step s13
    have hL3 : H3 L = some (.lst acc) := s3.ex.kp _ _ Lh (fun z => z) hL
    have fL3 : F3 L = none := s3.fr _ _ fL hL True.intro
    have sl3 : Sl c.K c.o c.pb F3 H3 (L2.wipe σ vs) (wipeD ρ vs) := (sl.step (s1.tr k s13)).wipe vs
    refine tg x (L2.wipe σ vs) H3 F3 _ (wipeD ρ vs) _ _ k3.sm rx sl3 run fun σ2 ρ2 hw sl2 p2 => ⟨by rw [hw, wipe_wipe], ?_⟩
    have k3' : Ok c.calm.o c.calm.pb F3 H3 := k3
    refine goT mt k3' k3'.rf sl2 (mt.up (fun _ q => q) (fun _ _ z => z.elim) p2) fun b F4 H4 s4 p4 => ?_
    have s14 := s13.tr k1 s4
    have hL4 : H4 L = some (.lst acc) := s4.ex.kp _ _ Lh (fun z => z) hL3
    have fL4 : F4 L = none := s4.fr _ _ fL3 hL3 True.intro
    have r4 := ra.same (s3.fs.trans s4.fs)
    cases b with
    | false => exact ⟨F4, acc, accD, s14, hL4, fL4, r4, p4⟩
    | true =>
      refine go me k3' s4 sl2 (me.up (fun _ q => q) (fun _ _ z => z.elim) p4) fun y F5 H5 v s5 r5 p5 => ?_
      have s15 := s14.tr k1 s5
      have hL5 : H5 L = some (.lst acc) := s5.ex.kp _ _ Lh (fun z => z) hL4
      have fL5 : F5 L = none := s5.fr _ _ fL4 hL4 True.intro
      have rl := r4.length
      refine ⟨acc, hL5, by rw [rl]; exact p5.1, F5, acc ++ [v], accD ++ [y], ⟨s15.fs, fun b u e => ?_, ⟨fun b u n t e => ?_, fun h e q => ?_, fun hh P q t => ?_⟩, s15.fr⟩, upd_same, fL5, (r4.same s5.fs).append (.one r5), p5.2⟩
      · rw [upd_ne (ne_of_none e fL5)]
        exact s15.sm _ _ e
      · rw [upd_ne (ne_of_none e nL)]
        exact s15.ex.kp b u n t e
      · have q5 := s15.ex.hd h e q
        obtain ⟨i, d, x, e2, h1, h2⟩ := q5.ex
        have nc : h.ca ≠ L := fun z => by
          have := q.cs
          rw [z, nL] at this
          cases this
        exact ⟨⟨i, d, x, e2, by rw [upd_ne (Lh h e).symm]; exact h1, h2⟩, by rw [upd_ne nc]; exact q5.cs, q5.ne, q5.len⟩
      · exact tabs_upd (s15.ex.tb hh P q t) hL5
  · rintro H2 ⟨F2, acc, accD, s2, hL, fL, ra, run⟩
    rw [List.drop_length] at run
    exact fin F1 H1 F2 H2 L acc accD s1 s2 nL hL fL ra run
theorem lc_go {gi : GI} {gg : GG} {gt : GT} {ge : GE} {g : TG} {vs : List Nat} (tg : Tgt c.calm g gg vs) (mg : MG gg) (mt : Mn gt) (me : Mn ge) (mi : Mn gi) {σ : St} {H : Hp} {Q : VK} (h : tD c (gLc gi gg gt ge vs) σ H Q) :
    tLc (tDI c gi) g (tDT c.calm gt) (tD c.calm ge) vs σ H Q := by
  obtain ⟨F, ρ, k, sl, w⟩ := h
  refine lc_gen tg mg mt me mi k sl w fun F1 H1 F2 H2 L acc accD s1 s2 nL hL fL ra run => ?_
  have FL : F1 L = none := free_of s1.sm nL
  have s12 : Stp c.o F1 H1 (upd F2 L (.lst acc)) H2 := by
    refine ⟨fun b u e => ?_, fun b u e => ?_, s2.ex, fun b u e1 e2 m => ?_⟩
    · rw [upd_ne (ne_of_none e FL)]
      exact s2.fs _ _ e
    · by_cases z : b = L
      · subst z
        rw [upd_same] at e
        rw [hL, ← e]
      · rw [upd_ne z] at e
        exact s2.sm _ _ e
    · rw [upd_ne (ne_of_none e2 nL)]
      exact s2.fr b u e1 e2 m
  exact run _ _ _ (s1.tr k s12) (.lst upd_same (ra.same (Same.upd fL)))
/-- a comprehension without a test over any items: R what each becomes -/
theorem lc_map {gg : GG} {ge : GE} {ρ : List DV} {Q : List D → Prop} {xs : List D} (R : Nat → D → Prop) (hl : xs.length < sizeLine) (st : ∀ i x, xs[i]? = some x → ∀ K : D → Prop, (∀ y, R i y → K y) → gg x ρ fun ρ1 => ge ρ1 K Z0)
    (fin : ∀ ys : List D, ys.length = xs.length → (∀ (i : Nat) (y : D), ys[i]? = some y → R i y) → Q ys) : lcRun gg gYes ge ρ Q xs [] := by
  have main : ∀ (n : Nat) (acc : List D), n ≤ xs.length → acc.length = xs.length - n → (∀ (i : Nat) (y : D), acc[i]? = some y → R i y) → lcRun gg gYes ge ρ Q (xs.drop (xs.length - n)) acc := by
    intro n
    induction n with
    | zero =>
      intro acc _ h1 h2
      rw [Nat.sub_zero, List.drop_length]
      exact fin acc (by omega) h2
    | succ n ih =>
      intro acc hn h1 h2
      have hi : xs.length - (n + 1) < xs.length := by omega
      rw [List.drop_eq_getElem_cons hi]
      have e : xs.length - (n + 1) + 1 = xs.length - n := by omega
      rw [e]
      have q := st _ _ (List.getElem?_eq_getElem hi) (fun y => acc.length < sizeLine ∧ lcRun gg gYes ge ρ Q (xs.drop (xs.length - n)) (acc ++ [y])) fun y hy => ⟨by omega, ih _ (by omega) (by rw [List.length_append, h1]; simp; omega) fun j z ez => ?_⟩
      · exact q
      · by_cases hj : j < acc.length
        · rw [List.getElem?_append_left hj] at ez
          exact h2 j z ez
        · rw [List.getElem?_append_right (by omega)] at ez
          have : j - acc.length = 0 := by
            by_cases w : j - acc.length = 0
            · exact w
            · rw [List.getElem?_eq_none (by simp; omega)] at ez; cases ez
          rw [this] at ez
          have ez : y = z := by simpa using ez
          rw [← ez, show j = xs.length - (n + 1) by omega]
          exact hy
  have := main xs.length [] (Nat.le_refl _) (by simp) (fun i y e => by simp at e)
  rw [Nat.sub_self, List.drop_zero] at this
  exact this
/-- .. each told by a function -/
theorem lc_mapF {gg : GG} {ge : GE} {ρ : List DV} {Q : List D → Prop} {xs : List D} (f : Nat → D) (hl : xs.length < sizeLine) (st : ∀ i x, xs[i]? = some x → ∀ K : D → Prop, K (f i) → gg x ρ fun ρ1 => ge ρ1 K Z0)
    (fin : Q ((List.range xs.length).map f)) : lcRun gg gYes ge ρ Q xs [] := lc_map (fun i y => y = f i) hl (fun i x e K k => st i x e K (k _ rfl)) fun ys h1 h2 => by
  have : ys = (List.range xs.length).map f := by
    refine List.ext_getElem? fun i => ?_
    by_cases h : i < xs.length
    · rw [List.getElem?_eq_getElem (by omega)]
      have := h2 i _ (List.getElem?_eq_getElem (by omega : i < ys.length))
      rw [this]
      simp [h]
    · rw [List.getElem?_eq_none (by omega), List.getElem?_eq_none (by simp; omega)]
  rw [this]
  exact fin
theorem de_lc {elt tg iter : Expr} {ifs : List Expr} {scope : Scope} {own : List (Str × Nat)} {pos : Pos} {gi : GI} {g : TG} {gg : GG} {gt : GT} {ge : GE} (hc : X.calm = true) (hN : X.N.Nodup) (hi : DI X c tg iter gi) (ok : BlkOk X.N X.env.scope scope own)
    (hg : ∀ (s : Shared) (H : Hp) (C : Addr) (cl : List (Str × Addr)) (fp : List Addr), PG (X.blk s H scope (compEnvC scope cl C X.env) fp) tg g) (tg' : Tgt c.calm g gg (own.map (·.2))) (mg : MG gg)
    (ht : ∀ (s : Shared) (H : Hp) (C : Addr) (cl : List (Str × Addr)) (fp : List Addr), DTs (X.blk s H scope (compEnvC scope cl C X.env) fp) c.calm ifs gt)
    (he : ∀ (s : Shared) (H : Hp) (C : Addr) (cl : List (Str × Addr)) (fp : List Addr), DE (X.blk s H scope (compEnvC scope cl C X.env) fp) c.calm elt ge) (hs : ∀ x, foldedSetIterable iter X.env x = pure x := by intro _; rfl) :
    DE X c (.ListComp elt [⟨tg, iter, ifs, 0⟩] scope pos) (gLc gi gg gt ge (own.map (·.2))) :=
  have mt : Mn gt := (ht X.s_0 X.H_0 X.env.locals [] []).mono
  have me : Mn ge := (he X.s_0 X.H_0 X.env.locals [] []).mono
  ⟨⟨fun h z w => hi.mono.up (fun ds q => lcRun_up mg mt me (fun _ q => h _ q) ds [] q) z w⟩, PE.imp (pe_lc hc hN hi.pi ok hg (fun s H C cl fp => (ht s H C cl fp).pt) (fun s H C cl fp => (he s H C cl fp).pe) hs) fun σ H Q h => lc_go tg' mg mt me hi.mono h⟩
end
end Dl
set_option Elab.async false
set_option linter.all false
set_option maxRecDepth 100000
namespace Dl
open PySem L2
structure DEn where
  nx : List DV → Prop
  rt : D → Prop
  bk : List DV → Prop
  ct : List DV → Prop
  xd : Addr → List (Str × D) → List DV → Prop
structure DEn.Le (E E' : DEn) : Prop where
  nx : ∀ ρ, E.nx ρ → E'.nx ρ
  rt : ∀ d, E.rt d → E'.rt d
  bk : ∀ ρ, E.bk ρ → E'.bk ρ
  ct : ∀ ρ, E.ct ρ → E'.ct ρ
  xd : ∀ C fs ρ, E.xd C fs ρ → E'.xd C fs ρ
theorem DEn.Le.refl (E : DEn) : E.Le E := ⟨fun _ h => h, fun _ h => h, fun _ h => h, fun _ h => h, fun _ _ _ h => h⟩
abbrev GS := DEn → List DV → Prop
structure MS (g : GS) : Prop where
  up : ∀ {E E' : DEn} {ρ : List DV}, E.Le E' → g E ρ → g E' ρ
/-- a step that may have frozen things of this def's own -/
structure ExtW (c : Dc) (F H H' : Hp) : Prop where
  kp : ∀ b u, (∀ h, c.o = some h → b ≠ h.ha) → ¬ isTb u → H b = some u → c.pb b ∨ ¬ Mut u ∨ F b ≠ none → H' b = some u
  hd : ∀ h, c.o = some h → HandAt H h → HandAt H' h
  tb : (∀ h, c.o = some h → HandAt H h) → ∀ P q, LamX.TabS H P q → LamX.TabS H' P q
structure St3 (c : Dc) (F H F' H' : Hp) : Prop where
  fs : Same F F'
  ex : ExtW c F H H'
  ok : Ok c.o c.pb F' H'
theorem St3.trans {c : Dc} {F H F1 H1 F2 H2 : Hp} (a : St3 c F H F1 H1) (b : St3 c F1 H1 F2 H2) : St3 c F H F2 H2 := ⟨a.fs.trans b.fs, ⟨fun x u n t e q => b.ex.kp x u n t (a.ex.kp x u n t e q) (q.imp id fun q => q.imp id fun q => by
    cases z : F x with
    | none => exact (q z).elim
    | some v => rw [a.fs _ _ z]; exact fun y => by cases y), fun h e q => b.ex.hd h e (a.ex.hd h e q), fun hh P q t => b.ex.tb (fun h e => a.ex.hd h e (hh h e)) P q (a.ex.tb hh P q t)⟩, b.ok⟩
theorem St3.of {c : Dc} {F H F1 H1 : Hp} (k : Ok c.o c.pb F H) (s : Stp c.o F H F1 H1) : St3 c F H F1 H1 := ⟨s.fs, ⟨fun b u n t e _ => s.ex.kp b u n t e, s.ex.hd, s.ex.tb⟩, k.step s⟩
theorem St3.refl {c : Dc} {F H : Hp} (k : Ok c.o c.pb F H) : St3 c F H F H := .of k k.rf
def nxL (c : Dc) (F H : Hp) (k : St → Hp → Prop) : List DV → Prop := fun ρ => ∀ F' H' σ', St3 c F H F' H' → Sl c.K c.o c.pb F' H' σ' ρ → k σ' H'
def enL (c : Dc) (F H : Hp) (E : Ends) : DEn := ⟨nxL c F H E.nx, fun d => ∀ F' H' v, St3 c F H F' H' → Rp c.K c.o F' v d → E.rt v H', nxL c F H E.bk, nxL c F H E.ct,
  fun C fs ρ => ∀ F' H' σ' dd vs, St3 c F H F' H' → Sl c.K c.o c.pb F' H' σ' ρ → H' dd = some (.xd vs) → RpF c.K c.o F' vs fs → c.W (.ref C) (some dd) σ' H'⟩
theorem nxL.step {c : Dc} {F H F1 H1 : Hp} {k : St → Hp → Prop} (s : St3 c F H F1 H1) {ρ : List DV} (h : nxL c F H k ρ) : nxL c F1 H1 k ρ := fun F' H' σ' s' sl => h F' H' σ' (s.trans s') sl
theorem enL.step {c : Dc} {F H F1 H1 : Hp} {E : Ends} (s : St3 c F H F1 H1) : (enL c F H E).Le (enL c F1 H1 E) := ⟨fun _ h => nxL.step s h, fun _ h F' H' v s' r => h F' H' v (s.trans s') r, fun _ h => nxL.step s h, fun _ h => nxL.step s h, fun _ _ _ h F' H' σ' dd vs s' sl e r => h F' H' σ' dd vs (s.trans s') sl e r⟩
def tDS (c : Dc) (g : GS) : TS := fun E σ H => ∃ F ρ, Ok c.o c.pb F H ∧ Sl c.K c.o c.pb F H σ ρ ∧ g (enL c F H E) ρ
structure DS (X : Cx) (c : Dc) (st : Stmt) (g : GS) : Prop where
  mono : MS g
  ps : PS X st (tDS c g)
structure DSs (X : Cx) (c : Dc) (st : List Stmt) (g : GS) : Prop where
  mono : MS g
  ps : PSs X st (tDS c g)
theorem PS.imp {X : Cx} {e : Stmt} {t t' : TS} (h : PS X e t) (k : ∀ E σ H, t' E σ H → t E σ H) : PS X e t' := ⟨fun pins s σ H E I q => h.run pins s σ H E I (k _ _ _ q)⟩
theorem PSs.imp {X : Cx} {e : List Stmt} {t t' : TS} (h : PSs X e t) (k : ∀ E σ H, t' E σ H → t E σ H) : PSs X e t' := ⟨fun pins s σ H E I q => h.run pins s σ H E I (k _ _ _ q)⟩
theorem xl_of {c : Dc} {F H : Hp} {E : Ends} {σ : St} {ρ : List DV} (k : Ok c.o c.pb F H) (sl : Sl c.K c.o c.pb F H σ ρ) {C : Addr} {fs : List (Str × D)} (h : (enL c F H E).xd C fs ρ) : XL c F H σ C fs := fun F' H' dd vs s e r => h F' H' σ dd vs (.of k s) (sl.step s) e r
/-! ### slots of own lists -/
section
variable {K : PySem.W.Frag} {o : Option Hd} {pb : Addr → Prop} {F H F' H' : Hp} {σ : St} {ρ : List DV}
theorem get_set_cases {α : Type} {l : List α} {i j : Nat} {x y : α} (e : (l.set i x)[j]? = some y) : (i = j ∧ j < l.length ∧ y = x) ∨ (i ≠ j ∧ l[j]? = some y) := by
  rw [List.getElem?_set] at e
  by_cases q : i = j
  · subst q
    rw [if_pos rfl] at e
    by_cases z : i < l.length
    · rw [if_pos z] at e; exact .inl ⟨rfl, z, (Option.some.inj e).symm⟩
    · rw [if_neg z] at e; cases e
  · rw [if_neg q] at e
    exact .inr ⟨q, e⟩
/-- a new list of one's own -/
theorem Sl.setNew (k : Ok o pb F H) (h : Sl K o pb F H σ ρ) {a : Addr} (n : H a = none) (i : Nat) {xs : List V} {ds : List D} (r : RpA K o F xs ds) : Sl K o pb F (upd H a (.lst xs)) (σ.set i (some (.ref a))) (ρ.set i (.own ds)) := by
  have ha : ∀ h, o = some h → a ≠ h.ha ∧ a ≠ h.ca := fun h e => ⟨fun z => (by
    obtain ⟨i, d, x, e2, h1, _⟩ := (k.hd h e).1.ex
    rw [z, h1] at n; cases n), fun z => (by
    have := (k.hd h e).1.cs
    rw [z, this] at n; cases n)⟩
  have npb : ¬ pb a := fun z => by
    obtain ⟨_, u, h2, _⟩ := k.pr a z
    rw [n] at h2; cases h2
  have fresh : ∀ {j : Nat} {es : List D}, ρ[j]? = some (.own es) → σ[j]? ≠ some (some (.ref a)) := fun {j es} e z => by
    obtain ⟨b, ys, h1, h2, _⟩ := h.own j es e
    rw [z] at h1
    cases h1
    rw [n] at h2; cases h2
  refine ⟨by rw [List.length_set, List.length_set, h.len], fun j d e => ?_, fun j es e => ?_, fun j l es fs b e1 e2 e3 e4 => ?_⟩
  · rcases get_set_cases e with ⟨_, _, z⟩ | ⟨q, e⟩
    · cases z
    · rw [List.getElem?_set, if_neg q]
      exact h.dat j d e
  · rcases get_set_cases e with ⟨rfl, hl, z⟩ | ⟨q, e⟩
    · cases z
      rw [List.getElem?_set, if_pos rfl, if_pos (by rw [← h.len]; exact hl)]
      exact ⟨a, xs, rfl, upd_same, r, free_of k.sm n, ha, npb⟩
    · rw [List.getElem?_set, if_neg q]
      obtain ⟨b, ys, h1, h2, h3, h4, h5, h6⟩ := h.own j es e
      exact ⟨b, ys, h1, by rw [upd_ne (ne_of_none h2 n)]; exact h2, h3, h4, h5, h6⟩
  · rcases get_set_cases e1 with ⟨rfl, hl, z⟩ | ⟨q, e1⟩
    · rcases get_set_cases e2 with ⟨rfl, _, _⟩ | ⟨q2, e2⟩
      · rfl
      · rw [List.getElem?_set, if_pos rfl, if_pos (by rw [← h.len]; exact hl)] at e3
        cases e3
        rw [List.getElem?_set, if_neg q2] at e4
        exact (fresh e2 e4).elim
    · rw [List.getElem?_set, if_neg q] at e3
      rcases get_set_cases e2 with ⟨rfl, hl, _⟩ | ⟨q2, e2⟩
      · rw [List.getElem?_set, if_pos rfl, if_pos (by rw [← h.len]; exact hl)] at e4
        cases e4
        exact (fresh e1 e3).elim
      · rw [List.getElem?_set, if_neg q2] at e4
        exact h.inj j l es fs b e1 e2 e3 e4
/-- a list of one's own changes -/
theorem Sl.upOwn (h : Sl K o pb F H σ ρ) {a : Addr} {xs : List V} {ds es : List D} {i : Nat} (hi : ρ[i]? = some (.own ds)) (hs : σ[i]? = some (some (.ref a))) (r : RpA K o F xs es) : Sl K o pb F (upd H a (.lst xs)) σ (ρ.set i (.own es)) := by
  obtain ⟨a', ys, h1, h2, h3, h4, h5, h6⟩ := h.own i ds hi
  rw [hs] at h1
  cases h1
  refine ⟨by rw [List.length_set, h.len], fun j d e => ?_, fun j fs e => ?_, fun j l fs gs b e1 e2 e3 e4 => ?_⟩
  · rcases get_set_cases e with ⟨_, _, z⟩ | ⟨q, e⟩
    · cases z
    · exact h.dat j d e
  · rcases get_set_cases e with ⟨rfl, hl, z⟩ | ⟨q, e⟩
    · cases z
      exact ⟨a, xs, hs, upd_same, r, h4, h5, h6⟩
    · obtain ⟨b, zs, g1, g2, g3, g4, g5, g6⟩ := h.own j fs e
      have nb : b ≠ a := fun z => by
        subst z
        exact q (h.inj i j ds fs b hi e hs g1)
      exact ⟨b, zs, g1, by rw [upd_ne nb]; exact g2, g3, g4, g5, g6⟩
  · have f : ∀ {j : Nat} {fs : List D}, (ρ.set i (.own es))[j]? = some (.own fs) → ∃ fs', ρ[j]? = some (.own fs') := fun {j fs} e => by
      rcases get_set_cases e with ⟨rfl, _, _⟩ | ⟨_, e⟩
      · exact ⟨ds, hi⟩
      · exact ⟨fs, e⟩
    obtain ⟨fs', e1⟩ := f e1
    obtain ⟨gs', e2⟩ := f e2
    exact h.inj j l fs' gs' b e1 e2 e3 e4
end
/-- .. is frozen -/
theorem frz_own {c : Dc} {F H : Hp} {σ : St} {ρ : List DV} (k : Ok c.o c.pb F H) (h : Sl c.K c.o c.pb F H σ ρ) {ds : List D} {i : Nat} (hi : ρ[i]? = some (.own ds)) : ∃ F' a, σ[i]? = some (some (.ref a)) ∧ St3 c F H F' H ∧ Sl c.K c.o c.pb F' H σ (ρ.set i (.dat (.lst ds))) ∧ Rp c.K c.o F' (.ref a) (.lst ds) := by
  obtain ⟨a, xs, h1, h2, h3, h4, h5, h6⟩ := h.own i ds hi
  have sF : Same F (upd F a (.lst xs)) := Same.upd h4
  have rp : Rp c.K c.o (upd F a (.lst xs)) (.ref a) (.lst ds) := .lst upd_same (h3.same sF)
  refine ⟨upd F a (.lst xs), a, h1, ⟨sF, ⟨fun _ _ _ _ e _ => e, fun _ _ q => q, fun _ _ _ t => t⟩, ⟨fun b u e => ?_, fun h e => ⟨(k.hd h e).1, by rw [upd_ne (h5 h e).1.symm]; exact (k.hd h e).2⟩, fun b q => ⟨by rw [upd_ne (fun z => h6 (by rw [← z]; exact q))]; exact (k.pr b q).1, (k.pr b q).2⟩⟩⟩, ⟨by rw [List.length_set, h.len], fun j d e => ?_, fun j es e => ?_, fun j l es fs b e1 e2 e3 e4 => ?_⟩, rp⟩
  · by_cases z : b = a
    · subst z
      rw [upd_same] at e
      rw [h2, ← e]
    · rw [upd_ne z] at e
      exact k.sm _ _ e
  · rcases get_set_cases e with ⟨rfl, _, z⟩ | ⟨q, e⟩
    · cases z
      exact ⟨_, h1, rp⟩
    · obtain ⟨v, g1, g2⟩ := h.dat j d e
      exact ⟨v, g1, g2.same sF⟩
  · rcases get_set_cases e with ⟨rfl, _, z⟩ | ⟨q, e⟩
    · cases z
    · obtain ⟨b, zs, g1, g2, g3, g4, g5, g6⟩ := h.own j es e
      have nb : b ≠ a := fun z => by
        subst z
        exact q (h.inj i j ds es b hi e h1 g1)
      exact ⟨b, zs, g1, g2, g3.same sF, by rw [upd_ne nb]; exact g4, g5, g6⟩
  · rcases get_set_cases e1 with ⟨_, _, z⟩ | ⟨_, e1⟩
    · cases z
    · rcases get_set_cases e2 with ⟨_, _, z⟩ | ⟨_, e2⟩
      · cases z
      · exact h.inj j l es fs b e1 e2 e3 e4
section
variable {X : Cx} {c : Dc} {e a b : Expr} {es : List Expr} {ge : GE} {gs : GA} {g u : GS} {st : Stmt} {rest : List Stmt} {pos : Pos}
/-! ### blocks -/
def sNext : GS := fun E ρ => E.nx ρ
def sSeq (g u : GS) : GS := fun E ρ => g { E with nx := u E } ρ
theorem dss_nil : DSs X c [] sNext := ⟨⟨fun l q => l.nx _ q⟩, PSs.imp pss_nil fun E σ H ⟨F, ρ, k, sl, w⟩ => w F H σ (.refl k) sl⟩
theorem dss_one (h : DS X c st g) : DSs X c [st] g := ⟨h.mono, pss_one h.ps⟩
theorem dss_cons (h1 : DS X c st g) (h2 : DSs X c rest u) : DSs X c (st :: rest) (sSeq g u) := ⟨⟨fun {E E' ρ} l q => h1.mono.up (E := { E with nx := u E }) (E' := { E' with nx := u E' }) ⟨fun _ q => h2.mono.up l q, l.rt, l.bk, l.ct, l.xd⟩ q⟩, PSs.imp (pss_cons h1.ps h2.ps) fun E σ H ⟨F, ρ, k, sl, w⟩ =>
  ⟨F, ρ, k, sl, h1.mono.up (E := { enL c F H E with nx := u (enL c F H E) }) (E' := enL c F H { E with nx := tDS c u E }) ⟨fun ρ' q F' H' σ' s sl' => ⟨F', ρ', s.ok, sl', h2.mono.up (enL.step s) q⟩, fun _ h => h, fun _ h => h, fun _ h => h, fun _ _ _ h => h⟩ w⟩⟩
/-- .. with a word of what stands between -/
def sCut (g u : GS) : GS := fun E ρ => ∃ I : List DV → Prop, g { E with nx := I } ρ ∧ ∀ ρ', I ρ' → u E ρ'
theorem dss_cut (h1 : DS X c st g) (h2 : DSs X c rest u) : DSs X c (st :: rest) (sCut g u) :=
  ⟨⟨fun {E E' ρ} l ⟨I, q1, q2⟩ => ⟨I, h1.mono.up (E := { E with nx := I }) (E' := { E' with nx := I }) ⟨fun _ q => q, l.rt, l.bk, l.ct, l.xd⟩ q1, fun ρ' i => h2.mono.up l (q2 ρ' i)⟩⟩, PSs.imp (dss_cons h1 h2).ps fun E σ H ⟨F, ρ, k, sl, I, q1, q2⟩ =>
    ⟨F, ρ, k, sl, h1.mono.up (E := { enL c F H E with nx := I }) (E' := { enL c F H E with nx := u (enL c F H E) }) ⟨fun ρ' q => q2 ρ' q, fun _ h => h, fun _ h => h, fun _ h => h, fun _ _ _ h => h⟩ q1⟩⟩
/-- from here on slot i is frozen -/
def sFrz (i : Nat) (g : GS) : GS := fun E ρ => ∃ ds, ρ[i]? = some (.own ds) ∧ g E (ρ.set i (.dat (.lst ds)))
theorem dss_frz (i : Nat) (h : DSs X c rest g) : DSs X c rest (sFrz i g) := ⟨⟨fun l ⟨ds, e, q⟩ => ⟨ds, e, h.mono.up l q⟩⟩, PSs.imp h.ps fun E σ H ⟨F, ρ, k, sl, ds, hi, w⟩ => by
  obtain ⟨F', a, h1, s, sl', _⟩ := frz_own k sl hi
  exact ⟨F', _, s.ok, sl', h.mono.up (enL.step s) w⟩⟩
theorem ds_never : DS X c st (fun _ _ => False) := ⟨⟨fun _ q => q⟩, PS.imp ps_never fun E σ H ⟨F, ρ, k, sl, w⟩ => w⟩
theorem dss_never : DSs X c rest (fun _ _ => False) := ⟨⟨fun _ q => q⟩, PSs.imp pss_never fun E σ H ⟨F, ρ, k, sl, w⟩ => w⟩
/-! ### statements -/
abbrev zx (E : DEn) (ρ : List DV) : XD := fun C fs => E.xd C fs ρ
def sSet (i : Nat) (ge : GE) : GS := fun E ρ => ge ρ (fun d => E.nx (ρ.set i (.dat d))) (zx E ρ)
theorem ds_set {i : Nat} {x : Str} {pos' : Pos} (hN : X.N.Nodup) (hi : X.N[i]? = some x) (hx : Loc X.env.scope x) (he : DE X c e ge) (hs : swapsWith e (some (.Name x pos')) pos.line X.env = pure false := by rfl) (hf : X.fn x = true ∨ X.env.scope.names.lookup x = some .local := by first | exact .inl rfl | exact .inr rfl | assumption) :
    DS X c (.Assign [.Name x pos'] e pos) (sSet i ge) := ⟨⟨fun l q => he.mono.up (fun _ q => l.nx _ q) (fun _ _ z => l.xd _ _ _ z) q⟩, PS.imp (ps_set hN hi hx he.pe hs hf) fun E σ H ⟨F, ρ, k, sl, w⟩ =>
  go he.mono k k.rf sl (he.mono.up (fun _ q => q) (fun _ _ z => xl_of k sl z) w) fun d F' H' v s r p => p F' H' _ (.of k s) ((sl.step s).setD i r)⟩
/-- x = [] -/
def sNew (i : Nat) : GS := fun E ρ => E.nx (ρ.set i (.own []))
theorem ds_new {i : Nat} {x : Str} {pos' p2 : Pos} (hN : X.N.Nodup) (hi : X.N[i]? = some x) (hx : Loc X.env.scope x) (hs : swapsWith (.List [] p2) (some (.Name x pos')) pos.line X.env = pure false := by rfl) (hf : X.fn x = true ∨ X.env.scope.names.lookup x = some .local := by first | exact .inl rfl | exact .inr rfl | assumption) :
    DS X c (.Assign [.Name x pos'] (.List [] p2) pos) (sNew i) := ⟨⟨fun l q => l.nx _ q⟩, PS.imp (ps_set hN hi hx (pe_lst pa_nil) hs hf) fun E σ H ⟨F, ρ, k, sl, w⟩ =>
  ⟨Nat.zero_le _, fun p np => w F _ _ (.of k (Stp.grow k.sm (Same.upd np))) (Sl.setNew k sl np i .nil)⟩⟩
/-- x.append(e), x a list of one's own -/
def sApp (i : Nat) (ge : GE) : GS := fun E ρ => ∃ ds, ρ[i]? = some (.own ds) ∧ ge ρ (fun d => ds.length < sizeLine ∧ E.nx (ρ.set i (.own (ds ++ [d])))) (zx E ρ)
def sRet (ge : GE) : GS := fun E ρ => ge ρ E.rt (zx E ρ)
theorem ds_ret (he : DE X c e ge) : DS X c (.Return (some e) pos) (sRet ge) := ⟨⟨fun l q => he.mono.up (fun _ q => l.rt _ q) (fun _ _ z => l.xd _ _ _ z) q⟩, PS.imp (ps_ret he.pe) fun E σ H ⟨F, ρ, k, sl, w⟩ =>
  go he.mono k k.rf sl (he.mono.up (fun _ q => q) (fun _ _ z => xl_of k sl z) w) fun d F' H' v s r p => p F' H' v (.of k s) r⟩
theorem ds_retN : DS X c (.Return none pos) (fun E _ => E.rt .non) := ⟨⟨fun l q => l.rt _ q⟩, PS.imp ps_retN fun E σ H ⟨F, ρ, k, sl, w⟩ => w F H .non (.refl k) .non⟩
/-- return x, x a list of one's own -/
def sRetO (i : Nat) : GS := fun E ρ => ∃ ds, ρ[i]? = some (.own ds) ∧ E.rt (.lst ds)
theorem ds_retO {x : Str} {p2 : Pos} (i : Nat) (hN : X.N[i]? = some x := by rfl) (hv : Vis X.env.scope x := by first | exact Or.inl rfl | exact Or.inr (Or.inl rfl) | exact Or.inr (Or.inr rfl)) (hd : (x == ("__debug__" : Str)) = false := by decide)
    (hcd : (x == ("__classdict__" : Str)) = false := by decide) : DS X c (.Return (some (.Name x p2)) pos) (sRetO i) := ⟨⟨fun l ⟨ds, e, q⟩ => ⟨ds, e, l.rt _ q⟩⟩, PS.imp (ps_ret (pe_var hN hv hd hcd)) fun E σ H ⟨F, ρ, k, sl, ds, hi, w⟩ => by
  obtain ⟨F', a, h1, s, _, r⟩ := frz_own k sl hi
  exact ⟨_, h1, w F' H _ s r⟩⟩
def sExpr (ge : GE) : GS := fun E ρ => ge ρ (fun _ => E.nx ρ) (zx E ρ)
theorem ds_expr (he : DE X c e ge) (hs : swapsWith e none pos.line X.env = pure false := by rfl) : DS X c (.Expr e pos) (sExpr ge) := ⟨⟨fun l q => he.mono.up (fun _ q => l.nx _ q) (fun _ _ z => l.xd _ _ _ z) q⟩, PS.imp (ps_expr he.pe hs) fun E σ H ⟨F, ρ, k, sl, w⟩ =>
  go he.mono k k.rf sl (he.mono.up (fun _ q => q) (fun _ _ z => xl_of k sl z) w) fun d F' H' v s r p => p F' H' σ (.of k s) (sl.step s)⟩
def sIf (gt : GT) (g u : GS) : GS := fun E ρ => gt ρ (fun x => if x = true then g E ρ else u E ρ) (zx E ρ)
theorem ds_if {t : Expr} {p q : List Stmt} {gt : GT} (ht : DT X c t gt) (hp : DSs X c p g) (hq : DSs X c q u) : DS X c (.If t p q pos) (sIf gt g u) := ⟨⟨fun l w => ht.mono.up (fun x w => by cases x; exact hq.mono.up l w; exact hp.mono.up l w) (fun _ _ z => l.xd _ _ _ z) w⟩, PS.imp (ps_if ht.pt hp.ps hq.ps) fun E σ H ⟨F, ρ, k, sl, w⟩ =>
  goT ht.mono k k.rf sl (ht.mono.up (fun _ q => q) (fun _ _ z => xl_of k sl z) w) fun x F' H' s w' => by
    cases x
    · exact ⟨F', ρ, k.step s, sl.step s, hq.mono.up (enL.step (.of k s)) w'⟩
    · exact ⟨F', ρ, k.step s, sl.step s, hp.mono.up (enL.step (.of k s)) w'⟩⟩
/-- target = e -/
def sAsg (gg : GG) (ge : GE) : GS := fun E ρ => ge ρ (fun d => gg d ρ E.nx) (zx E ρ)
theorem ds_asg {tg : Expr} {t : TG} {gg : GG} {vs : List Nat} (he : DE X c e ge) (hg : PG X tg t) (ht : Tgt c t gg vs) (mg : MG gg) (hs : swapsWithSole [tg] e pos.line X.env = pure false := by rfl) (hw : swappedStores [tg] e X.env = pure none := by rfl)
    (h1 : (assignEach [tg] X.env).map (·.2) = [assign tg X.env] := by rfl) : DS X c (.Assign [tg] e pos) (sAsg gg ge) := ⟨⟨fun l q => he.mono.up (fun _ q => mg.up (fun _ q => l.nx _ q) q) (fun _ _ z => l.xd _ _ _ z) q⟩, PS.imp (ps_asg he.pe hg hs hw h1) fun E σ H ⟨F, ρ, k, sl, w⟩ =>
  go he.mono k k.rf sl (he.mono.up (fun _ q => q) (fun _ _ z => xl_of k sl z) w) fun d F' H' v s r p => ht v σ H' F' d ρ _ _ s.sm r (sl.step s) p fun σ2 ρ2 _ sl2 p2 => p2 F' H' σ2 (.of k s) sl2⟩
/-- a, b = x, y -/
def sPar (i j : Nat) (gs : GA) : GS := fun E ρ => gs ρ (fun ds => ∃ x y, ds = [x, y] ∧ E.nx ((ρ.set i (.dat x)).set j (.dat y))) (zx E ρ)
theorem ds_par {i j : Nat} (ha : DA X c [a, b] gs) {st : Stmt} (up' : PA X [a, b] (tDA c gs) → PS X st (tPar i j (tDA c gs))) : DS X c st (sPar i j gs) := ⟨⟨fun l q => ha.mono.up (fun _ ⟨x, y, e, q⟩ => ⟨x, y, e, l.nx _ q⟩) (fun _ _ z => l.xd _ _ _ z) q⟩, PS.imp (up' ha.pa) fun E σ H ⟨F, ρ, k, sl, w⟩ =>
  goA ha.mono k k.rf sl (ha.mono.up (fun _ q => q) (fun _ _ z => xl_of k sl z) w) fun ds F' H' vs s r ⟨x, y, e, p⟩ => by
    subst e
    cases r with
    | cons r1 r =>
      cases r with
      | cons r2 r =>
        cases r
        exact ⟨_, _, rfl, p F' H' _ (.of k s) (((sl.step s).setD i r1).setD j r2)⟩⟩
/-- x = [.. for ..] -/
theorem ds_setLc {i : Nat} {y : Str} {py : Pos} {elt tg iter : Expr} {ifs : List Expr} {scope : Scope} {own : List (Str × Nat)} {pos spos : Pos} {gi : GI} {g : TG} {gg : GG} {gt : GT} {ge : GE} (hc : X.calm = true) (hN : X.N.Nodup) (hy : X.N[i]? = some y) (hyl : X.env.scope.names.lookup y = some .local)
    (hsw : swapsWith (.ListComp elt [⟨tg, iter, ifs, 0⟩] scope pos) (some (.Name y py)) spos.line X.env = pure true) (hi : DI X c tg iter gi) (ok : BlkOk X.N X.env.scope scope own)
    (hg : ∀ (s : Shared) (H : Hp) (C : Addr) (cl : List (Str × Addr)) (fp : List Addr), PG (X.blk s H scope (compEnvC scope cl C X.env) fp) tg g) (tg' : Tgt c.calm g gg (own.map (·.2))) (mg : MG gg)
    (ht : ∀ (s : Shared) (H : Hp) (C : Addr) (cl : List (Str × Addr)) (fp : List Addr), DTs (X.blk s H scope (compEnvC scope cl C X.env) fp) c.calm ifs gt)
    (he : ∀ (s : Shared) (H : Hp) (C : Addr) (cl : List (Str × Addr)) (fp : List Addr), DE (X.blk s H scope (compEnvC scope cl C X.env) fp) c.calm elt ge) (hs : ∀ x, foldedSetIterable iter X.env x = pure x := by intro _; rfl) :
    DS X c (.Assign [.Name y py] (.ListComp elt [⟨tg, iter, ifs, 0⟩] scope pos) spos) (sSet i (gLc gi gg gt ge (own.map (·.2)))) :=
  have mt : Mn gt := (ht X.s_0 X.H_0 X.env.locals [] []).mono
  have me : Mn ge := (he X.s_0 X.H_0 X.env.locals [] []).mono
  have mn : Mn (gLc gi gg gt ge (own.map (·.2))) := ⟨fun h z w => hi.mono.up (fun ds q => lcRun_up mg mt me (fun _ q => h _ q) ds [] q) z w⟩
  ⟨⟨fun l q => mn.up (fun _ q => l.nx _ q) (fun _ _ z => l.xd _ _ _ z) q⟩, PS.imp (ps_setLc hc hN hy hyl hsw hi.pi ok hg (fun s H C cl fp => (ht s H C cl fp).pt) (fun s H C cl fp => (he s H C cl fp).pe) hs) fun E σ H ⟨F, ρ, k, sl, w⟩ =>
    lc_go tg' mg mt me hi.mono ⟨F, ρ, k, sl, mn.up (fun d q F' H' v s r => q F' H' _ (.of k s) ((sl.step s).setD i r)) (fun _ _ z => xl_of k sl z) w⟩⟩
theorem Sl.setFresh {K : PySem.W.Frag} {o : Option Hd} {pb : Addr → Prop} {F H : Hp} {σ : St} {ρ : List DV} (h : Sl K o pb F H σ ρ) {a : Addr} (i : Nat) {xs : List V} {ds : List D} (r : RpA K o F xs ds) (hH : H a = some (.lst xs)) (hF : F a = none) (ha : ∀ h, o = some h → a ≠ h.ha ∧ a ≠ h.ca) (npb : ¬ pb a)
    (fresh : ∀ (j : Nat) (es : List D), ρ[j]? = some (.own es) → σ[j]? ≠ some (some (.ref a))) : Sl K o pb F H (σ.set i (some (.ref a))) (ρ.set i (.own ds)) := by
  refine ⟨by rw [List.length_set, List.length_set, h.len], fun j d e => ?_, fun j es e => ?_, fun j l es fs b e1 e2 e3 e4 => ?_⟩
  · rcases get_set_cases e with ⟨_, _, z⟩ | ⟨q, e⟩
    · cases z
    · rw [List.getElem?_set, if_neg q]
      exact h.dat j d e
  · rcases get_set_cases e with ⟨rfl, hl, z⟩ | ⟨q, e⟩
    · cases z
      rw [List.getElem?_set, if_pos rfl, if_pos (by rw [← h.len]; exact hl)]
      exact ⟨a, xs, rfl, hH, r, hF, ha, npb⟩
    · rw [List.getElem?_set, if_neg q]
      exact h.own j es e
  · rcases get_set_cases e1 with ⟨rfl, hl, z⟩ | ⟨q, e1⟩
    · rcases get_set_cases e2 with ⟨rfl, _, _⟩ | ⟨q2, e2⟩
      · rfl
      · rw [List.getElem?_set, if_pos rfl, if_pos (by rw [← h.len]; exact hl)] at e3
        cases e3
        rw [List.getElem?_set, if_neg q2] at e4
        exact (fresh _ _ e2 e4).elim
    · rw [List.getElem?_set, if_neg q] at e3
      rcases get_set_cases e2 with ⟨rfl, hl, _⟩ | ⟨q2, e2⟩
      · rw [List.getElem?_set, if_pos rfl, if_pos (by rw [← h.len]; exact hl)] at e4
        cases e4
        exact (fresh _ _ e1 e3).elim
      · rw [List.getElem?_set, if_neg q2] at e4
        exact h.inj j l es fs b e1 e2 e3 e4
/-- x = [.. for ..], the list one's own -/
def sOwnLc (i : Nat) (gi : GI) (gg : GG) (gt : GT) (ge : GE) (vs : List Nat) : GS := fun E ρ => gi ρ (fun ds => lcRun gg gt ge (wipeD ρ vs) (fun acc => E.nx (ρ.set i (.own acc))) ds []) (zx E ρ)
theorem ds_setLcO {i : Nat} {y : Str} {py : Pos} {elt tg iter : Expr} {ifs : List Expr} {scope : Scope} {own : List (Str × Nat)} {pos spos : Pos} {gi : GI} {g : TG} {gg : GG} {gt : GT} {ge : GE} (hc : X.calm = true) (hN : X.N.Nodup) (hy : X.N[i]? = some y) (hyl : X.env.scope.names.lookup y = some .local)
    (hsw : swapsWith (.ListComp elt [⟨tg, iter, ifs, 0⟩] scope pos) (some (.Name y py)) spos.line X.env = pure true) (hi : DI X c tg iter gi) (ok : BlkOk X.N X.env.scope scope own)
    (hg : ∀ (s : Shared) (H : Hp) (C : Addr) (cl : List (Str × Addr)) (fp : List Addr), PG (X.blk s H scope (compEnvC scope cl C X.env) fp) tg g) (tg' : Tgt c.calm g gg (own.map (·.2))) (mg : MG gg)
    (ht : ∀ (s : Shared) (H : Hp) (C : Addr) (cl : List (Str × Addr)) (fp : List Addr), DTs (X.blk s H scope (compEnvC scope cl C X.env) fp) c.calm ifs gt)
    (he : ∀ (s : Shared) (H : Hp) (C : Addr) (cl : List (Str × Addr)) (fp : List Addr), DE (X.blk s H scope (compEnvC scope cl C X.env) fp) c.calm elt ge) (hs : ∀ x, foldedSetIterable iter X.env x = pure x := by intro _; rfl) :
    DS X c (.Assign [.Name y py] (.ListComp elt [⟨tg, iter, ifs, 0⟩] scope pos) spos) (sOwnLc i gi gg gt ge (own.map (·.2))) :=
  have mt : Mn gt := (ht X.s_0 X.H_0 X.env.locals [] []).mono
  have me : Mn ge := (he X.s_0 X.H_0 X.env.locals [] []).mono
  ⟨⟨fun l q => hi.mono.up (fun ds q => lcRun_up mg mt me (fun _ q => l.nx _ q) ds [] q) (fun _ _ z => l.xd _ _ _ z) q⟩, PS.imp (ps_setLc hc hN hy hyl hsw hi.pi ok hg (fun s H C cl fp => (ht s H C cl fp).pt) (fun s H C cl fp => (he s H C cl fp).pe) hs) fun E σ H ⟨F, ρ, k, sl, w⟩ =>
    lc_gen (Q := fun v H1 => E.nx (σ.set i (some v)) H1) tg' mg mt me hi.mono k sl (hi.mono.up (fun _ q => q) (fun _ _ z => xl_of k sl z) w) fun F1 H1 F2 H2 L acc accD s1 s2 nL hL fL ra run => by
      have k1 := k.step s1
      have sl1 := sl.step s1
      refine run F2 H2 _ ((St3.of k s1).trans (.of k1 s2)) ((sl1.step s2).setFresh i ra hL fL (fun h e => ⟨fun z => ?_, fun z => ?_⟩) (fun z => ?_) fun j es e z => ?_)
      · obtain ⟨i', d, x, e2, h1, _⟩ := (k1.hd h e).1.ex
        rw [z, h1] at nL; cases nL
      · have := (k1.hd h e).1.cs
        rw [z, this] at nL; cases nL
      · obtain ⟨_, u, h2, _⟩ := k1.pr L z
        rw [nL] at h2; cases h2
      · obtain ⟨a, xs, h1, h2, _⟩ := sl1.own j es e
        rw [z] at h1
        cases h1
        rw [nL] at h2; cases h2⟩
/-! ### for -/
def sFor (gi : GI) (gg : GG) (gb : GS) : GS := fun E ρ => gi ρ (fun ds => ∃ I : Nat → List DV → Prop, I 0 ρ ∧
  (∀ i d ρ, ds[i]? = some d → I i ρ → gg d ρ fun ρ1 => gb { nx := I (i + 1), rt := E.rt, bk := E.nx, ct := I (i + 1), xd := E.xd } ρ1) ∧ ∀ ρ, I ds.length ρ → E.nx ρ) (zx E ρ)
/-- turn by turn -/
def forRun (gg : GG) (gb : GS) (E : DEn) : List D → List DV → Prop
  | [], ρ => E.nx ρ
  | d :: ds, ρ => gg d ρ fun ρ1 => gb { nx := forRun gg gb E ds, rt := E.rt, bk := E.nx, ct := forRun gg gb E ds, xd := E.xd } ρ1
theorem for_run {gg : GG} {gb : GS} {E : DEn} {ds : List D} {ρ : List DV} (h : forRun gg gb E ds ρ) : ∃ I : Nat → List DV → Prop, I 0 ρ ∧
    (∀ i d ρ, ds[i]? = some d → I i ρ → gg d ρ fun ρ1 => gb { nx := I (i + 1), rt := E.rt, bk := E.nx, ct := I (i + 1), xd := E.xd } ρ1) ∧ ∀ ρ, I ds.length ρ → E.nx ρ :=
  ⟨fun i => forRun gg gb E (ds.drop i), by show forRun gg gb E (ds.drop 0) ρ; rw [List.drop_zero]; exact h, fun i d ρ e q => by
    have q : forRun gg gb E (ds.drop i) ρ := q
    obtain ⟨hl, rfl⟩ := List.getElem?_eq_some_iff.mp e
    rw [List.drop_eq_getElem_cons hl] at q
    exact q, fun ρ q => by
    have q : forRun gg gb E (ds.drop ds.length) ρ := q
    rw [List.drop_length] at q
    exact q⟩
theorem ds_for {tg iter : Expr} {body : List Stmt} {gi : GI} {t : TG} {gg : GG} {gb : GS} {vs : List Nat} (hp : PassesOwn (model X.prog X.w) X.A X.env X.xe) (hc : X.calm = true) (hi : DI X c tg iter gi) (hg : PG X tg t) (ht : Tgt c t gg vs) (mg : MG gg) (hb : DSs X c body gb)
    (hs : ∀ x, foldedSetIterable iter X.env x = pure x := by intro _; rfl) : DS X c (.For tg iter body [] pos) (sFor gi gg gb) := by
  refine ⟨⟨fun {E E' ρ} l q => hi.mono.up (fun ds ⟨I, h0, h1, h2⟩ => ⟨I, h0, fun i d ρ e q => mg.up (fun _ q => hb.mono.up (E := { nx := I (i + 1), rt := E.rt, bk := E.nx, ct := I (i + 1), xd := E.xd }) ⟨fun _ h => h, l.rt, l.nx, fun _ h => h, l.xd⟩ q) (h1 i d ρ e q), fun ρ q => l.nx _ (h2 ρ q)⟩) (fun _ _ z => l.xd _ _ _ z) q⟩, PS.imp (ps_for hp hc hi.pi hg hb.ps hs) fun E σ H ⟨F, ρ, k, sl, w⟩ => ?_⟩
  refine ⟨F, ρ, k, sl, hi.mono.up (fun ds ⟨I, q0, q1, q2⟩ F1 H1 J s1 wk => ?_) (fun _ _ z => xl_of k sl z) w⟩
  obtain ⟨G, Y, W, hG, hY⟩ := wk
  have k1 := k.step s1
  refine for_it W (fun i σ2 H2 => ∃ F2 ρ2, St3 c F1 H1 F2 H2 ∧ Sl c.K c.o c.pb F2 H2 σ2 ρ2 ∧ I i ρ2) ⟨F1, ρ, .refl k1, sl.step s1, q0⟩ (fun i σ2 H2 _ ⟨F2, ρ2, s2, _⟩ => hG H2 (s2.fs.trans s2.ok.sm)) ?_ ?_
  · rintro i x σ2 H2 H3 hlt ⟨F2, ρ2, s2, sl2, run⟩ hy
    have hd : ds[i]? = some ds[i] := List.getElem?_eq_getElem hlt
    obtain ⟨F3, s3, rx⟩ := hY i H2 x H3 F2 _ hy s2.fs s2.ok.sm hd
    have s23 : St3 c F1 H1 F3 H3 := s2.trans (.of s2.ok s3)
    refine ht x σ2 H3 F3 _ ρ2 _ _ s3.sm rx (sl2.step s3) (q1 i _ ρ2 hd run) fun σ4 ρ4 _ sl4 p4 => ⟨F3, ρ4, s23.ok, sl4, hb.mono.up (E := { nx := I (i + 1), rt := (enL c F H E).rt, bk := (enL c F H E).nx, ct := I (i + 1), xd := (enL c F H E).xd }) ⟨fun ρ5 p F5 H5 σ5 s5 sl5 => ⟨F5, ρ5, s23.trans s5, sl5, p⟩, fun d p F5 H5 v s5 r => ?_, fun ρ5 p F5 H5 σ5 s5 sl5 => ?_, fun ρ5 p F5 H5 σ5 s5 sl5 => ⟨F5, ρ5, s23.trans s5, sl5, p⟩, fun C fs ρ5 p F5 H5 σ5 dd vs s5 sl5 e r => ?_⟩ p4⟩
    · exact p F5 H5 v ((St3.of k s1).trans (s23.trans s5)) r
    · exact p F5 H5 σ5 ((St3.of k s1).trans (s23.trans s5)) sl5
    · exact p F5 H5 σ5 dd vs ((St3.of k s1).trans (s23.trans s5)) sl5 e r
  · rintro σ2 H2 ⟨F2, ρ2, s2, sl2, run⟩
    exact q2 _ run F2 H2 σ2 ((St3.of k s1).trans s2) sl2
end
end Dl
set_option Elab.async false
set_option linter.all false
set_option maxRecDepth 100000
namespace Dl
open PySem L2
/-! ### data as the library's data -/
mutual
def D.toP : D → PyData
  | .non => .none
  | .bl b => .bool b
  | .int i => .int i
  | .str s => .str s
  | .lst xs => .list (D.toPs xs)
  | .tup xs => .tuple (D.toPs xs)
  | .hand => .none
  | .ty _ => .none
  | .adr _ => .none
def D.toPs : List D → List PyData
  | [] => []
  | x :: xs => D.toP x :: D.toPs xs
end
mutual
def D.isP : D → Bool
  | .non => true
  | .bl _ => true
  | .int _ => true
  | .str _ => true
  | .lst xs => D.isPs xs
  | .tup xs => D.isPs xs
  | .hand => false
  | .ty _ => false
  | .adr _ => false
def D.isPs : List D → Bool
  | [] => true
  | x :: xs => D.isP x && D.isPs xs
end
section
variable {K : PySem.W.Frag} {o : Option Hd} {F H : Hp}
mutual
theorem Rp.dp (s : Same F H) : ∀ {v : V} {d : D}, D.isP d = true → Rp K o F v d → Dp K H v d.toP
  | _, _, _, .non => .non
  | _, _, _, .bl b => .bl b
  | _, _, _, .int i => .int i
  | _, _, _, .str x => .str x
  | _, _, h, .lst q r => .lst (SqL.of (s _ _ q)) (RpA.dp s h r)
  | _, _, h, .tup q r => .tup (Same.sqT s q) (RpA.dp s h r)
  | _, _, h, .hand _ => by simp [D.isP] at h
  | _, _, h, .ty _ => by simp [D.isP] at h
  | _, _, h, .adr _ => by simp [D.isP] at h
theorem RpA.dp (s : Same F H) : ∀ {vs : List V} {ds : List D}, D.isPs ds = true → RpA K o F vs ds → DpAll K H vs (D.toPs ds)
  | _, _, _, .nil => .nil
  | _, _, h, .cons q r => .cons (Rp.dp s (by simp [D.isPs] at h; exact h.1) q) (RpA.dp s (by simp [D.isPs] at h; exact h.2) r)
end
end
/-- data that == takes -/
def D.eqOk (d : D) : Bool := d.isP && SeqAt.shaped d.toP
def D.eqv (d e : D) : Bool := PyData.eqv d.toP e.toP
/-! ### operators -/
def f2I (C : Int → Int → Prop) (g : Int → Int → D) : D → D → (D → Prop) → Prop := fun x y Q => ∃ i j, x = .int i ∧ y = .int j ∧ C i j ∧ Q (g i j)
theorem m2I {C : Int → Int → Prop} {g : Int → Int → D} : M2 (f2I C g) := ⟨fun h ⟨i, j, e1, e2, q, r⟩ => ⟨i, j, e1, e2, q, h _ r⟩⟩
abbrev CT : Int → Int → Prop := fun _ _ => True
section
variable {X : Cx} {c : Dc} {e a b : Expr} {es : List Expr} {ga gb : GE} {gs : GA} {pos : Pos}
theorem rr_I {C : Int → Int → Prop} {g : Int → Int → V} {g' : Int → Int → D} (hg : ∀ F i j, Rp c.K c.o F (g i j) (g' i j)) : RR2 c (rI C g) (f2I C g') := fun F H v w x y P Q k r1 r2 ⟨i, j, e1, e2, q, p⟩ kk => by
  subst e1; subst e2
  exact ⟨i, j, r1.inv_int, r2.inv_int, q, kk _ _ _ _ p k.rf (hg F i j)⟩
theorem rr_I0 {g : Int → Int → V} {g' : Int → Int → D} (hg : ∀ F i j, Rp c.K c.o F (g i j) (g' i j)) : RR2 c (rI0 g) (f2I CT g') := fun F H v w x y P Q k r1 r2 ⟨i, j, e1, e2, q, p⟩ kk => by
  subst e1; subst e2
  exact ⟨i, j, r1.inv_int, r2.inv_int, kk _ _ _ _ p k.rf (hg F i j)⟩
theorem de_add (ha : DE X c a ga) (hb : DE X c b gb) : DE X c (.BinOp a .Add b pos) (g2 (f2I CT fun i j => .int (i + j)) ga gb) := de_op op_add ha hb m2I (rr_I0 fun _ _ _ => .int _)
theorem de_sub (ha : DE X c a ga) (hb : DE X c b gb) : DE X c (.BinOp a .Sub b pos) (g2 (f2I CT fun i j => .int (i - j)) ga gb) := de_op op_sub ha hb m2I (rr_I0 fun _ _ _ => .int _)
theorem de_mul (ha : DE X c a ga) (hb : DE X c b gb) : DE X c (.BinOp a .Mult b pos) (g2 (f2I CMulW fun i j => .int (i * j)) ga gb) := de_op op_mulW ha hb m2I (rr_I fun _ _ _ => .int _)
theorem de_fdiv (ha : DE X c a ga) (hb : DE X c b gb) : DE X c (.BinOp a .FloorDiv b pos) (g2 (f2I CDivW fun i j => .int (i / j)) ga gb) := de_op op_fdivW ha hb m2I (rr_I fun _ _ _ => .int _)
theorem de_mod (ha : DE X c a ga) (hb : DE X c b gb) : DE X c (.BinOp a .Mod b pos) (g2 (f2I (fun _ j => 0 < j) fun i j => .int (i % j)) ga gb) := de_op op_mod ha hb m2I (rr_I fun _ _ _ => .int _)
def fNeg (d : D) (Q : D → Prop) : Prop := ∃ i, d = .int i ∧ Q (.int (-i))
theorem de_neg (ha : DE X c a ga) : DE X c (.UnaryOp .USub a pos) (g1 fNeg ga) := de1 (pe_un un_neg ha.pe) ⟨fun h ⟨i, e, q⟩ => ⟨i, e, h _ q⟩⟩ ha.mono fun F H v d P Q k r ⟨i, e, p⟩ kk => by
  subst e
  exact ⟨i, r.inv_int, kk _ _ _ _ p k.rf (.int _)⟩
/-! ### comparisons -/
abbrev fLt := f2I CT fun i j => .bl (decide (i < j))
abbrev fLe := f2I CT fun i j => .bl (decide (i ≤ j))
abbrev fGt := f2I CT fun i j => .bl (decide (j < i))
abbrev fGe := f2I CT fun i j => .bl (decide (j ≤ i))
theorem rr_lt : RR2 c (rI0 fun i j => .bl (decide (i < j))) fLt := rr_I0 fun _ _ _ => .bl _
theorem rr_le : RR2 c (rI0 fun i j => .bl (decide (i ≤ j))) fLe := rr_I0 fun _ _ _ => .bl _
theorem rr_gt : RR2 c (rI0 fun i j => .bl (decide (j < i))) fGt := rr_I0 fun _ _ _ => .bl _
theorem rr_ge : RR2 c (rI0 fun i j => .bl (decide (j ≤ i))) fGe := rr_I0 fun _ _ _ => .bl _
def fEq (x y : D) (Q : D → Prop) : Prop := x.eqOk = true ∧ y.eqOk = true ∧ Q (.bl (x.eqv y))
def fNe (x y : D) (Q : D → Prop) : Prop := x.eqOk = true ∧ y.eqOk = true ∧ Q (.bl (!x.eqv y))
theorem mEq : M2 fEq := ⟨fun h ⟨e1, e2, q⟩ => ⟨e1, e2, h _ q⟩⟩
theorem mNe : M2 fNe := ⟨fun h ⟨e1, e2, q⟩ => ⟨e1, e2, h _ q⟩⟩
theorem rr_eq : RR2 c (rEqD c.K) fEq := fun F H v w x y P Q k r1 r2 ⟨e1, e2, p⟩ kk => by
  obtain ⟨p1, s1⟩ := Bool.and_eq_true_iff.mp e1
  obtain ⟨p2, s2⟩ := Bool.and_eq_true_iff.mp e2
  exact ⟨_, _, r1.dp k.sm p1, r2.dp k.sm p2, s1, s2, kk _ _ _ _ p k.rf (.bl _)⟩
theorem rr_ne : RR2 c (rNeD c.K) fNe := fun F H v w x y P Q k r1 r2 ⟨e1, e2, p⟩ kk => by
  obtain ⟨p1, s1⟩ := Bool.and_eq_true_iff.mp e1
  obtain ⟨p2, s2⟩ := Bool.and_eq_true_iff.mp e2
  exact ⟨_, _, r1.dp k.sm p1, r2.dp k.sm p2, s1, s2, kk _ _ _ _ p k.rf (.bl _)⟩
theorem dt_lt (ha : DE X c a ga) (hb : DE X c b gb) : DT X c (.Compare a [.Lt] [b] pos) (gB (g2 fLt ga gb)) := dt_cmp op_lt ha hb m2I rr_lt (nomark _)
theorem dt_le (ha : DE X c a ga) (hb : DE X c b gb) : DT X c (.Compare a [.LtE] [b] pos) (gB (g2 fLe ga gb)) := dt_cmp op_le ha hb m2I rr_le (nomark _)
theorem dt_gt (ha : DE X c a ga) (hb : DE X c b gb) : DT X c (.Compare a [.Gt] [b] pos) (gB (g2 fGt ga gb)) := dt_cmp op_gt ha hb m2I rr_gt (nomark _)
theorem dt_ge (ha : DE X c a ga) (hb : DE X c b gb) : DT X c (.Compare a [.GtE] [b] pos) (gB (g2 fGe ga gb)) := dt_cmp op_ge ha hb m2I rr_ge (nomark _)
theorem dt_eq (hu : X.A.units + 64 < cLine) (ha : DE X c a ga) (hb : DE X c b gb) (hK : X.K = c.K := by rfl) : DT X c (.Compare a [.Eq] [b] pos) (gB (g2 fEq ga gb)) := dt_cmp (op_eqD hu) ha hb mEq (by rw [hK]; exact rr_eq) (nomark _)
theorem dt_ne (hu : X.A.units + 64 < cLine) (ha : DE X c a ga) (hb : DE X c b gb) (hK : X.K = c.K := by rfl) : DT X c (.Compare a [.NotEq] [b] pos) (gB (g2 fNe ga gb)) := dt_cmp (op_neD hu) ha hb mNe (by rw [hK]; exact rr_ne) (nomark _)
theorem de_lt (ha : DE X c a ga) (hb : DE X c b gb) : DE X c (.Compare a [.Lt] [b] pos) (g2 fLt ga gb) := de_cmp op_lt ha hb m2I rr_lt (nomark _)
theorem de_le (ha : DE X c a ga) (hb : DE X c b gb) : DE X c (.Compare a [.LtE] [b] pos) (g2 fLe ga gb) := de_cmp op_le ha hb m2I rr_le (nomark _)
theorem de_gt (ha : DE X c a ga) (hb : DE X c b gb) : DE X c (.Compare a [.Gt] [b] pos) (g2 fGt ga gb) := de_cmp op_gt ha hb m2I rr_gt (nomark _)
theorem de_ge (ha : DE X c a ga) (hb : DE X c b gb) : DE X c (.Compare a [.GtE] [b] pos) (g2 fGe ga gb) := de_cmp op_ge ha hb m2I rr_ge (nomark _)
theorem de_eq (hu : X.A.units + 64 < cLine) (ha : DE X c a ga) (hb : DE X c b gb) (hK : X.K = c.K := by rfl) : DE X c (.Compare a [.Eq] [b] pos) (g2 fEq ga gb) := de_cmp (op_eqD hu) ha hb mEq (by rw [hK]; exact rr_eq) (nomark _)
theorem de_ne (hu : X.A.units + 64 < cLine) (ha : DE X c a ga) (hb : DE X c b gb) (hK : X.K = c.K := by rfl) : DE X c (.Compare a [.NotEq] [b] pos) (g2 fNe ga gb) := de_cmp (op_neD hu) ha hb mNe (by rw [hK]; exact rr_ne) (nomark _)
/-! ### in, over flat things -/
def D.flat : D → Bool
  | .non => true
  | .bl _ => true
  | .int _ => true
  | .str _ => true
  | _ => false
def D.toV : D → V
  | .non => .non
  | .bl b => .bl b
  | .int i => .int i
  | .str s => .str s
  | _ => .non
theorem Rp.flat {K : PySem.W.Frag} {o : Option Hd} {F : Hp} {v : V} {d : D} (h : Rp K o F v d) (f : d.flat = true) : v = d.toV ∧ flatV v = true := by
  cases h <;> first | exact ⟨rfl, rfl⟩ | simp [D.flat] at f
theorem RpA.flat {K : PySem.W.Frag} {o : Option Hd} {F : Hp} : ∀ {vs : List V} {ds : List D}, RpA K o F vs ds → ds.all D.flat = true → vs = ds.map D.toV ∧ vs.all flatV = true
  | _, _, .nil, _ => ⟨rfl, rfl⟩
  | _, _, .cons h r, f => by
    simp only [List.all_cons, Bool.and_eq_true] at f
    obtain ⟨e1, e2⟩ := Rp.flat h f.1
    obtain ⟨e3, e4⟩ := RpA.flat r f.2
    subst e1; subst e3
    exact ⟨rfl, by simp [e2, e4]⟩
def D.inD (x : D) (ds : List D) : Bool := L2.inV x.toV (ds.map D.toV)
def fIn (n : Bool) (x y : D) (Q : D → Prop) : Prop := ∃ ds, SqD y ds ∧ x.flat = true ∧ ds.all D.flat = true ∧ Q (.bl (if n then !x.inD ds else x.inD ds))
theorem mIn {n : Bool} : M2 (fIn n) := ⟨fun h ⟨ds, e1, e2, e3, q⟩ => ⟨ds, e1, e2, e3, h _ q⟩⟩
theorem Rp.sq {K : PySem.W.Frag} {o : Option Hd} {F : Hp} {v : V} {d : D} {ds : List D} (h : Rp K o F v d) (q : SqD d ds) : ∃ a xs, v = .ref a ∧ (SqL K F a xs ∨ SqT K F a xs) ∧ RpA K o F xs ds := by
  cases q with
  | lst => obtain ⟨a, xs, e, h1, h2⟩ := h.inv_lst; exact ⟨a, xs, e, .inl (SqL.of h1), h2⟩
  | tup => obtain ⟨a, xs, e, h1, h2⟩ := h.inv_tup; exact ⟨a, xs, e, .inr h1, h2⟩
theorem rr_in {n : Bool} : RR2 c (rIn c.K n) (fIn n) := fun F H v w x y P Q k r1 r2 ⟨ds, e1, e2, e3, p⟩ kk => by
  obtain ⟨a, xs, rfl, h1, h2⟩ := r2.sq e1
  obtain ⟨rfl, f1⟩ := r1.flat e2
  obtain ⟨rfl, f2⟩ := h2.flat e3
  exact ⟨a, _, rfl, h1.elim (fun z => .inl (L2.Same.seq k.sm z)) (fun z => .inr (Same.sqT k.sm z)), f1, f2, kk _ _ _ _ p k.rf (.bl _)⟩
theorem dt_in (ha : DE X c a ga) (hb : DE X c b gb) (hm : behindInMarks .In b = false) (hK : X.K = c.K := by rfl) : DT X c (.Compare a [.In] [b] pos) (gB (g2 (fIn false) ga gb)) := dt_cmp op_in_seq ha hb mIn (by rw [hK]; exact rr_in) hm
theorem dt_notin (ha : DE X c a ga) (hb : DE X c b gb) (hm : behindInMarks .NotIn b = false) (hK : X.K = c.K := by rfl) : DT X c (.Compare a [.NotIn] [b] pos) (gB (g2 (fIn true) ga gb)) := dt_cmp op_notIn_seq ha hb mIn (by rw [hK]; exact rr_in) hm
theorem de_in (ha : DE X c a ga) (hb : DE X c b gb) (hm : behindInMarks .In b = false) (hK : X.K = c.K := by rfl) : DE X c (.Compare a [.In] [b] pos) (g2 (fIn false) ga gb) := de_cmp op_in_seq ha hb mIn (by rw [hK]; exact rr_in) hm
/-! ### items -/
def fIxT (x y : D) (Q : D → Prop) : Prop := ∃ ds i d, x = .tup ds ∧ y = .int i ∧ atI ds i = some d ∧ Q d
def fIxL (x y : D) (Q : D → Prop) : Prop := ∃ ds i d, x = .lst ds ∧ y = .int i ∧ atI ds i = some d ∧ Q d
theorem RpA.atI {K : PySem.W.Frag} {o : Option Hd} {F : Hp} {vs : List V} {ds : List D} {i : Int} {d : D} (h : RpA K o F vs ds) (e : L2.atI ds i = some d) : ∃ v, L2.atI vs i = some v ∧ Rp K o F v d := by
  unfold L2.atI at e ⊢
  rw [h.length]
  cases q : ixN ds.length i with
  | none => rw [q] at e; cases e
  | some j =>
    rw [q] at e
    exact h.getD e
theorem rr_ixT : RR2 c (rIxT c.K) fIxT := fun F H v w x y P Q k r1 r2 ⟨ds, i, d, e1, e2, e3, p⟩ kk => by
  subst e1; subst e2
  obtain ⟨a, xs, rfl, h1, h2⟩ := r1.inv_tup
  obtain ⟨u, e4, r3⟩ := h2.atI e3
  exact ⟨a, xs, i, u, rfl, r2.inv_int, Same.sqT k.sm h1, e4, kk _ _ _ _ p k.rf r3⟩
theorem rr_ixL : RR2 c (rIxL c.K) fIxL := fun F H v w x y P Q k r1 r2 ⟨ds, i, d, e1, e2, e3, p⟩ kk => by
  subst e1; subst e2
  obtain ⟨a, xs, rfl, h1, h2⟩ := r1.inv_lst
  obtain ⟨u, e4, r3⟩ := h2.atI e3
  exact ⟨a, xs, i, u, rfl, r2.inv_int, SqL.of (k.sm _ _ h1), e4, kk _ _ _ _ p k.rf r3⟩
theorem de_ixT (ha : DE X c a ga) (hb : DE X c b gb) (hs : PlainIx b := by exact fun _ _ => rfl) (hK : X.K = c.K := by rfl) : DE X c (.Subscript a b pos) (g2 fIxT ga gb) := de2 (pe_ix ix_tup ha.pe hb.pe hs) ⟨fun h ⟨ds, i, d, e1, e2, e3, q⟩ => ⟨ds, i, d, e1, e2, e3, h _ q⟩⟩ ha.mono hb.mono (by rw [hK]; exact rr_ixT)
theorem de_ixL (ha : DE X c a ga) (hb : DE X c b gb) (hs : PlainIx b := by exact fun _ _ => rfl) (hK : X.K = c.K := by rfl) : DE X c (.Subscript a b pos) (g2 fIxL ga gb) := de2 (pe_ix ix_list ha.pe hb.pe hs) ⟨fun h ⟨ds, i, d, e1, e2, e3, q⟩ => ⟨ds, i, d, e1, e2, e3, h _ q⟩⟩ ha.mono hb.mono (by rw [hK]; exact rr_ixL)
/-! ### built-ins by their arguments -/
theorem de_callB {id : String} {r : List V → Hp → VK → Prop} {f : List D → (D → Prop) → Prop} {x : Str} {p : Pos} (hc : CallR X (.builtin id) r) (hg : Gl X x) (hm : X.mg x = none) (hv : bootBuiltins x = some (.builtin id)) (ha : DA X c (e :: es) gs) (m : M1 f) (l : RRN c r f)
    (hn : x ≠ "__name__" := by decide) (hdb : (x == ("__debug__" : Str)) = false := by decide) (he : starEach (e :: es) X.env = (false, eval e X.env) :: starEach es X.env := by rfl) (hpl : (backTo pos (starEach es X.env)).any (·.1) = false := by rfl) :
    DE X c (.Call (.Name x p) (e :: es) [] pos) (gN f gs) := deN (pe_callB hc hg hm hv ha.pa hn hdb he hpl) m ha.mono l
theorem de_callTy {T : String} {r : List V → Hp → VK → Prop} {f : List D → (D → Prop) → Prop} {x : Str} {p : Pos} (hc : CallR X (.type T) r) (hg : Gl X x) (hm : X.mg x = none) (hv : bootBuiltins x = some (.type T)) (ha : DA X c (e :: es) gs) (m : M1 f) (l : RRN c r f)
    (hn : x ≠ "__name__" := by decide) (hdb : (x == ("__debug__" : Str)) = false := by decide) (he : starEach (e :: es) X.env = (false, eval e X.env) :: starEach es X.env := by rfl) (hpl : (backTo pos (starEach es X.env)).any (·.1) = false := by rfl) :
    DE X c (.Call (.Name x p) (e :: es) [] pos) (gN f gs) := deN (pe_callTy hc hg hm hv ha.pa hn hdb he hpl) m ha.mono l
theorem RpA.inv1 {K : PySem.W.Frag} {o : Option Hd} {F : Hp} {vs : List V} {d : D} (h : RpA K o F vs [d]) : ∃ v, vs = [v] ∧ Rp K o F v d := by
  cases h with
  | cons r q => cases q; exact ⟨_, rfl, r⟩
theorem RpA.inv2 {K : PySem.W.Frag} {o : Option Hd} {F : Hp} {vs : List V} {d e : D} (h : RpA K o F vs [d, e]) : ∃ v w, vs = [v, w] ∧ Rp K o F v d ∧ Rp K o F w e := by
  cases h with
  | cons r q => obtain ⟨w, rfl, r2⟩ := q.inv1; exact ⟨_, w, rfl, r, r2⟩
def fLen (ds : List D) (Q : D → Prop) : Prop := ∃ d xs, ds = [d] ∧ SqD d xs ∧ Q (.int xs.length)
theorem mLen : M1 fLen := ⟨fun h ⟨d, xs, e1, e2, q⟩ => ⟨d, xs, e1, e2, h _ q⟩⟩
theorem de_len {p : Pos} (hg : Gl X "len") (hm : X.mg "len" = none) (ha : DA X c [a] gs) (he : starEach [a] X.env = (false, eval a X.env) :: starEach [] X.env := by rfl) (hK : X.K = c.K := by rfl) : DE X c (.Call (.Name "len" p) [a] [] pos) (gN fLen gs) :=
  de_callB call_len_seq hg hm PySem.boot_len ha mLen (by
    rw [hK]
    intro F H vs ds P Q k r ⟨d, xs, e1, e2, q⟩ kk
    subst e1
    obtain ⟨v, rfl, r1⟩ := r.inv1
    obtain ⟨b, ys, rfl, h1, h2⟩ := r1.sq e2
    exact ⟨b, ys, rfl, h1.elim (fun z => .inl (L2.Same.seq k.sm z)) (fun z => .inr (Same.sqT k.sm z)), kk _ _ _ _ (by rw [h2.length]; exact q) k.rf (.int _)⟩) (he := he)
def D.tyN : D → Option String
  | .non => some "NoneType"
  | .bl _ => some "bool"
  | .int _ => some "int"
  | .str _ => some "str"
  | .lst _ => some "list"
  | .tup _ => some "tuple"
  | _ => none
theorem Rp.tyX {K : PySem.W.Frag} {o : Option Hd} {F : Hp} {v : V} {d : D} {n : String} (h : Rp K o F v d) (e : d.tyN = some n) : TyX K F v (.type n) := by
  cases h with
  | non => cases e; exact .base .non
  | bl b => cases e; exact .base (.bl b)
  | int i => cases e; exact .base (.int i)
  | str s => cases e; exact .base (.str s)
  | lst q r =>
    cases e
    exact .base (.lst q)
  | tup q r =>
    cases e
    rcases q with (q | ⟨u, q⟩) | ⟨u, its, m, h1, h2, _⟩
    · exact .base (.tup q)
    · exact .fTuple q
    · exact .kTuple h1 h2
  | hand => cases e
  | ty => cases e
  | adr => cases e
theorem TyX.same {K : PySem.W.Frag} {F H : Hp} {v : V} {n : String} {o : Option Hd} {d : D} (s : Same F H) (h : Rp K o F v d) (e : d.tyN = some n) : TyX K H v (.type n) := Rp.tyX (h.same s) e
def fIsi (ds : List D) (Q : D → Prop) : Prop := ∃ d n t b, ds = [d, .ty n] ∧ d.tyN = some t ∧ kitB t n = some b ∧ Q (.bl b)
theorem mIsi : M1 fIsi := ⟨fun h ⟨d, n, t, b, e1, e2, e3, q⟩ => ⟨d, n, t, b, e1, e2, e3, h _ q⟩⟩
theorem de_isi {p : Pos} (hg : Gl X "isinstance") (hm : X.mg "isinstance" = none) (ha : DA X c [a, b] gs) (he : starEach [a, b] X.env = (false, eval a X.env) :: starEach [b] X.env := by rfl) (hpl : (backTo pos (starEach [b] X.env)).any (·.1) = false := by rfl) (hK : X.K = c.K := by rfl) : DE X c (.Call (.Name "isinstance" p) [a, b] [] pos) (gN fIsi gs) :=
  de_callB call_isi hg hm PyProof.Rows.boot_isinstance ha mIsi (by
    rw [hK]
    intro F H vs ds P Q k r ⟨d, n, t, bb, e1, e2, e3, q⟩ kk
    subst e1
    obtain ⟨v, w, rfl, r1, r2⟩ := r.inv2
    obtain rfl := r2.inv_ty
    exact ⟨v, .ty n, _, _, bb, rfl, .ty n, TyX.same k.sm r1 e2, kit_ty e3, kk _ _ _ _ q k.rf (.bl _)⟩) (he := he) (hpl := hpl)
def fAll (ds : List D) (Q : D → Prop) : Prop := ∃ bs : List Bool, ds = [.lst (bs.map D.bl)] ∧ Q (.bl (bs.all id))
def fAny (ds : List D) (Q : D → Prop) : Prop := ∃ bs : List Bool, ds = [.lst (bs.map D.bl)] ∧ Q (.bl (bs.any id))
theorem RpA.bls {K : PySem.W.Frag} {o : Option Hd} {F : Hp} : ∀ {vs : List V} {bs : List Bool}, RpA K o F vs (bs.map D.bl) → vs = bs.map V.bl
  | vs, [], h => by cases h; rfl
  | vs, b :: bs, h => by
    cases h with
    | cons r q =>
      obtain rfl := r.inv_bl
      rw [RpA.bls q]
      rfl
theorem de_all {p : Pos} (hc : X.calm = true) (hg : Gl X "all") (hm : X.mg "all" = none) (ha : DA X c [a] gs) (he : starEach [a] X.env = (false, eval a X.env) :: starEach [] X.env := by rfl) (hK : X.K = c.K := by rfl) : DE X c (.Call (.Name "all" p) [a] [] pos) (gN fAll gs) :=
  de_callB (cr_all hc) hg hm PyProof.Rows.boot_all ha ⟨fun h ⟨bs, e, q⟩ => ⟨bs, e, h _ q⟩⟩ (by
    rw [hK]
    intro F H vs ds P Q k r ⟨bs, e1, q⟩ kk
    subst e1
    obtain ⟨v, rfl, r1⟩ := r.inv1
    obtain ⟨b, ys, rfl, h1, h2⟩ := r1.inv_lst
    obtain rfl := h2.bls
    exact ⟨b, bs, rfl, SqL.of (k.sm _ _ h1), kk _ _ _ _ q k.rf (.bl _)⟩) (he := he)
theorem de_any {p : Pos} (hc : X.calm = true) (hg : Gl X "any") (hm : X.mg "any" = none) (ha : DA X c [a] gs) (he : starEach [a] X.env = (false, eval a X.env) :: starEach [] X.env := by rfl) (hK : X.K = c.K := by rfl) : DE X c (.Call (.Name "any" p) [a] [] pos) (gN fAny gs) :=
  de_callB (cr_any hc) hg hm PyProof.Rows.boot_any ha ⟨fun h ⟨bs, e, q⟩ => ⟨bs, e, h _ q⟩⟩ (by
    rw [hK]
    intro F H vs ds P Q k r ⟨bs, e1, q⟩ kk
    subst e1
    obtain ⟨v, rfl, r1⟩ := r.inv1
    obtain ⟨b, ys, rfl, h1, h2⟩ := r1.inv_lst
    obtain rfl := h2.bls
    exact ⟨b, bs, rfl, SqL.of (k.sm _ _ h1), kk _ _ _ _ q k.rf (.bl _)⟩) (he := he)
def fTuO (ds : List D) (Q : D → Prop) : Prop := ∃ d xs, ds = [d] ∧ SqD d xs ∧ Q (.tup xs)
theorem de_tuple {p : Pos} (hg : Gl X "tuple") (hm : X.mg "tuple" = none) (ha : DA X c [a] gs) (he : starEach [a] X.env = (false, eval a X.env) :: starEach [] X.env := by rfl) (hK : X.K = c.K := by rfl) : DE X c (.Call (.Name "tuple" p) [a] [] pos) (gN fTuO gs) :=
  de_callTy call_tuple_of hg hm PyProof.Rows.boot_tuple ha ⟨fun h ⟨d, xs, e1, e2, q⟩ => ⟨d, xs, e1, e2, h _ q⟩⟩ (by
    rw [hK]
    intro F H vs ds P Q k r ⟨d, xs, e1, e2, q⟩ kk
    subst e1
    obtain ⟨v, rfl, r1⟩ := r.inv1
    cases e2 with
    | lst =>
      obtain ⟨b, ys, rfl, h1, h2⟩ := r1.inv_lst
      exact ⟨b, ys, rfl, .inl ⟨SqL.of (k.sm _ _ h1), fun l nl => kk _ _ _ _ q (Stp.new k.sm nl _) (.tup (SqT.of upd_same) (h2.same (Same.upd (free_of k.sm nl))))⟩⟩
    | tup =>
      obtain ⟨b, ys, rfl, h1, h2⟩ := r1.inv_tup
      exact ⟨b, ys, rfl, .inr ⟨Same.sqT k.sm h1, kk _ _ _ _ q k.rf (.tup h1 h2)⟩⟩) (he := he)
def fLiO (ds : List D) (Q : D → Prop) : Prop := ∃ d xs, ds = [d] ∧ SqD d xs ∧ Q (.lst xs)
theorem de_list {p : Pos} (hg : Gl X "list") (hm : X.mg "list" = none) (ha : DA X c [a] gs) (he : starEach [a] X.env = (false, eval a X.env) :: starEach [] X.env := by rfl) (hK : X.K = c.K := by rfl) : DE X c (.Call (.Name "list" p) [a] [] pos) (gN fLiO gs) :=
  de_callTy call_list_of hg hm PyProof.Rows.boot_list ha ⟨fun h ⟨d, xs, e1, e2, q⟩ => ⟨d, xs, e1, e2, h _ q⟩⟩ (by
    rw [hK]
    intro F H vs ds P Q k r ⟨d, xs, e1, e2, q⟩ kk
    subst e1
    obtain ⟨v, rfl, r1⟩ := r.inv1
    obtain ⟨b, ys, rfl, h1, h2⟩ := r1.sq e2
    exact ⟨b, ys, rfl, h1.elim (fun z => .inl (L2.Same.seq k.sm z)) (fun z => .inr (Same.sqT k.sm z)), fun l nl => kk _ _ _ _ q (Stp.new k.sm nl _) (.lst upd_same (h2.same (Same.upd (free_of k.sm nl))))⟩) (he := he)
def fAbs (ds : List D) (Q : D → Prop) : Prop := ∃ i, ds = [.int i] ∧ Q (.int (if i < 0 then -i else i))
theorem de_abs {p : Pos} (hg : Gl X "abs") (hm : X.mg "abs" = none) (ha : DA X c [a] gs) (he : starEach [a] X.env = (false, eval a X.env) :: starEach [] X.env := by rfl) : DE X c (.Call (.Name "abs" p) [a] [] pos) (gN fAbs gs) :=
  de_callB call_abs hg hm PyProof.Rows.boot_abs ha ⟨fun h ⟨i, e, q⟩ => ⟨i, e, h _ q⟩⟩ (by
    intro F H vs ds P Q k r ⟨i, e1, q⟩ kk
    subst e1
    obtain ⟨v, rfl, r1⟩ := r.inv1
    obtain rfl := r1.inv_int
    exact ⟨i, rfl, kk _ _ _ _ q k.rf (.int _)⟩) (he := he)
def fInt1 (ds : List D) (Q : D → Prop) : Prop := ∃ i, ds = [.int i] ∧ Q (.int i)
theorem de_intc {p : Pos} (hg : Gl X "int") (hm : X.mg "int" = none) (ha : DA X c [a] gs) (he : starEach [a] X.env = (false, eval a X.env) :: starEach [] X.env := by rfl) : DE X c (.Call (.Name "int" p) [a] [] pos) (gN fInt1 gs) :=
  de_callTy call_int1 hg hm PyProof.Rows.boot_int ha ⟨fun h ⟨i, e, q⟩ => ⟨i, e, h _ q⟩⟩ (by
    intro F H vs ds P Q k r ⟨i, e1, q⟩ kk
    subst e1
    obtain ⟨v, rfl, r1⟩ := r.inv1
    obtain rfl := r1.inv_int
    exact .inl ⟨i, rfl, kk _ _ _ _ q k.rf (.int _)⟩) (he := he)
end
end Dl
set_option Elab.async false
set_option linter.all false
set_option maxRecDepth 100000
namespace Dl
open PySem L2
abbrev WP := List D → (D → Prop) → XD → Prop
structure MW (wp : WP) : Prop where
  up : ∀ {ds : List D} {P P' : D → Prop} {Z Z' : XD}, (∀ d, P d → P' d) → (∀ C fs, Z C fs → Z' C fs) → wp ds P Z → wp ds P' Z'
/-- a def's promise, told of data -/
def spD (K : PySem.W.Frag) (n : Nat) (wp : WP) : Sp := fun vs H Q E => vs.length = n ∧ ∃ o F ds, Ok o (fun _ => False) F H ∧ RpA K o F vs ds ∧
  wp ds (fun d => ∀ F' H' v, Stp o F H F' H' → Rp K o F' v d → Q v H') (fun C fs => ∀ F' H' dd vs, Stp o F H F' H' → H' dd = some (.xd vs) → RpF K o F' vs fs → E (.ref C) (some dd) H')
def enR (Q : D → Prop) (Z : XD) : DEn := ⟨fun _ => Q .non, Q, fun _ => False, fun _ => False, fun C fs _ => Z C fs⟩
def startD (N : List Str) (ds : List D) : List DV := ds.map DV.dat ++ List.replicate (N.length - ds.length) .no
theorem sl_start {K : PySem.W.Frag} {o : Option Hd} {pb : Addr → Prop} {F H : Hp} {vs : List V} {ds : List D} (N : List Str) (r : RpA K o F vs ds) : Sl K o pb F H (L2.start N vs) (startD N ds) := by
  have no : ∀ {i : Nat} {es : List D}, (startD N ds)[i]? ≠ some (.own es) := fun {i es} z => by
    have := List.mem_of_getElem? z
    rcases List.mem_append.mp this with q | q
    · obtain ⟨d, _, e⟩ := List.mem_map.mp q
      cases e
    · have := (List.mem_replicate.mp q).2
      cases this
  refine ⟨?_, fun i d e => ?_, fun i es e => (no e).elim, fun i j es fs a e => (no e).elim⟩
  · unfold startD L2.start
    rw [List.length_append, List.length_append, List.length_map, List.length_map, List.length_replicate, List.length_replicate, r.length]
  · unfold startD at e
    by_cases h : i < ds.length
    · rw [List.getElem?_append_left (by rw [List.length_map]; exact h), List.getElem?_map] at e
      obtain ⟨d', h1, h2⟩ := Option.map_eq_some_iff.mp e
      cases h2
      obtain ⟨v, h3, h4⟩ := r.getD h1
      refine ⟨v, ?_, h4⟩
      unfold L2.start
      rw [List.getElem?_append_left (by rw [List.length_map, r.length]; exact h), List.getElem?_map, h3]
      rfl
    · rw [List.getElem?_append_right (by rw [List.length_map]; omega)] at e
      have := (List.mem_replicate.mp (List.mem_of_getElem? e)).2
      cases this
section
variable {P : Program} {w : World} {K : PySem.W.Frag} {mg : Str → Option Value} {base : Heap}
theorem okD {x qual : Str} {st : Stmt} {f : Addr} {fd : FuncData} {N ps : List Str} {k : Nat} {wp : WP} (F : Fun K x qual st f fd) (S : FnScope N ps (defScope st))
    (body : ∀ (cdv : Value) (A : Around) (outer : List Env) (s : Shared) (H : Hp) (E : XK) (o : Option Hd) (pb : Addr → Prop) (W : WX), Room k (A.deeper (PyProof.Rows.envOfC qual (defScope st) s.heap.objs.size f cdv)) →
      Takes (cxOf (L2.CX P w) P w K mg base N qual (defScope st) f cdv A outer s H E) W →
      ∃ g, DSs (cxOf (L2.CX P w) P w K mg base N qual (defScope st) f cdv A outer s H E) ⟨K, o, pb, W⟩ (defBody st) g ∧ ∀ ds Q Z, ds.length = ps.length → wp ds Q Z → g (enR Q Z) (startD N ds)) :
    FnOk P w K mg base (L2.CX P w) (k + 1) f fd ps (spD K ps.length wp) := by
  refine F.okX S (fun vs H Q E h => h.1) fun cdv A outer s H vs Q E hr h => ?_
  obtain ⟨hl, o, F0, ds, ok, ra, hw⟩ := h
  have ok' : Ok o (fun b => F0 b = none ∧ ∃ u, H b = some u ∧ Mut u) F0 H := ⟨ok.sm, ok.hd, fun b q => q⟩
  obtain ⟨g, dg, hg⟩ := body cdv A outer s H E o (fun b => F0 b = none ∧ ∃ u, H b = some u ∧ Mut u) (fun cls d _ H => E cls d H) hr (takes_of rfl rfl rfl rfl)
  have stp : ∀ {F' H'}, St3 ⟨K, o, fun b => F0 b = none ∧ ∃ u, H b = some u ∧ Mut u, fun cls d _ H => E cls d H⟩ F0 H F' H' → Stp o F0 H F' H' := fun {F' H'} s3 => ⟨s3.fs, s3.ok.sm, ⟨fun b u n t e => s3.ex.kp b u n t e (by
    by_cases m : Mut u
    · by_cases z : F0 b = none
      · exact .inl ⟨z, u, e, m⟩
      · exact .inr (.inr z)
    · exact .inr (.inl m)), s3.ex.hd, s3.ex.tb⟩, fun b u e1 e2 m => (s3.ok.pr b ⟨e1, u, e2, m⟩).1⟩
  refine ⟨_, dg.ps, F0, startD N ds, ok', sl_start N ra, dg.mono.up (E := enR _ _) ⟨fun ρ q F' H' σ' s3 sl => ?_, fun d q F' H' v s3 r => ?_, fun _ q => q.elim, fun _ q => q.elim, fun C fs ρ q F' H' σ' dd vs' s3 sl e r => ?_⟩ (hg ds _ _ (by rw [← ra.length, hl]) hw)⟩
  · exact q F' H' .non (stp s3) .non
  · exact q F' H' v (stp s3) r
  · exact q F' H' dd vs' (stp s3) e r
/-- a def by its name -/
structure Df (P : Program) (w : World) (K : PySem.W.Frag) (mg : Str → Option Value) (base : Heap) (k : Nat) (x : Str) (ps : List Str) (wp : WP) : Prop where
  ex : ∃ (f : Addr) (fd : FuncData), FnOk P w K mg base (L2.CX P w) k f fd ps (spD K ps.length wp) ∧ mg x = some (.ref f) ∧ PySem.W.keepIn K (.ref f) = true ∧ Binds K fd ps []
  mw : MW wp
theorem Df.imp {k : Nat} {x : Str} {ps : List Str} {wp wp' : WP} (h : Df P w K mg base k x ps wp) (m : MW wp') (l : ∀ ds Q Z, wp' ds Q Z → wp ds Q Z) : Df P w K mg base k x ps wp' := by
  obtain ⟨f, fd, F, h1, h2, h3⟩ := h.ex
  exact ⟨⟨f, fd, F.imp fun vs H Q E ⟨e, o, F0, ds, a, b, d⟩ => ⟨e, o, F0, ds, a, b, l _ _ _ d⟩, h1, h2, h3⟩, m⟩
end
section
variable {X : Cx} {c : Dc} {e : Expr} {es : List Expr} {gs : GA} {pos p : Pos}
def gCall (n : Nat) (wp : WP) (gs : GA) : GE := fun ρ Q Z => gs ρ (fun ds => ds.length = n ∧ wp ds Q Z) Z
theorem de_call {j k : Nat} {x : Str} {ps : List Str} {wp : WP} (Dx : Df X.prog X.w X.K X.mg X.base k x ps wp) (hr : Room j X.A) (hk : k ≤ j) (hg : Gl X x) (tk : Takes X c.W) (ha : DA X c (e :: es) gs) (hdb : (x == ("__debug__" : Str)) = false := by decide)
    (he : starEach (e :: es) X.env = (false, eval e X.env) :: starEach es X.env := by rfl) (hpl : (backTo pos (starEach es X.env)).any (·.1) = false := by rfl) (hK : X.K = c.K := by rfl) : DE X c (.Call (.Name x p) (e :: es) [] pos) (gCall ps.length wp gs) := by
  obtain ⟨f, fd, F, hm, hkp, hb⟩ := Dx.ex
  refine ⟨⟨fun h z w => ha.mono.up (fun ds q => ⟨q.1, Dx.mw.up h z q.2⟩) z w⟩, PE.imp (pe_callS F (hr.mono hk) hg hm hkp hb (fun σ => passAt tk σ) ha.pa hdb he hpl) fun σ H Q ⟨F0, ρ, k0, sl, w⟩ => ?_⟩
  refine goA ha.mono k0 k0.rf sl w fun ds F1 H1 vs s1 r q => ?_
  have k1 := k0.step s1
  refine ⟨by rw [r.length]; exact q.1, c.o, F1, ds, ⟨k1.sm, k1.hd, fun b z => z.elim⟩, by rw [hK]; exact r, Dx.mw.up (fun d h F' H' v s r => ?_) (fun C fs h F' H' dd vs' s e r => ?_) q.2⟩
  · exact h F' H' v (s1.tr k0 s) (by rw [← hK]; exact r)
  · exact h F' H' dd vs' (s1.tr k0 s) e (by rw [← hK]; exact r)
end
/-- a list of one's own is written -/
theorem stUp {c : Dc} {F H F' H' : Hp} {a : Addr} {xs ys : List V} (s : St3 c F H F' H') (hH : H' a = some (.lst xs)) (hF : F' a = none) (n : ∀ h, c.o = some h → a ≠ h.ha ∧ a ≠ h.ca) (np : ¬ c.pb a) : St3 c F H F' (upd H' a (.lst ys)) := by
  have hnd : ∀ h, HandAt H' h → c.o = some h → HandAt (upd H' a (.lst ys)) h := fun h q e => by
    obtain ⟨i, d, x, e2, h1, h2⟩ := q.ex
    exact ⟨⟨i, d, x, e2, by rw [upd_ne (n h e).1.symm]; exact h1, h2⟩, by rw [upd_ne (n h e).2.symm]; exact q.cs, q.ne, q.len⟩
  refine ⟨s.fs, ⟨fun b u m t e q => ?_, fun h e q => hnd h (s.ex.hd h e q) e, fun hh P q t => tabs_upd (s.ex.tb hh P q t) hH⟩, ⟨fun b u e => ?_, fun h e => ⟨hnd h (s.ok.hd h e).1 e, (s.ok.hd h e).2⟩, fun b q => ⟨(s.ok.pr b q).1, ?_⟩⟩⟩
  · have hb := s.ex.kp b u m t e q
    by_cases z : b = a
    · subst z
      rcases q with q | q | q
      · exact (np q).elim
      · rw [hH] at hb
        cases hb
        exact (q True.intro).elim
      · cases y : F b with
        | none => exact (q y).elim
        | some v => rw [s.fs _ _ y] at hF; cases hF
    · rw [upd_ne z]; exact hb
  · rw [upd_ne (ne_of_none e hF)]
    exact s.ok.sm _ _ e
  · rw [upd_ne (fun z => np (by rw [← z]; exact q))]
    exact (s.ok.pr b q).2
section
variable {X : Cx} {c : Dc} {e : Expr} {ge : GE} {pos apos cpos p1 : Pos}
theorem ds_app {x : Str} (i : Nat) (he : DE X c e ge) (hN : X.N[i]? = some x := by rfl) (hv : Vis X.env.scope x := by first | exact Or.inl rfl | exact Or.inr (Or.inl rfl) | exact Or.inr (Or.inr rfl)) (hd : (x == ("__debug__" : Str)) = false := by decide)
    (hcd : (x == ("__classdict__" : Str)) = false := by decide) {st : Stmt} (up : ∀ {to te : TE}, PE X (.Name x p1) to → PE X e te → PS X st (tDrop (tBM X.K "list" rAppend to (tCons te tNil)))) : DS X c st (sApp i ge) :=
  ⟨⟨fun l ⟨ds, e, q⟩ => ⟨ds, e, he.mono.up (fun _ q => ⟨q.1, l.nx _ q.2⟩) (fun _ _ z => l.xd _ _ _ z) q⟩⟩, PS.imp (up (pe_var hN hv hd hcd) he.pe) fun E σ H ⟨F, ρ, k, sl, ds, hi, w⟩ => by
    obtain ⟨a, xs, h1, h2, h3, h4, h5, h6⟩ := sl.own i ds hi
    refine ⟨_, h1, .inl ⟨rfl, xs, SqL.of h2⟩, go he.mono k k.rf sl (he.mono.up (fun _ q => q) (fun _ _ z => xl_of k sl z) w) fun d F' H' v s r p => ?_⟩
    have hH : H' a = some (.lst xs) := s.ex.kp _ _ (fun h e => (h5 h e).1) (fun z => z) h2
    have hF : F' a = none := s.fr _ _ h4 h2 True.intro
    have sl' := sl.step s
    have k' := k.step s
    have r' := h3.same s.fs
    refine ⟨a, xs, v, rfl, rfl, hH, by rw [h3.length]; exact p.1, p.2 F' _ σ (stUp (.of k s) hH hF h5 h6) (sl'.upOwn hi h1 (r'.append (.one r)))⟩⟩
end
end Dl
set_option Elab.async false
set_option linter.all false
set_option maxRecDepth 100000
namespace Dl
open PySem L2
section
variable {X : Cx} {c : Dc} {e a b : Expr} {es : List Expr} {ga gb ge : GE} {gs : GA} {g u : GS} {gt : GT} {pos p : Pos}
/-! ### while: I what stays true, by a measure -/
def sWhile (gt : GT) (gb : GS) : GS := fun E ρ => ∃ I : Nat → List DV → Prop, (∃ m, I m ρ) ∧ ∀ m ρ, I m ρ → gt ρ (fun x => if x = true then gb { nx := fun ρ' => ∃ m', m' < m ∧ I m' ρ', rt := E.rt, bk := E.nx, ct := fun ρ' => ∃ m', m' < m ∧ I m' ρ', xd := E.xd } ρ else E.nx ρ) (zx E ρ)
theorem ds_while {t : Expr} {body : List Stmt} (hp : PassesOwn (model X.prog X.w) X.A X.env X.xe) (ht : DT X c t gt) (hb : DSs X c body g) : DS X c (.While t body [] pos) (sWhile gt g) := by
  refine ⟨⟨fun {E E' ρ} l ⟨I, h0, q⟩ => ⟨I, h0, fun m ρ i => ht.mono.up (fun x q => ?_) (fun _ _ z => l.xd _ _ _ z) (q m ρ i)⟩⟩, PS.imp (ps_while hp ht.pt hb.ps) fun E σ H ⟨F, ρ, k, sl, I, ⟨m0, h0⟩, q⟩ => ?_⟩
  · cases x
    · exact l.nx _ q
    · exact hb.mono.up (E := { nx := fun ρ' => ∃ m', m' < m ∧ I m' ρ', rt := E.rt, bk := E.nx, ct := fun ρ' => ∃ m', m' < m ∧ I m' ρ', xd := E.xd }) ⟨fun _ h => h, l.rt, l.nx, fun _ h => h, l.xd⟩ q
  · refine ⟨fun m σ2 H2 => ∃ F2 ρ2, St3 c F H F2 H2 ∧ Sl c.K c.o c.pb F2 H2 σ2 ρ2 ∧ I m ρ2, ⟨m0, F, ρ, .refl k, sl, h0⟩, ?_⟩
    rintro m σ2 H2 ⟨F2, ρ2, s2, sl2, i⟩
    refine goT ht.mono s2.ok (Ok.rf s2.ok) sl2 (ht.mono.up (fun _ q => q) (fun C fs z => xl_of (E := E) s2.ok sl2 ((enL.step s2).xd _ _ _ z)) (q m ρ2 i)) fun x F3 H3 s3 p3 => ?_
    have s23 : St3 c F H F3 H3 := s2.trans (.of s2.ok s3)
    cases x
    · exact p3 F3 H3 σ2 s23 (sl2.step s3)
    · refine ⟨fun σ4 H4 => ∃ m', m' < m ∧ ∃ F4 ρ4, St3 c F H F4 H4 ∧ Sl c.K c.o c.pb F4 H4 σ4 ρ4 ∧ I m' ρ4, fun σ4 H4 h => h, F3, ρ2, s23.ok, sl2.step s3, hb.mono.up (E := { nx := fun ρ' => ∃ m', m' < m ∧ I m' ρ', rt := (enL c F H E).rt, bk := (enL c F H E).nx, ct := fun ρ' => ∃ m', m' < m ∧ I m' ρ', xd := (enL c F H E).xd }) ⟨fun ρ5 ⟨m', hm, i'⟩ F5 H5 σ5 s5 sl5 => ⟨m', hm, F5, ρ5, s23.trans s5, sl5, i'⟩, fun d p F5 H5 v s5 r => ?_, fun ρ5 p F5 H5 σ5 s5 sl5 => ?_, fun ρ5 ⟨m', hm, i'⟩ F5 H5 σ5 s5 sl5 => ⟨m', hm, F5, ρ5, s23.trans s5, sl5, i'⟩, fun C fs ρ5 p F5 H5 σ5 dd vs s5 sl5 e r => ?_⟩ p3⟩
      · exact p F5 H5 v (s23.trans s5) r
      · exact p F5 H5 σ5 (s23.trans s5) sl5
      · exact p F5 H5 σ5 dd vs (s23.trans s5) sl5 e r
/-! ### zip -/
def giZ (gs : GA) : GI := fun ρ Q Z => gs ρ (fun ds => ∃ x y xs ys, ds = [x, y] ∧ SqD x xs ∧ SqD y ys ∧ xs.length = ys.length ∧ Q (zipD xs ys)) Z
/-! ### lists put together -/
def f2Cat (x y : D) (Q : D → Prop) : Prop := ∃ xs ys, x = .lst xs ∧ y = .lst ys ∧ xs.length + ys.length ≤ sizeLine ∧ Q (.lst (xs ++ ys))
theorem de_cat (ha : DE X c a ga) (hb : DE X c b gb) : DE X c (.BinOp a .Add b pos) (g2 f2Cat ga gb) := de_op op_cat ha hb ⟨fun h ⟨xs, ys, e1, e2, z, q⟩ => ⟨xs, ys, e1, e2, z, h _ q⟩⟩ fun F H v w x y P Q k r1 r2 ⟨xs, ys, e1, e2, z, q⟩ kk => by
  subst e1; subst e2
  obtain ⟨a, us, rfl, h1, h2⟩ := r1.inv_lst
  obtain ⟨b, ws, rfl, h3, h4⟩ := r2.inv_lst
  exact ⟨a, b, us, ws, rfl, rfl, k.sm _ _ h1, k.sm _ _ h3, by rw [h2.length, h4.length]; exact z, fun p np => kk _ _ _ _ q (Stp.new k.sm np _) (.lst upd_same ((h2.append h4).same (Same.upd (free_of k.sm np))))⟩
def f2CatT (x y : D) (Q : D → Prop) : Prop := ∃ xs ys, x = .tup xs ∧ y = .tup ys ∧ xs.length + ys.length ≤ sizeLine ∧ Q (.tup (xs ++ ys))
theorem de_catT (ha : DE X c a ga) (hb : DE X c b gb) (hK : X.K = c.K := by rfl) : DE X c (.BinOp a .Add b pos) (g2 f2CatT ga gb) := de_op op_catA ha hb ⟨fun h ⟨xs, ys, e1, e2, z, q⟩ => ⟨xs, ys, e1, e2, z, h _ q⟩⟩ fun F H v w x y P Q k r1 r2 ⟨xs, ys, e1, e2, z, q⟩ kk => by
  subst e1; subst e2
  obtain ⟨a, us, rfl, h1, h2⟩ := r1.inv_tup
  obtain ⟨b, ws, rfl, h3, h4⟩ := r2.inv_tup
  rw [hK]
  refine ⟨a, b, us, ws, rfl, rfl, Same.sqT k.sm h1, Same.sqT k.sm h3, by rw [h2.length, h4.length]; exact z, fun e => ?_, fun _ e => ?_, fun _ _ p np => kk _ _ _ _ q (Stp.new k.sm np _) (.tup (SqT.of upd_same) ((h2.append h4).same (Same.upd (free_of k.sm np))))⟩
  · subst e
    cases h2
    exact kk _ _ _ _ q k.rf (.tup h3 h4)
  · subst e
    cases h4
    rw [List.append_nil] at q
    exact kk _ _ _ _ q k.rf (.tup h1 h2)
def f2Rep (x y : D) (Q : D → Prop) : Prop := ∃ (xs : List D) (n : Nat), x = .lst xs ∧ y = .int n ∧ (n : Int) < 2 ^ 63 ∧ xs.length * n ≤ sizeLine ∧ Q (.lst (List.replicate n xs).flatten)
theorem RpA.flat_rep {K : PySem.W.Frag} {o : Option Hd} {F : Hp} {vs : List V} {ds : List D} (h : RpA K o F vs ds) : ∀ n, RpA K o F (List.replicate n vs).flatten (List.replicate n ds).flatten
  | 0 => .nil
  | n + 1 => by
    rw [List.replicate_succ, List.replicate_succ, List.flatten_cons, List.flatten_cons]
    exact h.append (RpA.flat_rep h n)
theorem de_rep (ha : DE X c a ga) (hb : DE X c b gb) : DE X c (.BinOp a .Mult b pos) (g2 f2Rep ga gb) := de_op op_rep ha hb ⟨fun h ⟨xs, n, e1, e2, z1, z2, q⟩ => ⟨xs, n, e1, e2, z1, z2, h _ q⟩⟩ fun F H v w x y P Q k r1 r2 ⟨xs, n, e1, e2, z1, z2, q⟩ kk => by
  subst e1; subst e2
  obtain ⟨a, us, rfl, h1, h2⟩ := r1.inv_lst
  obtain rfl := r2.inv_int
  refine ⟨a, n, us, rfl, rfl, k.sm _ _ h1, by omega, z1, by rw [h2.length, Int.toNat_natCast]; exact z2, fun p np => ?_⟩
  rw [Int.toNat_natCast]
  exact kk _ _ _ _ q (Stp.new k.sm np _) (.lst upd_same ((h2.flat_rep n).same (Same.upd (free_of k.sm np))))
theorem sq_of {K : PySem.W.Frag} {o : Option Hd} {F H : Hp} {v : V} {d : D} {ds : List D} (s : Same F H) (h : Rp K o F v d) (q : SqD d ds) : ∃ k a xs, v = .ref a ∧ (∀ H', Same F H' → Kz.Sq k K H' a xs) ∧ RpA K o F xs ds := by
  cases q with
  | lst => obtain ⟨a, xs, e, h1, h2⟩ := h.inv_lst; exact ⟨false, a, xs, e, fun H' s => SqL.of (s _ _ h1), h2⟩
  | tup => obtain ⟨a, xs, e, h1, h2⟩ := h.inv_tup; exact ⟨true, a, xs, e, fun H' s => Same.sqT s h1, h2⟩
theorem wk_zip {F : Hp} {k1 k2 : Bool} {a b : Addr} {us ws : List V} {xs ys : List D} (h1 : ∀ H, Same F H → Kz.Sq k1 c.K H a us) (h2 : ∀ H, Same F H → Kz.Sq k2 c.K H b ws) (r1 : RpA c.K c.o F us xs) (r2 : RpA c.K c.o F ws ys) (hl : xs.length = ys.length) : DWk c F (Kz.ItM c.K k1 k2 a b) (zipD xs ys) := by
  have e : (zipD xs ys).length = xs.length := by simp [zipD, hl]
  refine ⟨fun H => Kz.Sq k1 c.K H a us ∧ Kz.Sq k2 c.K H b ws, YPair (fun i => us[i]?) (fun i => ws[i]?), by rw [e]; exact Kz.walkM r1.length (r2.length.trans hl.symm), fun H s => ⟨h1 H s, h2 H s⟩, fun i H x H' F2 d y s1 s2 ed => ?_⟩
  obtain ⟨T, x1, y1, rfl, nT, rfl, ex, ey⟩ := y
  obtain ⟨d1, g1, q1⟩ := r1.get ex
  obtain ⟨d2, g2, q2⟩ := r2.get ey
  have hd : d = .tup [d1, d2] := by
    simp only [zipD, List.getElem?_map, Option.map_eq_some_iff] at ed
    obtain ⟨⟨u1, u2⟩, z1, rfl⟩ := ed
    rw [List.getElem?_zip_eq_some] at z1
    rw [g1] at z1
    rw [g2] at z1
    obtain ⟨z1, z2⟩ := z1
    cases z1; cases z2
    rfl
  subst hd
  exact ⟨_, Stp.new s2 nT _, .tup (SqT.of upd_same) (.cons ((q1.same s1).same (Same.upd (free_of s2 nT))) (.one ((q2.same s1).same (Same.upd (free_of s2 nT)))))⟩
theorem di_zip {elts : List Expr} {kk : Nat} {tpos : Pos} (hg : Gl X "zip") (hm : X.mg "zip" = none) (ha : DA X c [a, b] gs) (hs : starEach [a, b] X.env = (false, eval a X.env) :: starEach [b] X.env := by rfl) (hpl : (backTo pos (starEach [b] X.env)).any (·.1) = false := by rfl) (hK : X.K = c.K := by rfl) :
    DI X c (.Tuple elts kk tpos) (.Call (.Name "zip" p) [a, b] [] pos) (giZ gs) := ⟨⟨fun h' z w => ha.mono.up (fun _ ⟨x, y, xs, ys, e1, e2, e3, q⟩ => ⟨x, y, xs, ys, e1, e2, e3, q.1, h' _ q.2⟩) z w⟩, PI.imp (Kz.pi_zipM hg hm ha.pa hs hpl) fun σ H R ⟨F, ρ, k, sl, w⟩ =>
    goA ha.mono k k.rf sl w fun ds F' H' vs s rp ⟨x, y, xs, ys, e1, e2, e3, hl, q⟩ => by
      subst e1
      obtain ⟨v, w', rfl, r1, r2⟩ := rp.inv2
      obtain ⟨k1, a1, us, rfl, h1, h2⟩ := sq_of s.sm r1 e2
      obtain ⟨k2, a2, ws, rfl, h3, h4⟩ := sq_of s.sm r2 e3
      rw [hK]
      exact ⟨k1, k2, a1, a2, us, ws, rfl, h1 _ s.sm, h3 _ s.sm, q F' H' _ s (wk_zip h1 h3 h2 h4 hl)⟩⟩
/-! ### x[i] = e, x a list of one's own -/
def sIx (i : Nat) (ge gi : GE) : GS := fun E ρ => ge ρ (fun d => ∃ ds, ρ[i]? = some (.own ds) ∧ gi ρ (fun n => ∃ k j, n = .int k ∧ ixN ds.length k = some j ∧ E.nx (ρ.set i (.own (ds.set j d)))) (zx E ρ)) (zx E ρ)
theorem ds_ix {x : Str} {p1 : Pos} (i : Nat) (he : DE X c e ge) (hi' : DE X c a ga) (hN : X.N[i]? = some x := by rfl) (hv : Vis X.env.scope x := by first | exact Or.inl rfl | exact Or.inr (Or.inl rfl) | exact Or.inr (Or.inr rfl)) (hd : (x == ("__debug__" : Str)) = false := by decide)
    (hcd : (x == ("__classdict__" : Str)) = false := by decide) {st : Stmt} (up : ∀ {to ti te : TE}, PE X (.Name x p1) to → PE X a ti → PE X e te → PS X st (tAsg te (gSub to ti rSetL))) : DS X c st (sIx i ge ga) :=
  ⟨⟨fun l q => he.mono.up (fun d ⟨ds, e, q⟩ => ⟨ds, e, hi'.mono.up (fun n ⟨k, j, e1, e2, q⟩ => ⟨k, j, e1, e2, l.nx _ q⟩) (fun _ _ z => l.xd _ _ _ z) q⟩) (fun _ _ z => l.xd _ _ _ z) q⟩, PS.imp (up (pe_var hN hv hd hcd) hi'.pe he.pe) fun E σ H ⟨F, ρ, k, sl, w⟩ => by
    refine go he.mono k k.rf sl (he.mono.up (fun _ q => q) (fun _ _ z => xl_of k sl z) w) fun d F1 H1 v s1 r1 ⟨ds, hi, w2⟩ => ?_
    have k1 := k.step s1
    have sl1 := sl.step s1
    obtain ⟨a', xs, h1, h2, h3, h4, h5, h6⟩ := sl1.own i ds hi
    refine ⟨_, h1, go hi'.mono k1 k1.rf sl1 (hi'.mono.up (fun _ q => q) (fun C fs z => xl_of (E := E) k1 sl1 ((enL.step (.of k s1)).xd _ _ _ z)) w2) fun n F2 H2 u s2 r2 ⟨i0, j, e1, e2, p⟩ => ?_⟩
    subst e1
    obtain rfl := r2.inv_int
    have hH : H2 a' = some (.lst xs) := s2.ex.kp _ _ (fun h e => (h5 h e).1) (fun z => z) h2
    have hF : F2 a' = none := s2.fr _ _ h4 h2 True.intro
    have s12 := (St3.of k s1).trans (.of k1 s2)
    exact ⟨a', xs, i0, j, rfl, rfl, hH, by rw [h3.length]; exact e2, p F2 _ σ (stUp s12 hH hF h5 h6) ((sl1.step s2).upOwn hi h1 ((h3.same s2.fs).set j (r1.same s2.fs)))⟩⟩
end
end Dl
set_option Elab.async false
set_option linter.all false
set_option maxRecDepth 100000
set_option maxHeartbeats 8000000
namespace Dh
open PySem L2 Dl
theorem same_upd {H0 H : Hp} {D : Addr} {o : HO} (n : H0 D = none) (e : Same H0 H) : Same H0 (upd H D o) := fun b u z => by rw [upd_ne (ne_of_none z n)]; exact e b u z

/-- all but D is kept, D is a list -/
def KpD (D : Addr) (H H' : Hp) : Prop := (∃ xs, H D = some (.lst xs)) ∧ ∀ b o, b ≠ D → H b = some o → H' b = some o

/-- a comprehension without a test: item i bears R i -/
theorem lcR {J : It} {n : Nat} {G : Hp → Prop} {Y : Nat → Hp → V → Hp → Prop} (w : Walk J n G Y) {g : TG} {te : TE} {vs : List Nat} {σ : St} {H1 : Hp} {D : Addr} {Qd : Hp → Prop} (R : Nat → V → Hp → Prop)
    (hR : ∀ i y H H', KpD D H H' → R i y H → R i y H') (nD : H1 D = none) (hn : n ≤ 1000) (hG : ∀ H, Same H1 H → G H)
    (hs : ∀ i x H H' (Q : VK), i < n → Same H1 H → (∃ xs, H D = some (.lst xs)) → Y i H x H' → (∀ y H4, Same H H4 → R i y H4 → Q y H4) → g x (wipe σ vs) H' fun σ2 H2 => wipe σ2 vs = wipe σ vs ∧ te σ2 H2 Q)
    (hd : ∀ H acc, Same H1 H → H D = some (.lst acc) → acc.length = n → (∀ j y, acc[j]? = some y → R j y H) → Qd H) :
    ∃ W : Nat → Nat → Hp → Prop, (∃ m, W 0 m (upd H1 D (.lst []))) ∧ ∀ i m H, W i m H →
      (J.stop i H ∧ Qd H) ∨ (J.go i H ∧ ∃ Nx : Hp → Prop, (∀ H', Nx H' → ∃ m', m' < m ∧ W (i + 1) m' H') ∧ ∀ x H', J.yld i H x H' → g x (wipe σ vs) H' fun σ2 H2 => wipe σ2 vs = wipe σ vs ∧ tYes σ2 H2 fun b H3 =>
        if b = true then te σ2 H3 fun y H4 => ∃ acc, H4 D = some (.lst acc) ∧ acc.length < sizeLine ∧ Nx (upd H4 D (.lst (acc ++ [y]))) else Nx H3) := by
  refine lc_it w (tt := tYes) (fun i H => Same H1 H ∧ ∃ acc, H D = some (.lst acc) ∧ acc.length = i ∧ ∀ j y, acc[j]? = some y → R j y H) ⟨same_upd nD (Same.refl _), [], upd_same, rfl, fun j y z => by simp at z⟩ (fun i H _ q => hG H q.1) ?_ ?_
  · rintro i x H H' hi ⟨s1, acc, hD, hl, hr⟩ hy
    refine hs i x H H' _ hi s1 ⟨acc, hD⟩ hy fun y H4 s4 r4 => ?_
    have hD4 := s4 _ _ hD
    refine ⟨acc, hD4, small1000 (by omega), same_upd nD (s1.trans s4), _, upd_same, by rw [List.length_append, hl]; rfl, fun j u e => ?_⟩
    have kp : KpD D H4 (upd H4 D (.lst (acc ++ [y]))) := ⟨⟨_, hD4⟩, fun b o ne e => by rw [upd_ne ne]; exact e⟩
    have kp0 : KpD D H H4 := ⟨⟨_, hD⟩, fun b o _ e => s4 b o e⟩
    by_cases hj : j < acc.length
    · rw [List.getElem?_append_left hj] at e
      exact hR _ _ _ _ kp (hR _ _ _ _ kp0 (hr j u e))
    · rw [List.getElem?_append_right (by omega)] at e
      have z : j - acc.length = 0 := by
        by_cases z : j - acc.length = 0
        · exact z
        · rw [List.getElem?_eq_none (by simp; omega)] at e
          cases e
      rw [z] at e
      have ey : y = u := by simpa using e
      subst ey
      have ej : j = i := by omega
      subst ej
      exact hR _ _ _ _ kp r4
  · rintro H ⟨s1, acc, hD, hl, hr⟩
    exact hd H acc s1 hD hl hr

/-- ints one by one -/
theorem ints_of {P : Int → Prop} : ∀ {acc : List V}, (∀ (j : Nat) (y : V), acc[j]? = some y → ∃ z, y = .int z ∧ P z) → ∃ zs : List Int, acc = zs.map V.int ∧ ∀ z ∈ zs, P z
  | [], _ => ⟨[], rfl, fun z hz => by cases hz⟩
  | v :: r, h => by
    obtain ⟨z, rfl, hz⟩ := h 0 v rfl
    obtain ⟨zs, e, p⟩ := ints_of (acc := r) fun j y hy => h (j + 1) y (by simpa using hy)
    exact ⟨z :: zs, by rw [e]; rfl, fun x hx => by
      rcases List.mem_cons.mp hx with e' | hx
      · rw [e']; exact hz
      · exact p x hx⟩

abbrev HandAt (H : Hp) (ha ca : Addr) (ns : List Int) : Prop := Dl.HandAt H ⟨ha, ca, ns⟩
def KpH (ha : Addr) (H H' : Hp) : Prop := ∀ b o, b ≠ ha → H b = some o → H' b = some o
def spHand (K : PySem.W.Frag) : Sp := fun vs H Q _ => ∃ a, ∃ ns : List Int, vs = [.ref a] ∧ SqL K H a (ns.map V.int) ∧ ns.length ≤ 63 ∧ ∀ H' ha ca cs, Same H H' → H ha = none → HandAt H' ha ca cs → Q (.ref ha) H'
def spDraw : Sp := fun vs H Q _ => ∃ ha ca ns, ∃ b : Int, vs = [.ref ha, .int b] ∧ HandAt H ha ca ns ∧ 0 < b ∧ b < 1000 ∧ ∀ H' d, KpH ha H H' → HandAt H' ha ca ns → 0 ≤ d → d < b → Q (.int d) H'

def wp_draw : WP := fun ds Q _ => ∃ b : Int, ds = [.hand, .int b] ∧ 0 < b ∧ b < 1000 ∧ ∀ d, 0 ≤ d → d < b → Q (.int d)
theorem mw_draw : MW wp_draw := ⟨fun h _ ⟨b, e, q1, q2, q⟩ => ⟨b, e, q1, q2, fun d a1 a2 => h _ (q d a1 a2)⟩⟩
theorem tabs_kp {H H' : Hp} {ha P : Addr} {q : Str} {xs : List V} (t : LamX.TabS H P q) (h : H ha = some (.lst xs)) (k : KpH ha H H') : LamX.TabS H' P q := by
  obtain ⟨ps, h1, h2, h3⟩ := t
  refine ⟨ps, k _ _ (fun z => by rw [z, h] at h1; cases h1) h1, h2, fun pos cv e => ?_⟩
  obtain ⟨c, e1, e2⟩ := h3 pos cv e
  exact ⟨c, e1, k _ _ (fun z => by rw [z, h] at e2; cases e2) e2⟩
theorem dd_draw {P : Program} {w : World} {K : PySem.W.Frag} {mg : Str → Option Value} {base : Heap} {f : Addr} {fd : FuncData} {x : Str} {k : Nat} (F : FnOk P w K mg base (L2.CX P w) k f fd ["hand", "below"] spDraw) (hm : mg x = some (.ref f)) (hk : PySem.W.keepIn K (.ref f) = true) (hb : Binds K fd ["hand", "below"] []) :
    Dl.Df P w K mg base k x ["hand", "below"] wp_draw := ⟨⟨f, fd, F.imp fun vs H Q E ⟨_, o, F0, ds, ok, ra, b, e, h1, h2, q⟩ => by
  subst e
  obtain ⟨u, v, rfl, r1, r2⟩ := ra.inv2
  obtain rfl := r2.inv_int
  obtain ⟨h, rfl, rfl⟩ := r1.inv_hand
  obtain ⟨hh, fn⟩ := ok.hd h rfl
  refine ⟨h.ha, h.ca, h.ns, b, rfl, hh, h1, h2, fun H' d kp hh' d0 d1 => q d d0 d1 F0 H' _ ⟨Same.refl _, fun a u e => ?_, ⟨fun a u n _ e => kp a u (n h rfl) e, fun h' e _ => ?_, fun _ P q t => ?_⟩, fun _ _ e _ _ => e⟩ (.int d)⟩
  · exact kp a u (fun z => by rw [z, fn] at e; cases e) (ok.sm _ _ e)
  · cases e; exact hh'
  · obtain ⟨i, d, x, e2, h3, _⟩ := hh.ex
    exact tabs_kp t h3 kp, hm, hk, hb⟩, mw_draw⟩
end Dh
set_option Elab.async false
set_option linter.all false
set_option maxRecDepth 100000
set_option maxHeartbeats 4000000
namespace Dg
open PySem PySem.Spec PyProof.Rows L2
/-- what repr tells of tuples of tuples where no repr is under way -/
def rRep (K : PySem.W.Frag) : List V → Hp → VK → Prop := fun xs H Q => ∃ a d, xs = [.ref a] ∧ Dp K H (.ref a) d ∧ d.showable = true ∧ d.hasDict = false ∧ d.depth ≤ 64 ∧ d.shown.length ≤ sizeLine ∧ Q (.str d.shown) H
theorem call_rep {X : Cx} (hg : X.A.guards = some []) (hu : X.A.units + 65 < cLine) : CallR X (.builtin "repr") (rRep X.K) := by
  intro pins s σ H xs us Q I r h
  obtain ⟨a, d, rfl, hd, h1, h2, h3, h4, q⟩ := h
  obtain ⟨u, rfl, rx⟩ := vals1 r
  obtain rfl : u = .ref a := rx
  obtain ⟨as, R⟩ := Dp.reads I d _ (.ref a) hd rfl
  exact repr_of_reads' R h1 (PyData.noDict_hsm h2) hg (by omega) (fun _ _ e => e) (fun h' u tk k => ⟨.str d.shown, H, I.kept k, ⟨_, rfl⟩, q⟩) h4
section
variable {CX : CXT} {P : Program} {w : World} {K : PySem.W.Frag} {mg : Str → Option Value} {base : Heap} {k : Nat} {f a : Addr} {fd : FuncData} {N ps : List Str} {sp : Sp} {x qual : Str} {st : Stmt}
/-- a def of the text, run once, at a place that is known -/
theorem run_once {A : Around} {outer : List Env} {s : Shared} {H : Hp} {args : Args} {us : List Value} {vs : List V} {Q : VK} {E : XK} (F : Fun K x qual st f fd) (S : FnScope N ps (defScope st)) (hv : vs.length = ps.length) (hr : Room (k + 1) A) (e : Env0 P w K mg base A outer s H) (hb : BindsTo s fd args (ps.zip us)) (r : Vals vs us)
    (body : ∀ cdv : Value, Room k (A.deeper (envOfC qual (defScope st) s.heap.objs.size f cdv)) → ∃ t, PSs (cxOf CX P w K mg base N qual (defScope st) f cdv A outer s H E) (defBody st) t ∧ t { nx := fun _ H' => Q .non H', rt := Q } (start N vs) H) :
    codeAny (model P w) A (.call (.ref f) args) (CR CX outer P w H s Q E) s := by
  obtain ⟨oc, od, kV, doc, pm, an, cdv, ct, osl, rfl, lk, hcd⟩ := F.ex
  have up : ∀ b o, base.get? b = some o → s.heap.get? b = some o := fun b o z => (e.bs b o z).1
  have KX := e.mod.kin.keeps up
  refine codeAny_call_function hr.depth (KX _ _ lk) rfl S.co S.gen rfl (PySem.W.codeRec_of KX hcd) (hb _ _ _ _ ?_)
  refine wpAny_newFunctionEnv_cells S.kind (fun y hy => ?_) fun env he s1 z => ?_
  · rcases S.par y.1 (List.of_mem_zip (show (y.1, y.2) ∈ ps.zip us from hy)).1 with q | q
    · exact Or.inl q
    · exact Or.inr ⟨q, PySem.W.cellsFrom_some _ _ _ (Or.inl q)⟩
  subst he
  refine ⟨(e.mod.nolimit.keeps up).keeps z.toInCall.keep, codeAny_func ?_⟩
  obtain ⟨t, ht, hq⟩ := body cdv (hr.deeper _)
  refine wpAny_mono (ht.run [] s1 (start N vs) H _ (inv_start S hr.hd e hv r z) hq) (fun fl s' hs => ?_) fun _ _ z => z
  cases fl with
  | next =>
    obtain ⟨σ', H', J, q⟩ := hs
    exact ⟨.non, H', J.os, J.bare, J.base, J.hok, rfl, q⟩
  | ret u =>
    obtain ⟨v, σ', H', J, rv, q⟩ := hs
    exact ⟨v, H', J.os, J.bare, J.base, J.hok, rv, q⟩
  | brk => exact (let ⟨_, _, _, q⟩ := hs; q : False).elim
  | cont => exact (let ⟨_, _, _, q⟩ := hs; q : False).elim
end
open Dl
/-! ### repr, of data -/
structure Rep (d : D) (p L : Nat) : Prop where
  isP : D.isP d = true
  sh : d.toP.showable = true
  nd : d.toP.hasDict = false
  dp : d.toP.depth ≤ p
  ln : d.toP.shown.length ≤ L
theorem Rep.mono {d : D} {p q L M : Nat} (h : Rep d p L) (h1 : p ≤ q) (h2 : L ≤ M) : Rep d q M := ⟨h.isP, h.sh, h.nd, Nat.le_trans h.dp h1, Nat.le_trans h.ln h2⟩
theorem rep_int {i : Int} (h : i.natAbs.log2 < 1920) : Rep (.int i) 0 1921 := ⟨rfl, by simp [D.toP, PyData.showable, h], by simp [D.toP, PyData.hasDict], by simp [D.toP, PyData.depth], by
  show (Str.ofString (toString i)).length ≤ 1921
  have e := int_text_length_le (k := 1920) (by decide) h
  rw [PySem.ofString_length]
  omega⟩
theorem rep_bl {b : Bool} : Rep (.bl b) 0 5 := ⟨rfl, by simp [D.toP, PyData.showable], by simp [D.toP, PyData.hasDict], by simp [D.toP, PyData.depth], by cases b <;> decide +kernel⟩
theorem rep_all {p L : Nat} : ∀ {ds : List D}, (∀ x ∈ ds, Rep x p L) → D.isPs ds = true ∧ PyData.showableAll (D.toPs ds) = true ∧ PyData.hasDictAll (D.toPs ds) = false ∧ PyData.depthAll (D.toPs ds) ≤ p ∧ ((PyData.shownAll (D.toPs ds)).map (·.length)).sum ≤ ds.length * L ∧ (PyData.shownAll (D.toPs ds)).length = ds.length
  | [], _ => ⟨rfl, by simp [D.toPs, PyData.showableAll], by simp [D.toPs, PyData.hasDictAll], by simp [D.toPs, PyData.depthAll], by simp [D.toPs, PyData.shownAll], by simp [D.toPs, PyData.shownAll]⟩
  | x :: ds, h => by
    obtain ⟨h1, h2, h3, h4, h5, h6⟩ := rep_all (ds := ds) fun y hy => h y (List.mem_cons_of_mem _ hy)
    have hx := h x List.mem_cons_self
    refine ⟨by simp [D.isPs, hx.isP, h1], by simp [D.toPs, PyData.showableAll, hx.sh, h2], by simp [D.toPs, PyData.hasDictAll, hx.nd, h3], ?_, ?_, ?_⟩
    · simp only [D.toPs, PyData.depthAll]
      have := hx.dp
      omega
    · simp only [D.toPs, PyData.shownAll, List.map_cons, List.sum_cons, List.length_cons, Nat.succ_mul]
      have := hx.ln
      omega
    · simp only [D.toPs, PyData.shownAll, List.length_cons, h6]
theorem rep_lst {p L : Nat} {ds : List D} (h : ∀ x ∈ ds, Rep x p L) : Rep (.lst ds) (p + 1) (ds.length * L + 2 * ds.length + 3) := by
  obtain ⟨h1, h2, h3, h4, h5, h6⟩ := rep_all h
  refine ⟨h1, by simp [D.toP, PyData.showable, h2], by simp [D.toP, PyData.hasDict, h3], by simp only [D.toP, PyData.depth]; omega, ?_⟩
  have := listText_len_le (PyData.shownAll (D.toPs ds))
  simp only [D.toP, PyData.shown]
  omega
theorem rep_tup {p L : Nat} {ds : List D} (h : ∀ x ∈ ds, Rep x p L) : Rep (.tup ds) (p + 1) (ds.length * L + 2 * ds.length + 3) := by
  obtain ⟨h1, h2, h3, h4, h5, h6⟩ := rep_all h
  refine ⟨h1, by simp [D.toP, PyData.showable, h2], by simp [D.toP, PyData.hasDict, h3], by simp only [D.toP, PyData.depth]; omega, ?_⟩
  have := tupleText_len_le (PyData.shownAll (D.toPs ds))
  simp only [D.toP, PyData.shown]
  omega
def rRepD (K : PySem.W.Frag) : List V → Hp → VK → Prop := fun xs H Q => (∃ i : Int, xs = [.int i] ∧ i.natAbs.log2 < 1920 ∧ Q (.str (toString i)) H) ∨ (∃ b : Bool, xs = [.bl b] ∧ Q (.str (if b then "True" else "False")) H) ∨ rRep K xs H Q
theorem call_repD {X : Cx} (hg : X.A.guards = some []) (hu : X.A.units + 65 < cLine) : CallR X (.builtin "repr") (rRepD X.K) := by
  intro pins s σ H xs us Q I r h
  rcases h with h | ⟨b, rfl, q⟩ | h
  · exact SkE.call_repr_int pins s σ H xs us Q I r h
  · obtain ⟨u, rfl, rx⟩ := vals1 r
    obtain rfl : u = Value.bool b := rx
    exact PySem.P.repr_of_bool ⟨.str _, H, I.tok _, ⟨_, rfl⟩, q⟩
  · exact call_rep hg hu pins s σ H xs us Q I r h
def fRep (ds : List D) (Q : D → Prop) : Prop := ∃ d p L, ds = [d] ∧ Rep d p L ∧ p ≤ 64 ∧ L ≤ sizeLine ∧ (∀ s, d ≠ .str s) ∧ d ≠ .non ∧ Q (.str d.toP.shown)
theorem de_repr {X : Cx} {c : Dc} {a : Expr} {gs : GA} {pos p : Pos} (hg0 : X.A.guards = some []) (hu : X.A.units + 65 < cLine) (hg : Gl X "repr") (hm : X.mg "repr" = none) (ha : DA X c [a] gs) (he : starEach [a] X.env = (false, eval a X.env) :: starEach [] X.env := by rfl) (hK : X.K = c.K := by rfl) :
    DE X c (.Call (.Name "repr" p) [a] [] pos) (gN fRep gs) :=
  de_callB (call_repD hg0 hu) hg hm PyProof.Rows.bootS_repr ha ⟨fun h ⟨d, p, L, e1, e2, e3, e4, e5, e6, q⟩ => ⟨d, p, L, e1, e2, e3, e4, e5, e6, h _ q⟩⟩ (by
    rw [hK]
    intro F H vs ds P Q k r ⟨d, p, L, e1, e2, e3, e4, e5, e6, q⟩ kk
    subst e1
    obtain ⟨v, rfl, r1⟩ := r.inv1
    have end_ : ∀ (b : Addr), v = .ref b → rRepD c.K [v] H Q := fun b e => by
      subst e
      exact .inr (.inr ⟨b, _, rfl, r1.dp k.sm e2.isP, e2.sh, e2.nd, Nat.le_trans e2.dp e3, Nat.le_trans e2.ln e4, kk _ _ _ _ q k.rf (.str _)⟩)
    cases r1 with
    | non => exact (e6 rfl).elim
    | bl b => exact .inr (.inl ⟨b, rfl, kk _ _ _ _ q k.rf (.str _)⟩)
    | int i => exact .inl ⟨i, rfl, by have := e2.sh; simp [D.toP, PyData.showable] at this; exact this, kk _ _ _ _ q k.rf (.str _)⟩
    | str s => exact (e5 s rfl).elim
    | lst q1 r => exact end_ _ rfl
    | tup q1 r => exact end_ _ rfl
    | hand e => have := e2.isP; cases this
    | ty n => have := e2.isP; cases this
    | adr a => have := e2.isP; cases this) (he := he)
/-! ### texts compared -/
def f2S (g : Str → Str → Bool) (x y : D) (Q : D → Prop) : Prop := ∃ a b, x = .str a ∧ y = .str b ∧ Q (.bl (g a b))
theorem m2S {g : Str → Str → Bool} : M2 (f2S g) := ⟨fun h ⟨a, b, e1, e2, q⟩ => ⟨a, b, e1, e2, h _ q⟩⟩
abbrev sEq := f2S fun a b => decide (a = b)
abbrev sNe := f2S fun a b => !decide (a = b)
theorem dec_str {a b : Str} : decide (V.str a = V.str b) = decide (a = b) := decide_eq_decide.mpr ⟨fun h => V.str.inj h, fun h => congrArg V.str h⟩
section
variable {X : Cx} {c : Dc} {a b : Expr} {ga gb : GE} {pos : Pos}
theorem rr_sEq : RR2 c rEq sEq := fun F H v w x y P Q k r1 r2 ⟨a, b, e1, e2, p⟩ kk => by
  subst e1; subst e2
  obtain rfl := r1.inv_str
  obtain rfl := r2.inv_str
  exact ⟨rfl, by rw [dec_str]; exact kk _ _ _ _ p k.rf (.bl _)⟩
theorem rr_sNe : RR2 c rNe sNe := fun F H v w x y P Q k r1 r2 ⟨a, b, e1, e2, p⟩ kk => by
  subst e1; subst e2
  obtain rfl := r1.inv_str
  obtain rfl := r2.inv_str
  exact ⟨rfl, by rw [dec_str]; exact kk _ _ _ _ p k.rf (.bl _)⟩
theorem dt_eqS (ha : DE X c a ga) (hb : DE X c b gb) : DT X c (.Compare a [.Eq] [b] pos) (gB (g2 sEq ga gb)) := dt_cmp op_eq ha hb m2S rr_sEq (nomark _)
theorem dt_neS (ha : DE X c a ga) (hb : DE X c b gb) : DT X c (.Compare a [.NotEq] [b] pos) (gB (g2 sNe ga gb)) := dt_cmp op_ne ha hb m2S rr_sNe (nomark _)
theorem de_eqS (ha : DE X c a ga) (hb : DE X c b gb) : DE X c (.Compare a [.Eq] [b] pos) (g2 sEq ga gb) := de_cmp op_eq ha hb m2S rr_sEq (nomark _)
theorem de_neS (ha : DE X c a ga) (hb : DE X c b gb) : DE X c (.Compare a [.NotEq] [b] pos) (g2 sNe ga gb) := de_cmp op_ne ha hb m2S rr_sNe (nomark _)
end
/-! ### defs that are called where no repr is under way -/
structure FnG (P : Program) (w : World) (K : PySem.W.Frag) (mg : Str → Option Value) (base : Heap) (CX : CXT) (k : Nat) (f : Addr) (fd : FuncData) (ps : List Str) (sp : Sp) : Prop where
  len : ∀ vs H Q E, sp vs H Q E → vs.length = ps.length
  run : ∀ (A : Around) (outer : List Env) (s : Shared) (H : Hp) (args : Args) (us : List Value) (vs : List V) (Q : VK) (E : XK), A.guards = some [] → Room k A → Env0 P w K mg base A outer s H → BindsTo s fd args (ps.zip us) → Vals vs us → sp vs H Q E →
    codeAny (model P w) A (.call (.ref f) args) (CR CX outer P w H s Q E) s
structure DfG (P : Program) (w : World) (K : PySem.W.Frag) (mg : Str → Option Value) (base : Heap) (k : Nat) (x : Str) (ps : List Str) (wp : WP) : Prop where
  ex : ∃ (f : Addr) (fd : FuncData), FnG P w K mg base (L2.CX P w) k f fd ps (spD K ps.length wp) ∧ mg x = some (.ref f) ∧ PySem.W.keepIn K (.ref f) = true ∧ Binds K fd ps []
  mw : MW wp
theorem okDG {P : Program} {w : World} {K : PySem.W.Frag} {mg : Str → Option Value} {base : Heap} {x qual : Str} {st : Stmt} {f : Addr} {fd : FuncData} {N ps : List Str} {k : Nat} {wp : WP} (F : Fun K x qual st f fd) (S : FnScope N ps (defScope st))
    (body : ∀ (cdv : Value) (A : Around) (outer : List Env) (s : Shared) (H : Hp) (E : XK) (o : Option Hd) (pb : Addr → Prop) (W : WX), A.guards = some [] → Room k (A.deeper (PyProof.Rows.envOfC qual (defScope st) s.heap.objs.size f cdv)) →
      Takes (cxOf (L2.CX P w) P w K mg base N qual (defScope st) f cdv A outer s H E) W →
      ∃ g, DSs (cxOf (L2.CX P w) P w K mg base N qual (defScope st) f cdv A outer s H E) ⟨K, o, pb, W⟩ (defBody st) g ∧ ∀ ds Q Z, ds.length = ps.length → wp ds Q Z → g (enR Q Z) (startD N ds)) :
    FnG P w K mg base (L2.CX P w) (k + 1) f fd ps (spD K ps.length wp) := by
  refine ⟨fun vs H Q E h => h.1, fun A outer s H args us vs Q E hg hr e0 hb r h => ?_⟩
  have hl : vs.length = ps.length := h.1
  refine run_once F S hl hr e0 hb r fun cdv hr2 => ?_
  obtain ⟨_, o, F0, ds, ok, ra, hw⟩ := h
  have ok' : Ok o (fun b => F0 b = none ∧ ∃ u, H b = some u ∧ Dl.Mut u) F0 H := ⟨ok.sm, ok.hd, fun b q => q⟩
  obtain ⟨g, dg, hg⟩ := body cdv A outer s H E o (fun b => F0 b = none ∧ ∃ u, H b = some u ∧ Dl.Mut u) (fun cls d _ H => E cls d H) hg hr2 (takes_of rfl rfl rfl rfl)
  have stp : ∀ {F' H'}, St3 ⟨K, o, fun b => F0 b = none ∧ ∃ u, H b = some u ∧ Dl.Mut u, fun cls d _ H => E cls d H⟩ F0 H F' H' → Stp o F0 H F' H' := fun {F' H'} s3 => ⟨s3.fs, s3.ok.sm, ⟨fun b u n t e => s3.ex.kp b u n t e (by
    by_cases m : Dl.Mut u
    · by_cases z : F0 b = none
      · exact .inl ⟨z, u, e, m⟩
      · exact .inr (.inr z)
    · exact .inr (.inl m)), s3.ex.hd, s3.ex.tb⟩, fun b u e1 e2 m => (s3.ok.pr b ⟨e1, u, e2, m⟩).1⟩
  refine ⟨_, dg.ps, F0, startD N ds, ok', sl_start N ra, dg.mono.up (E := enR _ _) ⟨fun ρ q F' H' σ' s3 sl => ?_, fun d q F' H' v s3 r => ?_, fun _ q => q.elim, fun _ q => q.elim, fun C fs ρ q F' H' σ' dd vs' s3 sl e r => ?_⟩ (hg ds _ _ (by rw [← ra.length, hl]) hw)⟩
  · exact q F' H' .non (stp s3) .non
  · exact q F' H' v (stp s3) r
  · exact q F' H' dd vs' (stp s3) e r
theorem r65 {k : Nat} {A : Around} (h : Room k A) : A.units + 65 < cLine := by have := h.un; omega
end Dg
set_option Elab.async false
set_option linter.all false
set_option maxRecDepth 100000
set_option maxHeartbeats 2000000
/-! a method of an own exception, called in an except suite; its body returns a field -/
namespace Dt
open PySem PySem.Spec PyProof.Rows L2
theorem canonB : Manifest.canonical "BaseException.__getattribute__" = "object.__getattribute__" := by decide +kernel
section
variable {prog : Program} {w : World} {A : Around} {E : Value → Shared → Prop} {s : Shared} {K : PySem.W.Frag} {x C f : Addr} {ox : Obj} {od : Option Obj} {name : Str} {pl : Sem Bool} {Q : Value × List Value → Shared → Prop}
/-- the method of an own exception that its dict does not hide -/
theorem meth_exc (KI : K.In s.heap) (I : PySem.W.InstAt s.heap x ox C od) (ga : PySem.W.findIn K (.ref C) "__getattribute__" = some (some (.builtin "BaseException.__getattribute__"))) (gg : PySem.W.findIn K (.ref C) "__getattr__" = some none)
    (gf : PySem.W.findIn K (.ref C) name = some (some (.ref f))) (ty : PySem.W.typeIn K (.ref f) = some (.type "function")) (sh : PySem.W.shadowIn od name = some false) (q : Q (.ref f, [.ref x]) s) : wpAny (model prog w) A (getMethod (.ref x) name pl) Q E s := by
  have look : ∀ {n : Str} {v : Option Value} {R : Option Value → Shared → Prop}, PySem.W.findIn K (.ref C) n = some v → R v s → wpAny (model prog w) A (specialOf (.ref x) n) R E s := fun e r => wpAny_bind (I.type.here ((PySem.W.looks_findIn KI e).here r))
  unfold getMethod
  refine wpAny_bind (look ga ?_)
  dsimp only
  rw [canonB, if_neg (by decide)]
  refine wpAny_bind (look gg (wpAny_bind (look gf (wpAny_bind ((PySem.W.looks_typeIn KI ty).here ?_)))))
  rw [if_neg (by decide +kernel)]
  refine wpAny_bind (wpAny_loadPart I.at_ ?_)
  have di := I.dict
  cases e : ox.dict with
  | none => exact wpAny_bind (wpAny_rule (wpAny_pure q))
  | some dx =>
    cases od with
    | none => rw [e] at di; exact di.elim
    | some o =>
      rw [e] at di
      obtain ⟨r, a, b⟩ := Option.map_eq_some_iff.mp sh
      refine wpAny_bind (wpAny_bind (wpAny_loadPart di ?_))
      rw [PySem.W.nsLook_of a]
      refine wpAny_pure ?_
      rw [b]
      exact wpAny_bind (wpAny_rule (wpAny_pure q))
end
/-- what a class of exceptions must have for a method m (the def at f) that returns the field fld -/
structure TolC (K : PySem.W.Frag) (C f : Addr) (m fld : Str) : Prop where
  x : XfC K C
  mt : PySem.W.findIn K (.ref C) m = some (some (.ref f))
  ty : PySem.W.typeIn K (.ref f) = some (.type "function")
  nf : PySem.W.findIn K (.ref C) fld = some none
/-- self.fld, where the instance is pinned -/
theorem pe_xfP {X : Cx} {a C : Addr} {oe : Obj} {d : Option Addr} {e : Expr} {te : TE} {pos : Pos} {n : Str} (T : XfC X.K C) (hno : PySem.W.findIn X.K (.ref C) n = some none) (hz : Zc (.ref C) d oe) (hf : ∃ vs, oe.data = .fields vs) (hp : (a, oe) ∈ X.pn) (he : PE X e te)
    (hb : attributeBase e n X.env (eval e X.env) = eval e X.env := by rfl) :
    PE X (.Attribute e n pos) (fun σ H Q => te σ H fun x H1 => x = .ref a ∧ ∃ (dd : Addr) (fs : List (Str × V)) (v : V), d = some dd ∧ H1 dd = some (.xd fs) ∧ fs.lookup n = some v ∧ Q v H1) := by
  refine ⟨fun pins s σ H Q I h => attr_of hb (thn (he.run pins s σ H _ I h) fun u s1 hh => ?_)⟩
  obtain ⟨x, H1, I1, rx, rfl, dd, fs, v, rfl, ea, l, q⟩ := hh
  obtain rfl : u = Value.ref a := rx
  have hget := (I1.pin (a, oe) (List.mem_append_left _ hp)).1
  obtain ⟨vs, hd⟩ := hf
  obtain ⟨mA, hns, hr⟩ : ObjOk X.prog X.w H1 s1.heap dd (.xd fs) := I1.hok dd _ ea
  obtain ⟨od, ho, hl⟩ := lookIn_ns hns
  obtain ⟨u, hu, ru⟩ := RelO.some_of (v := v) (o := mA n) (by rw [← l]; exact hr n)
  have J : PySem.W.InstAt s1.heap a oe C (some od) := ⟨hget, hz.1, by unfold PySem.W.notCls; rw [hd] <;> rfl, by rw [hz.2]; exact ho⟩
  exact HandSPX.exc_get I1.kIn J T.ga T.gg T.exC (PySem.W.findObj_own T.hdC hno rfl (by rw [hl, hu])) (handed_of ru) ⟨v, H1, I1.tok _, ru, q⟩
/-- err.m() in an except suite -/
theorem pe_told {X : Cx} {a C f : Addr} {oe : Obj} {d : Option Addr} {pn : List (Addr × Obj)} {o : Expr} {te : TE} {m fld : Str} {apos pos rp np2 ap2 : Pos} {pl : Sem Bool} {fd : FuncData} {st : Stmt} {qual : Str} {k : Nat} (T : TolC X.K C f m fld) (hz : Zc (.ref C) d oe) (hf : ∃ vs, oe.data = .fields vs)
    (F : Fun X.K m qual st f fd) (S : FnScope ["self"] ["self"] (defScope st)) (hb : Binds X.K fd ["self"] []) (hbody : defBody st = [.Return (some (.Attribute (.Name "self" np2) fld ap2)) rp]) (hr : L2H.RoomH (k + 1) X.A) (he : PE (X.suite a ((a, oe) :: pn)) o te)
    (ht : eval (.Call (.Attribute o m apos) [] [] pos) X.env = (do
      let ov ← eval o X.env
      standAt apos.atName
      let (f, first) ← holding [ov] (getMethod ov m pl)
      callWith pos f first (backTo pos (starEach [] X.env)) (backToKw pos (keywordEach [] X.env))) := by rfl) (hsf : attributeBase (.Name "self" np2) fld = fun env whole => whole := by rfl) :
    PE (X.suite a ((a, oe) :: pn)) (.Call (.Attribute o m apos) [] [] pos) (fun σ H Q => te σ H fun x H1 => x = .ref a ∧ ∃ (dd : Addr) (fs : List (Str × V)) (v : V), d = some dd ∧ H1 dd = some (.xd fs) ∧ fs.lookup m = none ∧ fs.lookup fld = some v ∧ Q v H1) := by
  refine ⟨fun pins s σ H Q I h => ?_⟩
  refine PySem.W.methodCall_KW (pl := pl) (thn (he.run pins s σ H _ I h) fun u s1 hh => ?_) ht
  obtain ⟨x, H1, I1, rx, rfl, dd, fs, v, rfl, ea, lm, lv, q⟩ := hh
  obtain rfl : u = Value.ref a := rx
  have pinA := I1.pin (a, oe) (List.mem_append_left _ List.mem_cons_self)
  obtain ⟨vs, hd⟩ := hf
  obtain ⟨mA, hns, hrx⟩ : ObjOk X.prog X.w H1 s1.heap dd (.xd fs) := I1.hok dd _ ea
  obtain ⟨od, ho, hl⟩ := lookIn_ns hns
  have J : PySem.W.InstAt s1.heap a oe C (some od) := ⟨pinA.1, hz.1, by unfold PySem.W.notCls; rw [hd] <;> rfl, by rw [hz.2]; exact ho⟩
  have nm : mA m = none := RelO.none_of (by rw [← lm]; exact hrx m)
  refine meth_exc I1.kIn J T.x.ga T.x.gg T.mt T.ty (by show (PySem.W.lookIn m od).map (·.isSome) = some false; rw [hl, nm]; rfl) ?_
  refine PySem.W.callWith_K0 (first := [.ref a]) I1.kIn F.kp ?_
  -- the method runs
  have hpin : L2H.PinOk (X.suite a ((a, oe) :: pn)).stack H1 s1 (a, oe) := ⟨pinA.1, pinA.2.1, fun hm => (List.mem_cons.mp (I1.stkSub a hm)).elim pinA.2.2.1 pinA.2.2.2.1, pinA.2.2.2.2⟩
  have e0 := I1.env0
  have bd := hb s1 [.ref a] I1.kIn rfl
  rw [List.append_nil] at bd
  refine wpAny_call (codeAny_mono (R := CR (fun _ _ _ _ _ _ => False) (X.suite a ((a, oe) :: pn)).stack X.prog X.w H1 s1 Q (fun _ _ _ => False)) ?_ fun r s' hq => ?_)
  · obtain ⟨oc, odf, kV, doc, pm, an, cdv, ct, osl, rfl, lk, hcd⟩ := F.ex
    have up : ∀ b o, X.base.get? b = some o → s1.heap.get? b = some o := fun b o z => (e0.bs b o z).1
    refine codeAny_call_function (show (X.suite a ((a, oe) :: pn)).A.depth < recursionLimit from hr.depth) (I1.kIn _ _ lk) rfl S.co S.gen rfl (PySem.W.codeRec_of I1.kIn hcd) (bd _ _ _ _ ?_)
    refine wpAny_newFunctionEnv_cells S.kind (fun y hy => ?_) fun env hE s2 z => ?_
    · rcases S.par y.1 (List.of_mem_zip (show (y.1, y.2) ∈ (["self"] : List Str).zip [Value.ref a] from hy)).1 with q | q
      · exact Or.inl q
      · exact Or.inr ⟨q, PySem.W.cellsFrom_some _ _ _ (Or.inl q)⟩
    subst hE
    refine ⟨(e0.mod.nolimit.keeps up).keeps z.toInCall.keep, codeAny_func ?_⟩
    have I2 := L2H.inv_startH (CX := fun _ _ _ _ _ _ => False) (E := fun _ _ _ => False) (vs := [V.ref a]) S hpin e0 rfl (.cons rfl .nil) z
    have pb := pss_one (ps_ret (X := L2H.cxH (fun _ _ _ _ _ _ => False) X.prog X.w X.K X.mg X.base ["self"] qual (defScope st) f cdv (X.suite a ((a, oe) :: pn)).A (X.suite a ((a, oe) :: pn)).stack s1 H1 (fun _ _ _ => False) (a, oe)) (pos := rp) (pe_xfP (n := fld) (pos := ap2) (C := C) (d := some dd) T.x T.nf hz ⟨vs, hd⟩ List.mem_cons_self (pe_var (x := "self") (pos := np2) (i := 0) rfl (by
        rcases S.par "self" (List.mem_cons_self) with q | q
        · exact .inl q
        · exact .inr (.inl q))) (by rw [hsf])))
    rw [← hbody] at pb
    refine wpAny_mono (pb.run [] s2 (L2.start ["self"] [V.ref a]) H1 { nx := fun _ H' => Q .non H', rt := Q } I2 ⟨_, rfl, rfl, dd, fs, v, rfl, ea, lv, q⟩) (fun fl s' hs => ?_) fun _ _ z => z
    cases fl with
    | next =>
      obtain ⟨σ', H', J, q⟩ := hs
      exact ⟨.non, H', J.os, J.bare, J.base, J.hok, rfl, q⟩
    | ret u =>
      obtain ⟨v, σ', H', J, rv, q⟩ := hs
      exact ⟨v, H', J.os, J.bare, J.base, J.hok, rv, q⟩
    | brk => exact (let ⟨_, _, _, q⟩ := hs; q : False).elim
    | cont => exact (let ⟨_, _, _, q⟩ := hs; q : False).elim
  · match r, hq with
    | .error e, hq => exact False.elim hq
    | .ok (.ret u), hq => exact I1.after hq
    | .ok .next, hq => exact False.elim hq
    | .ok .brk, hq => exact False.elim hq
    | .ok .cont, hq => exact False.elim hq
end Dt
set_option Elab.async false
set_option linter.all false
set_option maxRecDepth 100000
namespace K1
open PySem L2 Kz
/-! ### the text by places -/
def top (i : Nat) : Stmt := PySem.Challenge.pw_oneverdict_k00_whole_fractions_and_what.main.body.getD i (.Pass ⟨0, 0, 0, 0⟩)
/-! ### defs by their names -/
structure Df (P : Program) (w : World) (K : PySem.W.Frag) (mg : Str → Option Value) (base : Heap) (CX : CXT) (k : Nat) (x : Str) (ps : List Str) (sp : Sp) : Prop where
  ex : ∃ (f : Addr) (fd : FuncData), FnOk P w K mg base CX k f fd ps sp ∧ mg x = some (.ref f) ∧ PySem.W.keepIn K (.ref f) = true ∧ Binds K fd ps []
theorem pe_callD {X : Cx} {CX : CXT} {E : XK} {k j : Nat} {x : Str} {ps : List Str} {sp : Sp} {e : Expr} {es : List Expr} {t : TA} {p pos : Pos} (D : Df X.prog X.w X.K X.mg X.base CX k x ps sp) (hr : Room j X.A) (hk : k ≤ j) (hg : Gl X x)
    (hx : Passes CX X E) (ha : PA X (e :: es) t) (hdb : (x == ("__debug__" : Str)) = false := by decide)
    (he : starEach (e :: es) X.env = (false, eval e X.env) :: starEach es X.env := by rfl) (hpl : (backTo pos (starEach es X.env)).any (·.1) = false := by rfl) :
    PE X (.Call (.Name x p) (e :: es) [] pos) (tCall sp [] E t) := by
  obtain ⟨f, fd, F, hm, hkp, hb⟩ := D.ex
  exact pe_call F (hr.mono hk) hg hm hkp hb .nil hx ha hdb he hpl
/-! ### heaps -/
theorem Same.upd {H : Hp} {p : Addr} {o : HO} (n : H p = none) : Same H (upd H p o) := fun b u e => by rw [upd_ne (ne_of_none e n)]; exact e
theorem Same.sqT {K : PySem.W.Frag} {H H' : Hp} {a : Addr} {xs : List V} (e : Same H H') (h : SqT K H a xs) : SqT K H' a xs := by
  rcases h with (h | ⟨o, h⟩) | h
  · exact .inl (.inl (e _ _ h))
  · exact .inl (.inr ⟨o, e _ _ h⟩)
  · exact .inr h
theorem Same.sq {K : PySem.W.Frag} {H H' : Hp} {a : Addr} {xs : List V} (e : Same H H') : ∀ {k : Bool}, Sq k K H a xs → Sq k K H' a xs
  | true, h => Same.sqT e h
  | false, h => L2.Same.seq e h
/-! ### fractions -/
def Fr (K : PySem.W.Frag) (H : Hp) (v : V) (q : Rat) : Prop := ∃ a, v = .ref a ∧ SqT K H a [.int q.num, .int (q.den : Int)]
/-- a row of fractions -/
def FrS (K : PySem.W.Frag) (H : Hp) (vs : List V) (k : Nat) (f : Nat → Rat) : Prop := vs.length = k ∧ ∀ j v, vs[j]? = some v → Fr K H v (f j)
/-- .. as a tuple (true), as a list (false) -/
def FrA (b : Bool) (K : PySem.W.Frag) (H : Hp) (v : V) (k : Nat) (f : Nat → Rat) : Prop := ∃ a vs, v = .ref a ∧ Sq b K H a vs ∧ FrS K H vs k f
section
variable {K : PySem.W.Frag} {H H' : Hp} {v : V} {q : Rat} {vs : List V} {k : Nat} {f : Nat → Rat}
theorem Fr.same (e : Same H H') (h : Fr K H v q) : Fr K H' v q := let ⟨a, h1, h2⟩ := h; ⟨a, h1, Same.sqT e h2⟩
theorem FrS.same (e : Same H H') (h : FrS K H vs k f) : FrS K H' vs k f := ⟨h.1, fun j v hj => (h.2 j v hj).same e⟩
theorem FrA.same {b : Bool} (e : Same H H') (h : FrA b K H v k f) : FrA b K H' v k f := let ⟨a, vs, h1, h2, h3⟩ := h; ⟨a, vs, h1, Same.sq e h2, h3.same e⟩
theorem FrS.at (h : FrS K H vs k f) {j : Nat} (hj : j < k) : ∃ v, vs[j]? = some v ∧ Fr K H v (f j) := by
  have hl : j < vs.length := by rw [h.1]; exact hj
  exact ⟨vs[j], List.getElem?_eq_getElem hl, h.2 j _ (List.getElem?_eq_getElem hl)⟩
theorem FrS.nil : FrS K H [] 0 f := ⟨rfl, fun j v e => by simp at e⟩
theorem FrS.snoc (h : FrS K H vs k f) (r : Fr K H v (f k)) : FrS K H (vs ++ [v]) (k + 1) f := by
  refine ⟨by rw [List.length_append, h.1]; rfl, fun j u e => ?_⟩
  by_cases hj : j < vs.length
  · rw [List.getElem?_append_left hj] at e
    exact h.2 j u e
  · rw [List.getElem?_append_right (by omega)] at e
    have hj0 : j - vs.length = 0 := by
      by_cases z : j - vs.length = 0
      · exact z
      · rw [List.getElem?_eq_none (by simp; omega)] at e
        cases e
    have ej : j = k := by have := h.1; omega
    rw [hj0] at e
    have : v = u := by simpa using e
    subst this
    rw [ej]
    exact r
theorem FrS.ext {g : Nat → Rat} (h : FrS K H vs k f) (e : ∀ j, j < k → f j = g j) : FrS K H vs k g := ⟨h.1, fun j v hj => by
  have : j < k := by have := (List.getElem?_eq_some_iff.mp hj).1; rw [h.1] at this; exact this
  rw [← e j this]
  exact h.2 j v hj⟩
theorem FrA.ext {b : Bool} {g : Nat → Rat} (h : FrA b K H v k f) (e : ∀ j, j < k → f j = g j) : FrA b K H v k g := let ⟨a, vs, h1, h2, h3⟩ := h; ⟨a, vs, h1, h2, h3.ext e⟩
end
/-! ### sizes -/
def Sm (n : Nat) (q : Rat) : Prop := q.num.natAbs < 2 ^ n ∧ q.den < 2 ^ n
theorem two_le {a b : Nat} (h : a ≤ b) : 2 ^ a ≤ 2 ^ b := Nat.pow_le_pow_right (by decide) h
theorem Sm.mono {a b : Nat} {q : Rat} (h : Sm a q) (k : a ≤ b) : Sm b q := ⟨Nat.lt_of_lt_of_le h.1 (two_le k), Nat.lt_of_lt_of_le h.2 (two_le k)⟩
theorem num_div_le (p d : Int) (h0 : d ≠ 0) : (Rat.divInt p d).num.natAbs ≤ p.natAbs ∧ (Rat.divInt p d).den ≤ d.natAbs := by
  constructor
  · rw [Rat.num_divInt]
    have h1 : (d.sign * p).natAbs = p.natAbs := by
      rw [Int.natAbs_mul, Int.natAbs_sign_of_ne_zero h0, Nat.one_mul]
    exact Nat.le_trans (Int.natAbs_ediv_le_natAbs _ _) (Nat.le_of_eq h1)
  · rw [Rat.den_divInt, if_neg h0]
    exact Nat.div_le_self _ _
theorem rat_split (q : Rat) : q = Rat.divInt q.num q.den := (Rat.num_divInt_den q).symm
theorem den_ne (q : Rat) : (q.den : Int) ≠ 0 := by have := q.den_nz; omega
theorem sm_divInt {n : Nat} {p d : Int} (h0 : d ≠ 0) (hp : p.natAbs < 2 ^ n) (hd : d.natAbs < 2 ^ n) : Sm n (Rat.divInt p d) :=
  ⟨Nat.lt_of_le_of_lt (num_div_le p d h0).1 hp, Nat.lt_of_le_of_lt (num_div_le p d h0).2 hd⟩
theorem add_eq (p q : Rat) : p + q = Rat.divInt (p.num * q.den + q.num * p.den) (p.den * q.den) := by
  conv => lhs; rw [rat_split p, rat_split q, Rat.divInt_add_divInt _ _ (den_ne p) (den_ne q)]
theorem sub_eq (p q : Rat) : p - q = Rat.divInt (p.num * q.den - q.num * p.den) (p.den * q.den) := by
  conv => lhs; rw [rat_split p, rat_split q, Rat.divInt_sub_divInt _ _ (den_ne p) (den_ne q)]
theorem mul_eq (p q : Rat) : p * q = Rat.divInt (p.num * q.num) (p.den * q.den) := by
  conv => lhs; rw [rat_split p, rat_split q, Rat.divInt_mul_divInt]
theorem div_eq (p q : Rat) (h : q ≠ 0) : p / q = Rat.divInt (p.num * q.den) (p.den * q.num) := by
  have hn : q.num ≠ 0 := fun z => h (Rat.num_eq_zero.mp z)
  have h1 : q⁻¹ = Rat.divInt q.den q.num := by
    conv => lhs; rw [rat_split q, Rat.inv_divInt]
  rw [Rat.div_def, h1]
  conv => lhs; rw [rat_split p, Rat.divInt_mul_divInt]
theorem nat_mul_lt {a b m n : Nat} (h : a < 2 ^ m) (k : b < 2 ^ n) : a * b < 2 ^ (m + n) := by rw [Nat.pow_add]; exact Nat.mul_lt_mul'' h k
theorem mulI {i j : Int} {m n : Nat} (h : i.natAbs < 2 ^ m) (k : j.natAbs < 2 ^ n) : (i * j).natAbs < 2 ^ (m + n) := by rw [Int.natAbs_mul]; exact nat_mul_lt h k
theorem addI {i j : Int} {n : Nat} (h : i.natAbs < 2 ^ n) (k : j.natAbs < 2 ^ n) : (i + j).natAbs < 2 ^ (n + 1) ∧ (i - j).natAbs < 2 ^ (n + 1) := by
  rw [Nat.pow_succ]
  constructor <;> omega
theorem den_dd (p q : Rat) : ((p.den : Int) * q.den) ≠ 0 := Int.mul_ne_zero (den_ne p) (den_ne q)
theorem Sm.mul {m n : Nat} {p q : Rat} (h : Sm m p) (k : Sm n q) : Sm (m + n) (p * q) := by
  rw [mul_eq]
  exact sm_divInt (den_dd p q) (mulI h.1 k.1) (mulI (i := p.den) (j := q.den) h.2 k.2)
theorem Sm.add {m n : Nat} {p q : Rat} (h : Sm m p) (k : Sm n q) : Sm (m + n + 1) (p + q) := by
  rw [add_eq]
  refine sm_divInt (den_dd p q) (addI (mulI h.1 (j := (q.den : Int)) k.2) (by rw [Nat.add_comm]; exact mulI k.1 (j := (p.den : Int)) h.2)).1 ?_
  exact Nat.lt_of_lt_of_le (mulI (i := p.den) (j := q.den) h.2 k.2) (two_le (Nat.le_succ _))
theorem Sm.sub {m n : Nat} {p q : Rat} (h : Sm m p) (k : Sm n q) : Sm (m + n + 1) (p - q) := by
  rw [sub_eq]
  refine sm_divInt (den_dd p q) (addI (mulI h.1 (j := (q.den : Int)) k.2) (by rw [Nat.add_comm]; exact mulI k.1 (j := (p.den : Int)) h.2)).2 ?_
  exact Nat.lt_of_lt_of_le (mulI (i := p.den) (j := q.den) h.2 k.2) (two_le (Nat.le_succ _))
theorem Sm.div {m n : Nat} {p q : Rat} (h : Sm m p) (k : Sm n q) (h0 : q ≠ 0) : Sm (m + n) (p / q) := by
  have hn : q.num ≠ 0 := fun z => h0 (Rat.num_eq_zero.mp z)
  rw [div_eq p q h0]
  exact sm_divInt (Int.mul_ne_zero (den_ne p) hn) (mulI h.1 (j := (q.den : Int)) k.2) (mulI (i := p.den) h.2 k.1)
theorem num_neg {q : Rat} : q.num < 0 ↔ q < 0 := by
  rw [Rat.lt_iff]
  simp
theorem num_pos {q : Rat} : 0 < q.num ↔ 0 < q := by
  rw [Rat.lt_iff]
  simp
theorem lt_eq (p q : Rat) : p < q ↔ p.num * q.den < q.num * p.den := Rat.lt_iff p q
theorem fr_inj {p q : Rat} (h : p.num = q.num) (k : (p.den : Int) = q.den) : p = q := Rat.ext h (by omega)
end K1
set_option Elab.async false
set_option linter.all false
set_option maxRecDepth 100000
namespace K1
open PySem L2 Kz
theorem sz2 : (2 : Nat) ≤ sizeLine := by decide
abbrev sCommon : Stmt := top 8
abbrev sFraction : Stmt := top 9
def spCommon : Sp := fun vs H Q _ => ∃ a b : Int, vs = [.int a, .int b] ∧ Q (.int (Int.gcd a b : Nat)) H
section
variable {P : Program} {w : World} {K : PySem.W.Frag} {mg : Str → Option Value} {base : Heap}
theorem scCommon : FnScope ["one", "other"] ["one", "other"] (defScope sCommon) := ⟨rfl, rfl, rfl, by decide +kernel, rfl, by decide +kernel, by decide +kernel⟩
theorem gcd_step {a b : Int} (ha : 0 ≤ a) (hb : 0 < b) : Int.gcd b (a % b) = Int.gcd a b := by
  obtain ⟨m, rfl⟩ := Int.eq_ofNat_of_zero_le ha
  obtain ⟨n, rfl⟩ := Int.eq_ofNat_of_zero_le (Int.le_of_lt hb)
  show Nat.gcd n ((m % n : Nat)) = Nat.gcd m n
  rw [Nat.gcd_comm n, ← Nat.gcd_rec, Nat.gcd_comm]
theorem ok_common {f : Addr} {fd : FuncData} (F : Fun K "common_divisor" "common_divisor" sCommon f fd) (zA : mg "abs" = none) (zI : mg "int" = none) : FnOk P w K mg base CX0 1 f fd ["one", "other"] spCommon := by
  refine F.ok scCommon (fun vs H Q E h => ?_) (fun cdv A outer s H vs Q E hr h => ?_)
  · obtain ⟨a, b, rfl, _⟩ := h
    rfl
  · obtain ⟨a, b, rfl, k⟩ := h
    refine ⟨_, pss_cons (ps_par (i := 0) (j := 1) rfl scCommon.nd rfl rfl (by decide) rfl rfl
        (pa_cons (pe_callB call_abs (by rfl) zA PyProof.Rows.boot_abs (pa_cons (pv 0) pa_nil)) (pa_cons (pe_callB call_abs (by rfl) zA PyProof.Rows.boot_abs (pa_cons (pv 1) pa_nil)) pa_nil)) rfl)
      (pss_cons (ps_while PassesOwn.never (pt_cmpR op_gt (pv 1) pe_int (nomark _))
        (pss_one (ps_par (i := 0) (j := 1) rfl scCommon.nd rfl rfl (by decide) rfl rfl
          (pa_cons (pv 1) (pa_cons (pe_op op_mod (pe_callTy call_int1 (by rfl) zI PyProof.Rows.boot_int (pa_cons (pv 0) pa_nil)) (pv 1)) pa_nil)) rfl)))
      (pss_one (ps_ret (pv 0)))), ?_⟩
    refine ⟨_, rfl, a, rfl, _, rfl, b, rfl, _, _, rfl, ?_⟩
    refine ⟨fun m σ H1 => ∃ x y : Int, 0 ≤ x ∧ 0 ≤ y ∧ m = y.toNat ∧ H1 = H ∧ σ = [some (.int x), some (.int y)] ∧ Int.gcd x y = Int.gcd a b,
      ⟨_, _, _, ?_, ?_, rfl, rfl, rfl, ?_⟩, ?_⟩
    · split <;> omega
    · split <;> omega
    · split <;> split <;> simp [Int.gcd]
    · rintro m σ H1 ⟨x, y, hx, hy, rfl, rfl, rfl, hg⟩
      refine ⟨_, rfl, _, _, rfl, rfl, _, rfl, ite2 (fun hc => ?_) fun hc => ?_⟩
      · have hy' : 0 < y := of_decide_eq_true hc
        refine ⟨fun σ' H' => ∃ m', m' < y.toNat ∧ ∃ x y : Int, 0 ≤ x ∧ 0 ≤ y ∧ m' = y.toNat ∧ H' = H1 ∧ σ' = [some (.int x), some (.int y)] ∧ Int.gcd x y = Int.gcd a b, fun _ _ q => q, ?_⟩
        refine ⟨_, rfl, _, rfl, .inl ⟨x, rfl, _, rfl, _, _, rfl, rfl, hy', _, _, rfl, _, ?_, _, _, hy, Int.emod_nonneg _ (by omega), rfl, rfl, rfl, ?_⟩⟩
        · have h1 := Int.emod_nonneg x (b := y) (by omega)
          have h2 := Int.emod_lt_of_pos x hy'
          omega
        · rw [gcd_step hx hy', hg]
      · have hy' : ¬ 0 < y := fun z => hc (decide_eq_true z)
        have ey : y = 0 := by omega
        subst ey
        refine ⟨_, rfl, ?_⟩
        have : x = ((Int.gcd a b : Nat) : Int) := by
          rw [← hg, Int.gcd_zero_right]
          omega
        rw [← this] at k
        exact k
/-- fraction(top, bottom) -/
def spFraction (K : PySem.W.Frag) : Sp := fun vs H Q _ => ∃ t b : Int, vs = [.int t, .int b] ∧ b ≠ 0 ∧ t.natAbs < 2 ^ 8000 ∧ b.natAbs < 2 ^ 8000 ∧ ∀ H' r, Same H H' → Fr K H' r (Rat.divInt t b) → Q r H'
theorem scFraction : FnScope ["top", "bottom", "divisor"] ["top", "bottom"] (defScope sFraction) := ⟨rfl, rfl, rfl, by decide +kernel, rfl, by decide +kernel, by decide +kernel⟩
theorem frac_num {t b g : Int} (h : 0 < b) (hg : g = (Int.gcd t b : Nat)) : t / g = (Rat.divInt t b).num ∧ b / g = ((Rat.divInt t b).den : Int) := by
  subst hg
  rw [Rat.num_divInt, Rat.den_divInt, if_neg (by omega), Int.sign_eq_one_of_pos h, Int.one_mul, Int.gcd_comm b t]
  refine ⟨rfl, ?_⟩
  rw [Int.natCast_ediv, Int.natAbs_of_nonneg (by omega)]
theorem ok_fraction {f : Addr} {fd : FuncData} (F : Fun K "fraction" "fraction" sFraction f fd) (D : Df P w K mg base CX0 1 "common_divisor" ["one", "other"] spCommon) : FnOk P w K mg base CX0 2 f fd ["top", "bottom"] (spFraction K) := by
  refine F.ok scFraction (fun vs H Q E h => ?_) (fun cdv A outer s H vs Q E hr h => ?_)
  · obtain ⟨a, b, rfl, _⟩ := h
    rfl
  · obtain ⟨t, b, rfl, h0, ht, hb, k⟩ := h
    refine ⟨_, pss_cons (ps_if (pt_cmpR op_eq (pv 1) pe_int (nomark _)) pss_never pss_nil)
      (pss_cons (ps_if (pt_cmpR op_lt (pv 1) pe_int (nomark _)) (pss_one (ps_par (i := 0) (j := 1) rfl scFraction.nd rfl rfl (by decide) rfl rfl (pa_cons (pe_un un_neg (pv 0)) (pa_cons (pe_un un_neg (pv 1)) pa_nil)) rfl)) pss_nil)
      (pss_cons (ps_set (i := 2) scFraction.nd rfl (.inl rfl) (pe_callD D hr (by decide) (by rfl) pass0 (pa_cons (pv 0) (pa_cons (pv 1) pa_nil))))
      (pss_one (ps_ret (pe_tup (pa_cons (pe_op op_fdivW (pv 0) (pv 2)) (pa_cons (pe_op op_fdivW (pv 1) (pv 2)) pa_nil))))))), ?_⟩
    refine ⟨_, rfl, rfl, _, rfl, ?_⟩
    rw [show decide (V.int b = V.int 0) = false from decide_eq_false fun z => h0 (V.int.inj z)]
    refine iteF ?_
    have key : ∀ (t b : Int) (H' : Hp) (p : Addr), 0 < b → H p = none → H' = upd H p (.tup [.int (t / (Int.gcd t b : Nat)), .int (b / (Int.gcd t b : Nat))]) → Fr K H' (.ref p) (Rat.divInt t b) := fun t b H' p hb np e => by
      obtain ⟨e1, e2⟩ := frac_num hb (g := (Int.gcd t b : Nat)) rfl
      exact ⟨p, rfl, SqT.of (by rw [e, upd_same, e1, e2])⟩
    have dv : ∀ t b : Int, 0 < b → b.natAbs < 2 ^ 8000 → ∀ i, CDivW i (Int.gcd t b : Nat) := fun t b h1 h2 i => by
      have h3 := Int.gcd_pos_of_ne_zero_right t (b := b) (by omega)
      have h4 : Int.gcd t b ≤ b.natAbs := Nat.le_of_dvd (by omega) (Int.gcd_dvd_natAbs_right t b)
      exact wide_div (b := 8000) (by omega) (Nat.lt_of_le_of_lt h4 h2) (by decide) (by decide)
    refine ⟨_, rfl, _, _, rfl, rfl, _, rfl, ite2 (fun hc => ?_) fun hc => ?_⟩
    · have hneg : b < 0 := of_decide_eq_true hc
      refine ⟨_, rfl, t, rfl, _, rfl, b, rfl, _, _, rfl, ?_⟩
      refine ⟨_, rfl, _, rfl, -t, -b, rfl, ?_⟩
      refine ⟨_, rfl, _, rfl, _, _, rfl, rfl, dv (-t) (-b) (by omega) (by rw [Int.natAbs_neg]; exact hb) _, _, rfl, _, rfl, _, _, rfl, rfl, dv (-t) (-b) (by omega) (by rw [Int.natAbs_neg]; exact hb) _, sz2, fun p np => ?_⟩
      refine k _ _ (Same.upd np) ?_
      have := key (-t) (-b) _ p (by omega) np rfl
      rw [show Rat.divInt t b = Rat.divInt (-t) (-b) by rw [Rat.neg_divInt_neg]]
      exact this
    · have hpos : 0 < b := by
        have : ¬ b < 0 := fun z => hc (decide_eq_true z)
        omega
      refine ⟨_, rfl, _, rfl, t, b, rfl, ?_⟩
      refine ⟨_, rfl, _, rfl, _, _, rfl, rfl, dv t b hpos hb _, _, rfl, _, rfl, _, _, rfl, rfl, dv t b hpos hb _, sz2, fun p np => ?_⟩
      exact k _ _ (Same.upd np) (key t b _ p hpos np rfl)
end
end K1
set_option Elab.async false
set_option linter.all false
set_option maxRecDepth 100000
namespace K1
open PySem L2 Kz
abbrev sPlus : Stmt := top 11
abbrev sMinus : Stmt := top 12
abbrev sTimes : Stmt := top 13
abbrev sOver : Stmt := top 14
abbrev sLess : Stmt := top 15
abbrev sTotal : Stmt := top 16
abbrev sScalar : Stmt := top 17
/-- two fractions to one -/
def spBin (K : PySem.W.Frag) (ok : Rat → Rat → Prop) (g : Rat → Rat → Rat) : Sp := fun vs H Q _ => ∃ u v p q, vs = [u, v] ∧ Fr K H u p ∧ Fr K H v q ∧ Sm 3000 p ∧ Sm 3000 q ∧ ok p q ∧ ∀ H' r, Same H H' → Fr K H' r (g p q) → Q r H'
def spLess (K : PySem.W.Frag) : Sp := fun vs H Q _ => ∃ u v p q, vs = [u, v] ∧ Fr K H u p ∧ Fr K H v q ∧ Sm 3000 p ∧ Sm 3000 q ∧ Q (.bl (decide (p < q))) H
theorem at0 {x y : V} : atI [x, y] (0 : Int) = some x := rfl
theorem at1 {x y : V} : atI [x, y] (1 : Int) = some y := rfl
section
variable {P : Program} {w : World} {K : PySem.W.Frag} {mg : Str → Option Value} {base : Heap}
theorem scPlus : FnScope ["one", "other"] ["one", "other"] (defScope sPlus) := ⟨rfl, rfl, rfl, by decide +kernel, rfl, by decide +kernel, by decide +kernel⟩
theorem scMinus : FnScope ["one", "other"] ["one", "other"] (defScope sMinus) := ⟨rfl, rfl, rfl, by decide +kernel, rfl, by decide +kernel, by decide +kernel⟩
theorem scTimes : FnScope ["one", "other"] ["one", "other"] (defScope sTimes) := ⟨rfl, rfl, rfl, by decide +kernel, rfl, by decide +kernel, by decide +kernel⟩
theorem scOver : FnScope ["one", "other"] ["one", "other"] (defScope sOver) := ⟨rfl, rfl, rfl, by decide +kernel, rfl, by decide +kernel, by decide +kernel⟩
theorem scLess : FnScope ["one", "other"] ["one", "other"] (defScope sLess) := ⟨rfl, rfl, rfl, by decide +kernel, rfl, by decide +kernel, by decide +kernel⟩
theorem mw {i j : Int} (h : i.natAbs < 2 ^ 3000) (k : j.natAbs < 2 ^ 3000) : CMulW i j := wide_mul h k (by decide) (by decide) (by decide)
/-- one[i] -/
theorem pe_at0 {X : Cx} {i : Nat} {e : Expr} {t : TE} {p1 p2 pos : Pos} (he : PE X e t) {j : Nat} : PE X (.Subscript e (.Constant (.int 0) j p2) pos) (tOp (rIxT X.K) t (fun _ H Q => Q (.int 0) H)) := pe_ix ix_tup he pe_int (fun _ _ => rfl)
theorem Sm.d {n : Nat} {q : Rat} (h : Sm n q) : (q.den : Int).natAbs < 2 ^ n := h.2
theorem ok_plus {f : Addr} {fd : FuncData} (F : Fun K "plus" "plus" sPlus f fd) (D : Df P w K mg base CX0 2 "fraction" ["top", "bottom"] (spFraction K)) : FnOk P w K mg base CX0 3 f fd ["one", "other"] (spBin K (fun _ _ => True) fun p q => p + q) := by
  refine F.ok scPlus (fun vs H Q E h => ?_) (fun cdv A outer s H vs Q E hr h => ?_)
  · obtain ⟨u, v, p, q, rfl, _⟩ := h
    rfl
  · obtain ⟨u, v, p, q, rfl, ⟨a, rfl, ha⟩, ⟨b, rfl, hb⟩, sp, sq, _, k⟩ := h
    refine ⟨_, pss_one (ps_ret (pe_callD D hr (by decide) (by rfl) pass0
      (pa_cons (pe_op op_add (pe_op op_mulW (pe_ix ix_tup (pv 0) pe_int (fun _ _ => rfl)) (pe_ix ix_tup (pv 1) pe_int (fun _ _ => rfl))) (pe_op op_mulW (pe_ix ix_tup (pv 1) pe_int (fun _ _ => rfl)) (pe_ix ix_tup (pv 0) pe_int (fun _ _ => rfl))))
      (pa_cons (pe_op op_mulW (pe_ix ix_tup (pv 0) pe_int (fun _ _ => rfl)) (pe_ix ix_tup (pv 1) pe_int (fun _ _ => rfl))) pa_nil)))), ?_⟩
    refine ⟨_, rfl, a, _, _, _, rfl, rfl, ha, at0, _, rfl, b, _, _, _, rfl, rfl, hb, at1, _, _, rfl, rfl, mw sp.1 sq.d,
      _, rfl, b, _, _, _, rfl, rfl, hb, at0, _, rfl, a, _, _, _, rfl, rfl, ha, at1, _, _, rfl, rfl, mw sq.1 sp.d, _, _, rfl, rfl,
      _, rfl, a, _, _, _, rfl, rfl, ha, at1, _, rfl, b, _, _, _, rfl, rfl, hb, at1, _, _, rfl, rfl, mw sp.d sq.d, _, _, rfl, den_dd p q, ?_, ?_, ?_⟩
    · exact Nat.lt_of_lt_of_le (addI (mulI sp.1 sq.d) (mulI sq.1 sp.d)).1 (two_le (show 3000 + 3000 + 1 ≤ 8000 by decide))
    · exact Nat.lt_of_lt_of_le (mulI sp.d sq.d) (two_le (show 3000 + 3000 ≤ 8000 by decide))
    · intro H' r s1 fr
      exact k H' r s1 (by show Fr K H' r (p + q); rw [add_eq]; exact fr)
theorem ok_minus {f : Addr} {fd : FuncData} (F : Fun K "minus" "minus" sMinus f fd) (D : Df P w K mg base CX0 2 "fraction" ["top", "bottom"] (spFraction K)) : FnOk P w K mg base CX0 3 f fd ["one", "other"] (spBin K (fun _ _ => True) fun p q => p - q) := by
  refine F.ok scMinus (fun vs H Q E h => ?_) (fun cdv A outer s H vs Q E hr h => ?_)
  · obtain ⟨u, v, p, q, rfl, _⟩ := h
    rfl
  · obtain ⟨u, v, p, q, rfl, ⟨a, rfl, ha⟩, ⟨b, rfl, hb⟩, sp, sq, _, k⟩ := h
    refine ⟨_, pss_one (ps_ret (pe_callD D hr (by decide) (by rfl) pass0
      (pa_cons (pe_op op_sub (pe_op op_mulW (pe_ix ix_tup (pv 0) pe_int (fun _ _ => rfl)) (pe_ix ix_tup (pv 1) pe_int (fun _ _ => rfl))) (pe_op op_mulW (pe_ix ix_tup (pv 1) pe_int (fun _ _ => rfl)) (pe_ix ix_tup (pv 0) pe_int (fun _ _ => rfl))))
      (pa_cons (pe_op op_mulW (pe_ix ix_tup (pv 0) pe_int (fun _ _ => rfl)) (pe_ix ix_tup (pv 1) pe_int (fun _ _ => rfl))) pa_nil)))), ?_⟩
    refine ⟨_, rfl, a, _, _, _, rfl, rfl, ha, at0, _, rfl, b, _, _, _, rfl, rfl, hb, at1, _, _, rfl, rfl, mw sp.1 sq.d,
      _, rfl, b, _, _, _, rfl, rfl, hb, at0, _, rfl, a, _, _, _, rfl, rfl, ha, at1, _, _, rfl, rfl, mw sq.1 sp.d, _, _, rfl, rfl,
      _, rfl, a, _, _, _, rfl, rfl, ha, at1, _, rfl, b, _, _, _, rfl, rfl, hb, at1, _, _, rfl, rfl, mw sp.d sq.d, _, _, rfl, den_dd p q, ?_, ?_, ?_⟩
    · exact Nat.lt_of_lt_of_le (addI (mulI sp.1 sq.d) (mulI sq.1 sp.d)).2 (two_le (show 3000 + 3000 + 1 ≤ 8000 by decide))
    · exact Nat.lt_of_lt_of_le (mulI sp.d sq.d) (two_le (show 3000 + 3000 ≤ 8000 by decide))
    · intro H' r s1 fr
      exact k H' r s1 (by show Fr K H' r (p - q); rw [sub_eq]; exact fr)
theorem ok_times {f : Addr} {fd : FuncData} (F : Fun K "times" "times" sTimes f fd) (D : Df P w K mg base CX0 2 "fraction" ["top", "bottom"] (spFraction K)) : FnOk P w K mg base CX0 3 f fd ["one", "other"] (spBin K (fun _ _ => True) fun p q => p * q) := by
  refine F.ok scTimes (fun vs H Q E h => ?_) (fun cdv A outer s H vs Q E hr h => ?_)
  · obtain ⟨u, v, p, q, rfl, _⟩ := h
    rfl
  · obtain ⟨u, v, p, q, rfl, ⟨a, rfl, ha⟩, ⟨b, rfl, hb⟩, sp, sq, _, k⟩ := h
    refine ⟨_, pss_one (ps_ret (pe_callD D hr (by decide) (by rfl) pass0
      (pa_cons (pe_op op_mulW (pe_ix ix_tup (pv 0) pe_int (fun _ _ => rfl)) (pe_ix ix_tup (pv 1) pe_int (fun _ _ => rfl)))
      (pa_cons (pe_op op_mulW (pe_ix ix_tup (pv 0) pe_int (fun _ _ => rfl)) (pe_ix ix_tup (pv 1) pe_int (fun _ _ => rfl))) pa_nil)))), ?_⟩
    refine ⟨_, rfl, a, _, _, _, rfl, rfl, ha, at0, _, rfl, b, _, _, _, rfl, rfl, hb, at0, _, _, rfl, rfl, mw sp.1 sq.1,
      _, rfl, a, _, _, _, rfl, rfl, ha, at1, _, rfl, b, _, _, _, rfl, rfl, hb, at1, _, _, rfl, rfl, mw sp.d sq.d, _, _, rfl, den_dd p q, ?_, ?_, ?_⟩
    · exact Nat.lt_of_lt_of_le (mulI sp.1 sq.1) (two_le (show 3000 + 3000 ≤ 8000 by decide))
    · exact Nat.lt_of_lt_of_le (mulI sp.d sq.d) (two_le (show 3000 + 3000 ≤ 8000 by decide))
    · intro H' r s1 fr
      exact k H' r s1 (by show Fr K H' r (p * q); rw [mul_eq]; exact fr)
theorem ok_over {f : Addr} {fd : FuncData} (F : Fun K "over" "over" sOver f fd) (D : Df P w K mg base CX0 2 "fraction" ["top", "bottom"] (spFraction K)) : FnOk P w K mg base CX0 3 f fd ["one", "other"] (spBin K (fun _ q => q ≠ 0) fun p q => p / q) := by
  refine F.ok scOver (fun vs H Q E h => ?_) (fun cdv A outer s H vs Q E hr h => ?_)
  · obtain ⟨u, v, p, q, rfl, _⟩ := h
    rfl
  · obtain ⟨u, v, p, q, rfl, ⟨a, rfl, ha⟩, ⟨b, rfl, hb⟩, sp, sq, h0, k⟩ := h
    have hn : q.num ≠ 0 := fun z => h0 (Rat.num_eq_zero.mp z)
    refine ⟨_, pss_one (ps_ret (pe_callD D hr (by decide) (by rfl) pass0
      (pa_cons (pe_op op_mulW (pe_ix ix_tup (pv 0) pe_int (fun _ _ => rfl)) (pe_ix ix_tup (pv 1) pe_int (fun _ _ => rfl)))
      (pa_cons (pe_op op_mulW (pe_ix ix_tup (pv 0) pe_int (fun _ _ => rfl)) (pe_ix ix_tup (pv 1) pe_int (fun _ _ => rfl))) pa_nil)))), ?_⟩
    refine ⟨_, rfl, a, _, _, _, rfl, rfl, ha, at0, _, rfl, b, _, _, _, rfl, rfl, hb, at1, _, _, rfl, rfl, mw sp.1 sq.d,
      _, rfl, a, _, _, _, rfl, rfl, ha, at1, _, rfl, b, _, _, _, rfl, rfl, hb, at0, _, _, rfl, rfl, mw sp.d sq.1, _, _, rfl, Int.mul_ne_zero (den_ne p) hn, ?_, ?_, ?_⟩
    · exact Nat.lt_of_lt_of_le (mulI sp.1 sq.d) (two_le (show 3000 + 3000 ≤ 8000 by decide))
    · exact Nat.lt_of_lt_of_le (mulI sp.d sq.1) (two_le (show 3000 + 3000 ≤ 8000 by decide))
    · intro H' r s1 fr
      exact k H' r s1 (by show Fr K H' r (p / q); rw [div_eq p q h0]; exact fr)
theorem ok_less {f : Addr} {fd : FuncData} (F : Fun K "less" "less" sLess f fd) : FnOk P w K mg base CX0 1 f fd ["one", "other"] (spLess K) := by
  refine F.ok scLess (fun vs H Q E h => ?_) (fun cdv A outer s H vs Q E hr h => ?_)
  · obtain ⟨u, v, p, q, rfl, _⟩ := h
    rfl
  · obtain ⟨u, v, p, q, rfl, ⟨a, rfl, ha⟩, ⟨b, rfl, hb⟩, sp, sq, k⟩ := h
    refine ⟨_, pss_one (ps_ret (pe_cmpR op_lt (pe_op op_mulW (pe_ix ix_tup (pv 0) pe_int (fun _ _ => rfl)) (pe_ix ix_tup (pv 1) pe_int (fun _ _ => rfl))) (pe_op op_mulW (pe_ix ix_tup (pv 1) pe_int (fun _ _ => rfl)) (pe_ix ix_tup (pv 0) pe_int (fun _ _ => rfl))) (nomark _))), ?_⟩
    refine ⟨_, rfl, a, _, _, _, rfl, rfl, ha, at0, _, rfl, b, _, _, _, rfl, rfl, hb, at1, _, _, rfl, rfl, mw sp.1 sq.d,
      _, rfl, b, _, _, _, rfl, rfl, hb, at0, _, rfl, a, _, _, _, rfl, rfl, ha, at1, _, _, rfl, rfl, mw sq.1 sp.d, _, _, rfl, rfl, ?_⟩
    show Q (.bl (decide (p.num * q.den < q.num * p.den))) H
    rw [show decide (p.num * q.den < q.num * p.den) = decide (p < q) from decide_eq_decide.mpr (lt_eq p q).symm]
    exact k
end
end K1
set_option Elab.async false
set_option linter.all false
set_option maxRecDepth 100000
namespace K1
open PySem L2 Kz Sx
theorem same_upd {H0 H : Hp} {D : Addr} {o : HO} (n : H0 D = none) (e : Same H0 H) : Same H0 (upd H D o) := fun b u z => by rw [upd_ne (ne_of_none z n)]; exact e b u z
/-- all but D is kept, D is a list -/
def KpD (D : Addr) (H H' : Hp) : Prop := (∃ xs, H D = some (.lst xs)) ∧ ∀ b o, b ≠ D → H b = some o → H' b = some o
theorem KpD.sqT {K : PySem.W.Frag} {H H' : Hp} {D a : Addr} {xs : List V} (e : KpD D H H') (h : SqT K H a xs) : SqT K H' a xs := by
  obtain ⟨⟨ys, hD⟩, k⟩ := e
  have ne : ∀ {o}, H a = some o → (∀ zs, o ≠ .lst zs) → a ≠ D := fun {o} h1 h2 z => by
    subst z
    rw [h1] at hD
    exact h2 _ (Option.some.inj hD)
  rcases h with (h | ⟨o, h⟩) | h
  · exact .inl (.inl (k _ _ (ne h fun zs z => nomatch z) h))
  · exact .inl (.inr ⟨o, k _ _ (ne h fun zs z => nomatch z) h⟩)
  · exact .inr h
theorem KpD.fr {K : PySem.W.Frag} {H H' : Hp} {D : Addr} {v : V} {q : Rat} (e : KpD D H H') (h : Fr K H v q) : Fr K H' v q := let ⟨a, h1, h2⟩ := h; ⟨a, h1, e.sqT h2⟩
theorem KpD.frS {K : PySem.W.Frag} {H H' : Hp} {D : Addr} {vs : List V} {k : Nat} {f : Nat → Rat} (e : KpD D H H') (h : FrS K H vs k f) : FrS K H' vs k f := ⟨h.1, fun j v hj => e.fr (h.2 j v hj)⟩
/-- a comprehension without a test: item i bears R i -/
theorem lcR {J : It} {n : Nat} {G : Hp → Prop} {Y : Nat → Hp → V → Hp → Prop} (w : Walk J n G Y) {g : TG} {te : TE} {vs : List Nat} {σ : St} {H1 : Hp} {D : Addr} {Qd : Hp → Prop} (R : Nat → V → Hp → Prop)
    (hR : ∀ i y H H', KpD D H H' → R i y H → R i y H') (nD : H1 D = none) (hn : n ≤ 1000) (hG : ∀ H, Same H1 H → G H)
    (hs : ∀ i x H H' (Q : VK), i < n → Same H1 H → (∃ xs, H D = some (.lst xs)) → Y i H x H' → (∀ y H4, Same H H4 → R i y H4 → Q y H4) → g x (wipe σ vs) H' fun σ2 H2 => wipe σ2 vs = wipe σ vs ∧ te σ2 H2 Q)
    (hd : ∀ H acc, Same H1 H → H D = some (.lst acc) → acc.length = n → (∀ j y, acc[j]? = some y → R j y H) → Qd H) :
    ∃ W : Nat → Nat → Hp → Prop, (∃ m, W 0 m (upd H1 D (.lst []))) ∧ ∀ i m H, W i m H →
      (J.stop i H ∧ Qd H) ∨ (J.go i H ∧ ∃ Nx : Hp → Prop, (∀ H', Nx H' → ∃ m', m' < m ∧ W (i + 1) m' H') ∧ ∀ x H', J.yld i H x H' → g x (wipe σ vs) H' fun σ2 H2 => wipe σ2 vs = wipe σ vs ∧ tYes σ2 H2 fun b H3 =>
        if b = true then te σ2 H3 fun y H4 => ∃ acc, H4 D = some (.lst acc) ∧ acc.length < sizeLine ∧ Nx (upd H4 D (.lst (acc ++ [y]))) else Nx H3) := by
  refine lc_it w (tt := tYes) (fun i H => Same H1 H ∧ ∃ acc, H D = some (.lst acc) ∧ acc.length = i ∧ ∀ j y, acc[j]? = some y → R j y H) ⟨same_upd nD (Same.refl _), [], upd_same, rfl, fun j y z => by simp at z⟩ (fun i H _ q => hG H q.1) ?_ ?_
  · rintro i x H H' hi ⟨s1, acc, hD, hl, hr⟩ hy
    refine hs i x H H' _ hi s1 ⟨acc, hD⟩ hy fun y H4 s4 r4 => ?_
    have hD4 := s4 _ _ hD
    refine ⟨acc, hD4, small1000 (by omega), same_upd nD (s1.trans s4), _, upd_same, by rw [List.length_append, hl]; rfl, fun j u e => ?_⟩
    have kp : KpD D H4 (upd H4 D (.lst (acc ++ [y]))) := ⟨⟨_, hD4⟩, fun b o ne e => by rw [upd_ne ne]; exact e⟩
    have kp0 : KpD D H H4 := ⟨⟨_, hD⟩, fun b o _ e => s4 b o e⟩
    by_cases hj : j < acc.length
    · rw [List.getElem?_append_left hj] at e
      exact hR _ _ _ _ kp (hR _ _ _ _ kp0 (hr j u e))
    · rw [List.getElem?_append_right (by omega)] at e
      have z : j - acc.length = 0 := by
        by_cases z : j - acc.length = 0
        · exact z
        · rw [List.getElem?_eq_none (by simp; omega)] at e
          cases e
      rw [z] at e
      have ey : y = u := by simpa using e
      subst ey
      have ej : j = i := by omega
      subst ej
      exact hR _ _ _ _ kp r4
  · rintro H ⟨s1, acc, hD, hl, hr⟩
    exact hd H acc s1 hD hl hr
/-- .. of fractions -/
theorem lcF {K : PySem.W.Frag} {J : It} {n : Nat} {G : Hp → Prop} {Y : Nat → Hp → V → Hp → Prop} (w : Walk J n G Y) {g : TG} {te : TE} {vs : List Nat} {σ : St} {H1 : Hp} {D : Addr} {Qd : Hp → Prop} (f : Nat → Rat)
    (nD : H1 D = none) (hn : n ≤ 1000) (hG : ∀ H, Same H1 H → G H)
    (hs : ∀ i x H H' (Q : VK), i < n → Same H1 H → Y i H x H' → (∀ y H4, Same H H4 → Fr K H4 y (f i) → Q y H4) → g x (wipe σ vs) H' fun σ2 H2 => wipe σ2 vs = wipe σ vs ∧ te σ2 H2 Q)
    (hd : ∀ H acc, Same H1 H → H D = some (.lst acc) → FrS K H acc n f → Qd H) :
    ∃ W : Nat → Nat → Hp → Prop, (∃ m, W 0 m (upd H1 D (.lst []))) ∧ ∀ i m H, W i m H →
      (J.stop i H ∧ Qd H) ∨ (J.go i H ∧ ∃ Nx : Hp → Prop, (∀ H', Nx H' → ∃ m', m' < m ∧ W (i + 1) m' H') ∧ ∀ x H', J.yld i H x H' → g x (wipe σ vs) H' fun σ2 H2 => wipe σ2 vs = wipe σ vs ∧ tYes σ2 H2 fun b H3 =>
        if b = true then te σ2 H3 fun y H4 => ∃ acc, H4 D = some (.lst acc) ∧ acc.length < sizeLine ∧ Nx (upd H4 D (.lst (acc ++ [y]))) else Nx H3) :=
  lcR w (fun i y H => Fr K H y (f i)) (fun i y H H' kp r => kp.fr r) nD hn hG (fun i x H H' Q hi s1 _ hy k => hs i x H H' Q hi s1 hy k) fun H acc s1 hD hl hr => hd H acc s1 hD ⟨hl, hr⟩
/-! ### total, scalar -/
theorem sm_Sm {s : Nat} {f : Nat → Rat} : ∀ {k : Nat}, (∀ j, j < k → Sm s (f j)) → Sm (1 + k * (s + 1)) (sm k f)
  | 0, _ => by
    show Sm (1 + 0 * (s + 1)) 0
    rw [Nat.zero_mul]
    exact ⟨by decide, by decide⟩
  | k + 1, h => by
    have h1 := sm_Sm (k := k) fun j hj => h j (by omega)
    have h2 := h1.add (h k (by omega))
    refine h2.mono ?_
    rw [Nat.succ_mul]
    omega
theorem psum {k s i : Nat} (hk : k ≤ 5) (hs : s ≤ 500) (hi : i ≤ k) : 1 + i * (s + 1) ≤ 3000 := by
  have : i * (s + 1) ≤ 5 * 501 := Nat.mul_le_mul (by omega) (by omega)
  omega
def spTotal (K : PySem.W.Frag) : Sp := fun vs H Q _ => ∃ v k f, vs = [v] ∧ FrA false K H v k f ∧ k ≤ 5 ∧ (∀ j, j < k → Sm 500 (f j)) ∧ ∀ H' r, Same H H' → Fr K H' r (sm k f) → Q r H'
/-- scalar(one, other): tuples, lists -/
def spScalar (K : PySem.W.Frag) : Sp := fun vs H Q _ => ∃ u v k f g b c, vs = [u, v] ∧ FrA b K H u k f ∧ FrA c K H v k g ∧ k ≤ 5 ∧ (∀ j, j < k → Sm 100 (f j)) ∧ (∀ j, j < k → Sm 400 (g j)) ∧ ∀ H' r, Same H H' → Fr K H' r (sm k fun j => f j * g j) → Q r H'
section
variable {P : Program} {w : World} {K : PySem.W.Frag} {mg : Str → Option Value} {base : Heap}
theorem scTotal : FnScope ["some", "found", "one"] ["some"] (defScope sTotal) := ⟨rfl, rfl, rfl, by decide +kernel, rfl, by decide +kernel, by decide +kernel⟩
theorem ok_total {f : Addr} {fd : FuncData} (F : Fun K "total" "total" sTotal f fd) (D : Df P w K mg base CX0 3 "plus" ["one", "other"] (spBin K (fun _ _ => True) fun p q => p + q)) {z : Addr} (mz : mg "ZERO" = some (.ref z)) (fz : ∀ H, Fr K H (.ref z) 0) :
    FnOk P w K mg base CX0 4 f fd ["some"] (spTotal K) := by
  refine F.ok scTotal (fun vs H Q E h => ?_) (fun cdv A outer s H vs Q E hr h => ?_)
  · obtain ⟨v, k, f, rfl, _⟩ := h
    rfl
  · obtain ⟨v, n, f, rfl, ⟨a, vs, rfl, hS, hF⟩, hk, hs, k⟩ := h
    refine ⟨_, pss_cons (ps_set (i := 1) scTotal.nd rfl (.inl rfl) (pe_glob (v := V.ref z) (by rfl) mz rfl))
      (pss_cons (ps_for PassesOwn.never rfl (pi_list (pv 0)) (pg_name (i := 2) scTotal.nd rfl (.inl rfl))
        (pss_one (ps_set (i := 1) scTotal.nd rfl (.inl rfl) (pe_callD D hr (by decide) (by rfl) pass0 (pa_cons (pv 1) (pa_cons (pv 2) pa_nil))))))
      (pss_one (ps_ret (pv 1)))), ?_⟩
    refine ⟨_, rfl, a, rfl, ⟨_, hS⟩, for_it (walk_list (K := K) (a := a) (xs := vs)) (fun i σ H1 => Same H H1 ∧ ∃ r o, σ = [some (.ref a), some r, o] ∧ Fr K H1 r (sm i f)) ⟨Same.refl _, _, _, rfl, fz H⟩ (fun i σ H1 _ q => q.1.seq hS) ?_ ?_⟩
    · rintro i x σ H1 H2 hi ⟨s1, r, o, rfl, hr1⟩ ⟨rfl, hx⟩
      have hf := hF.2 i x hx
      have hin : i < n := by rw [← hF.1]; exact hi
      refine ⟨_, rfl, _, rfl, r, x, _, _, rfl, hr1, hf.same s1, (sm_Sm fun j hj => hs j (by omega)).mono (psum hk (Nat.le_refl _) (by omega)), (hs i hin).mono (by decide), True.intro, fun H' r' s2 hr2 => ?_⟩
      exact ⟨s1.trans s2, r', _, rfl, hr2⟩
    · rintro σ H1 ⟨s1, r, o, rfl, hr1⟩
      refine ⟨_, rfl, ?_⟩
      rw [hF.1] at hr1
      exact k H1 r s1 hr1
theorem scScalar : FnScope ["one", "other", "mine", "its"] ["one", "other"] (defScope sScalar) := ⟨rfl, rfl, rfl, by decide +kernel, rfl, by decide +kernel, by decide +kernel⟩
theorem ok_scalar {f : Addr} {fd : FuncData} (F : Fun K "scalar" "scalar" sScalar f fd) (D : Df P w K mg base CX0 3 "times" ["one", "other"] (spBin K (fun _ _ => True) fun p q => p * q)) (DT : Df P w K mg base CX0 4 "total" ["some"] (spTotal K)) (zZ : mg "zip" = none) :
    FnOk P w K mg base CX0 5 f fd ["one", "other"] (spScalar K) := by
  refine F.ok scScalar (fun vs H Q E h => ?_) (fun cdv A outer s H vs Q E hr h => ?_)
  · obtain ⟨u, v, k, f, g, b, c, rfl, _⟩ := h
    rfl
  · obtain ⟨u, v, n, f, g, b, c, rfl, ⟨a1, us, rfl, hS1, hF1⟩, ⟨a2, ws, rfl, hS2, hF2⟩, hk, hs1, hs2, k⟩ := h
    refine ⟨_, pss_one (ps_ret (pe_callD DT hr (by decide) (by rfl) pass0 (pa_cons
      (pe_lc (own := [("mine", 2), ("its", 3)]) (g := gTup K 2 (gCons (gName 2) (gCons (gName 3) gNil))) (tt := tYes) rfl scScalar.nd (pi_zipM (by rfl) zZ (pa_cons (pv 0) (pa_cons (pv 1) pa_nil)))
        (blkOk_by (N := ["one", "other", "mine", "its"]) (sc := defScope sScalar) (by decide +kernel))
        (fun _ _ _ _ _ => pg_tup rfl (pgs_cons (pg_name (i := 2) scScalar.nd rfl (.inl rfl)) (pgs_cons (pg_name (i := 3) scScalar.nd rfl (.inl rfl)) pgs_nil)))
        (fun _ _ _ _ _ => pts_nil) (fun _ _ _ _ _ => pe_callD D hr (by decide) (by rfl) pass0 (pa_cons (pv 2) (pa_cons (pv 3) pa_nil)))) pa_nil))), ?_⟩
    refine ⟨_, rfl, _, rfl, b, c, a1, a2, us, ws, rfl, hS1, hS2, fun D hD => lcF (K := K) (walkM hF1.1 hF2.1) (fun j => f j * g j) hD (by omega) (fun H1 s1 => ⟨Same.sq s1 hS1, Same.sq s1 hS2⟩) ?_ ?_⟩
    · rintro i x H1 H2 Q' hi s1 ⟨T, y1, y2, rfl, nT, rfl, e1, e2⟩ kk
      have sT := Same.upd (o := .tup [y1, y2]) nT
      refine ⟨T, _, rfl, SqT.of upd_same, rfl, _, _, rfl, _, _, rfl, rfl, rfl, ?_⟩
      refine ⟨_, rfl, _, rfl, _, _, _, _, rfl, ((hF1.2 i _ e1).same s1).same sT, ((hF2.2 i _ e2).same s1).same sT, (hs1 i hi).mono (by decide), (hs2 i hi).mono (by decide), True.intro, fun H3 r s3 fr => kk _ _ (sT.trans s3) fr⟩
    · rintro H1 acc s1 hD1 hf
      exact ⟨_, n, _, rfl, ⟨D, acc, rfl, SqL.of hD1, hf⟩, hk, fun j hj => ((hs1 j hj).mul (hs2 j hj)), fun H' r s2 fr => k _ _ (s1.trans s2) fr⟩
end
end K1
set_option Elab.async false
set_option linter.all false
set_option maxRecDepth 100000
namespace K1
open PySem L2 Kz Sx
/-- o.f as a target among several -/
def gAttr (K : PySem.W.Frag) (to : TE) (f : Str) : TG := fun v σ H Q => to σ H fun x H1 => ∃ a C dx fs, x = .ref a ∧ H1 a = some (.ins C dx fs) ∧ Cls K C ∧ NoAttr K C f ∧ fs.length < 1000 ∧ Q σ (upd H1 a (.ins C dx (putF f v fs)))
theorem pg_attr {X : Cx} {o : Expr} {f : Str} {to : TE} {pos : Pos} (ho : PE X o to) : PG X (.Attribute o f pos) (gAttr X.K to f) := by
  refine ⟨fun pins s σ H v u Q I r h => ?_⟩
  rw [assign_Attribute]
  refine wpAny_bind (wpAny_holding (thn (ho.run pins s σ H _ I h) fun ov s1 ⟨x, H1, I1, r1, a, C, dx, fs, ex, ea, c, n, l, q⟩ => ?_))
  subst ex
  obtain rfl : ov = Value.ref a := r1
  refine wpAny_bind (wpAny_standAt (wpAny_bind (wpAny_holding (setattr_ok I1 ea c n l r fun s3 I3 => ?_))))
  exact wpAny_release ⟨σ, _, I3, q⟩
/-- a list of fractions in the heap -/
def FrL (K : PySem.W.Frag) (H : Hp) (a : Addr) (k : Nat) (f : Nat → Rat) : Prop := ∃ ws, H a = some (.lst ws) ∧ FrS K H ws k f
section
variable {K : PySem.W.Frag} {H H' : Hp} {a : Addr} {k : Nat} {f g : Nat → Rat}
theorem FrL.same (e : Same H H') (h : FrL K H a k f) : FrL K H' a k f := let ⟨ws, h1, h2⟩ := h; ⟨ws, e _ _ h1, h2.same e⟩
theorem FrL.ext (h : FrL K H a k f) (e : ∀ j, j < k → f j = g j) : FrL K H a k g := let ⟨ws, h1, h2⟩ := h; ⟨ws, h1, h2.ext e⟩
theorem FrL.toA (h : FrL K H a k f) : FrA false K H (.ref a) k f := let ⟨ws, h1, h2⟩ := h; ⟨a, ws, rfl, SqL.of h1, h2⟩
theorem KpD.frL {D : Addr} (e : KpD D H H') (ne : a ≠ D) (h : FrL K H a k f) : FrL K H' a k f := let ⟨ws, h1, h2⟩ := h; ⟨ws, e.2 _ _ ne h1, e.frS h2⟩
end
/-! ### methods by their names -/
structure Dm (P : Program) (w : World) (K : PySem.W.Frag) (mg : Str → Option Value) (base : Heap) (C : Addr) (k : Nat) (m : Str) (ps : List Str) (sp : Sp) : Prop where
  ex : ∃ (f : Addr) (fd : FuncData), FnOk P w K mg base CX0 k f fd ps sp ∧ Meth K C m f ∧ Binds K fd ps []
end K1
set_option Elab.async false
set_option linter.all false
set_option maxRecDepth 100000
namespace K1
open PySem L2 Kz Sx
abbrev sTInit : Stmt := inClass (top 18) 0
abbrev sLeft : Stmt := inClass (top 18) 1
abbrev sImprove : Stmt := inClass (top 18) 2
abbrev sTurn : Stmt := inClass (top 18) 3
abbrev sSettle : Stmt := inClass (top 18) 4
abbrev sAmounts : Stmt := inClass (top 18) 5
abbrev sFactors : Stmt := inClass (top 18) 6
theorem pe_methD {X : Cx} {pl : Sem Bool} {C : Addr} {k j : Nat} {m : Str} {ps : List Str} {sp : Sp} {o e : Expr} {es : List Expr} {ta : TE} {t : TA} {apos pos : Pos} (D : Dm X.prog X.w X.K X.mg X.base C k m ps sp) (c : Cls X.K C) (hr : Room j X.A) (hk : k ≤ j) (he : PE X o ta) (ha : PA X (e :: es) t)
    (hst : starEach (e :: es) X.env = (false, eval e X.env) :: starEach es X.env := by rfl) (hpl : (backTo pos (starEach es X.env)).any (·.1) = false := by rfl)
    (ht : eval (.Call (.Attribute o m apos) (e :: es) [] pos) X.env = (do
      let ov ← eval o X.env
      standAt apos.atName
      let (f, first) ← holding [ov] (getMethod ov m pl)
      callWith pos f first (backTo pos (starEach (e :: es) X.env)) (backToKw pos (keywordEach [] X.env))) := by rfl) : PE X (.Call (.Attribute o m apos) (e :: es) [] pos) (tMeth C m sp [] E0 ta t) := by
  obtain ⟨f, fd, F, hm, hb⟩ := D.ex
  exact pe_meth he c hm F (hr.mono hk) hb .nil pass0 ha hst hpl ht
theorem pe_methD0 {X : Cx} {pl : Sem Bool} {C : Addr} {k j : Nat} {m : Str} {ps : List Str} {sp : Sp} {o : Expr} {ta : TE} {apos pos : Pos} (D : Dm X.prog X.w X.K X.mg X.base C k m ps sp) (c : Cls X.K C) (hr : Room j X.A) (hk : k ≤ j) (he : PE X o ta)
    (ht : eval (.Call (.Attribute o m apos) [] [] pos) X.env = (do
      let ov ← eval o X.env
      standAt apos.atName
      let (f, first) ← holding [ov] (getMethod ov m pl)
      callWith pos f first (backTo pos (starEach [] X.env)) (backToKw pos (keywordEach [] X.env))) := by rfl) : PE X (.Call (.Attribute o m apos) [] [] pos) (tMeth C m sp [] E0 ta tNil) := by
  obtain ⟨f, fd, F, hm, hb⟩ := D.ex
  exact pe_meth0 he c hm F (hr.mono hk) hb .nil pass0 ht
/-- o.f, with K told (for use in a block) -/
theorem pe_fldK {X : Cx} {K : PySem.W.Frag} {e : Expr} {f : Str} {ta : TE} {pos : Pos} (he : PE X e ta) (hK : X.K = K := by rfl) (hb : attributeBase e f X.env (eval e X.env) = eval e X.env := by rfl) : PE X (.Attribute e f pos) (tFld K ta f) := by
  subst hK
  exact pe_fld he hb
/-! ### an object of the class -/
structure Tx (K : PySem.W.Frag) (C : Addr) : Prop where
  cl : Cls K C
  nH : NoAttr K C "high"
  nM : NoAttr K C "many"
  nR : NoAttr K C "rows"
  nB : NoAttr K C "base"
def tf (m n : Nat) (ra ba : Addr) : List (Str × V) := [("high", .int (m : Int)), ("many", .int (n : Int)), ("rows", .ref ra), ("base", .ref ba)]
theorem dHM : (("many" : Str) == "high") = false := by decide +kernel
theorem dRH : (("rows" : Str) == "high") = false := by decide +kernel
theorem dRM : (("rows" : Str) == "many") = false := by decide +kernel
theorem dBH : (("base" : Str) == "high") = false := by decide +kernel
theorem dBM : (("base" : Str) == "many") = false := by decide +kernel
theorem dBR : (("base" : Str) == "rows") = false := by decide +kernel
section
variable {m n : Nat} {ra ba : Addr}
theorem tf_high : (tf m n ra ba).lookup ("high" : Str) = some (.int (m : Int)) := by simp [tf, List.lookup]
theorem tf_many : (tf m n ra ba).lookup ("many" : Str) = some (.int (n : Int)) := by simp [tf, List.lookup, dHM]
theorem tf_rows : (tf m n ra ba).lookup ("rows" : Str) = some (.ref ra) := by simp [tf, List.lookup, dRH, dRM]
theorem tf_base : (tf m n ra ba).lookup ("base" : Str) = some (.ref ba) := by simp [tf, List.lookup, dBH, dBM, dBR]
theorem tf_no {x : Str} (h1 : (x == ("high" : Str)) = false) (h2 : (x == ("many" : Str)) = false) (h3 : (x == ("rows" : Str)) = false) (h4 : (x == ("base" : Str)) = false) : (tf m n ra ba).lookup x = none := by simp [tf, List.lookup, h1, h2, h3, h4]
end
def baseL (m : Nat) (T : Tb) : List V := (List.range m).map fun i => V.int (T.b i : Int)
theorem baseL_at {m i : Nat} {T : Tb} (h : i < m) : (baseL m T)[i]? = some (.int (T.b i : Int)) := by simp [baseL, h]
theorem baseL_len {m : Nat} {T : Tb} : (baseL m T).length = m := by simp [baseL]
/-- a Turns at p with m rows, n columns, rows at ra, base at ba -/
structure TAt (K : PySem.W.Frag) (C : Addr) (H : Hp) (p ba : Addr) (m n : Nat) (T : Tb) : Prop where
  ex : ∃ dx ra rs, H p = some (.ins C dx (tf m n ra ba)) ∧ H ra = some (.lst rs) ∧ rs.length = m ∧ ∀ i v, rs[i]? = some v → ∃ ad, v = .ref ad ∧ FrL K H ad (n + m + 1) (T.r i)
  bs : H ba = some (.lst (baseL m T))
theorem TAt.same {K : PySem.W.Frag} {C : Addr} {H H' : Hp} {p ba : Addr} {m n : Nat} {T : Tb} (e : Same H H') (h : TAt K C H p ba m n T) : TAt K C H' p ba m n T := by
  obtain ⟨⟨dx, ra, rs, h1, h2, h3, h4⟩, h5⟩ := h
  exact ⟨⟨dx, ra, rs, e _ _ h1, e _ _ h2, h3, fun i v hv => let ⟨ad, e1, e2⟩ := h4 i v hv; ⟨ad, e1, e2.same e⟩⟩, e _ _ h5⟩
/-- sizes of a table -/
structure TSz (m n : Nat) (T : Tb) : Prop where
  hm : m ≤ 3
  hn : n ≤ 4
  bl : ∀ i, i < m → T.b i < n + m
  sz : ∀ i, i < m → ∀ j, j ≤ n + m → Sm 100 (T.r i j)
/-- costs as they are handed in -/
structure CSz (N : Nat) (c : Nat → Rat) : Prop where
  sz : ∀ j, j < N → Sm 100 (c j)
  zr : c N = 0
def spLeft (K : PySem.W.Frag) (C : Addr) : Sp := fun vs H Q _ => ∃ p ba m n T cv c, vs = [.ref p, cv] ∧ TAt K C H p ba m n T ∧ TSz m n T ∧ FrA false K H cv (n + m) c ∧ CSz (n + m) c ∧
  ∀ H' r, Same H H' → FrL K H' r (n + m + 1) (line m c T) → Q (.ref r) H'
/-- the line behind i rows -/
def lineTo (i : Nat) (c : Nat → Rat) (T : Tb) (j : Nat) : Rat := c j - sm i fun k => c (T.b k) * T.r k j
theorem lineTo_zero (c : Nat → Rat) (T : Tb) (j : Nat) : lineTo 0 c T j = c j := by show c j - 0 = c j; grind
theorem lineTo_succ (i : Nat) (c : Nat → Rat) (T : Tb) (j : Nat) : lineTo (i + 1) c T j = lineTo i c T j - c (T.b i) * T.r i j := by
  show c j - (sm i (fun k => c (T.b k) * T.r k j) + c (T.b i) * T.r i j) = c j - sm i (fun k => c (T.b k) * T.r k j) - c (T.b i) * T.r i j
  grind
theorem CSz.le {N j : Nat} {c : Nat → Rat} (h : CSz N c) (hj : j ≤ N) : Sm 100 (c j) := by
  by_cases e : j = N
  · subst e; rw [h.zr]; exact ⟨by decide, by decide⟩
  · exact h.sz j (by omega)
theorem lineTo_sz {m n : Nat} {c : Nat → Rat} {T : Tb} (S : TSz m n T) (Z : CSz (n + m) c) {j : Nat} (hj : j ≤ n + m) : ∀ i, i ≤ m → Sm (100 + i * 201) (lineTo i c T j)
  | 0, _ => by rw [lineTo_zero]; exact Z.le hj
  | i + 1, h => by
    rw [lineTo_succ]
    refine ((lineTo_sz S Z hj i (by omega)).sub ((Z.sz _ (S.bl i (by omega))).mul (S.sz i (by omega) j hj))).mono ?_
    omega
theorem lineTo_sz' {m n : Nat} {c : Nat → Rat} {T : Tb} (S : TSz m n T) (Z : CSz (n + m) c) {i j : Nat} (hi : i ≤ m) (hj : j ≤ n + m) : Sm 800 (lineTo i c T j) :=
  (lineTo_sz S Z hj i hi).mono (by have := S.hm; omega)
theorem line_sz {m n : Nat} {c : Nat → Rat} {T : Tb} (S : TSz m n T) (Z : CSz (n + m) c) {j : Nat} (hj : j ≤ n + m) : Sm 800 (line m c T j) := lineTo_sz' S Z (Nat.le_refl _) hj
section
variable {P : Program} {w : World} {K : PySem.W.Frag} {mg : Str → Option Value} {base : Heap}
theorem scLeft : FnScope ["self", "costs", "line", "at", "column", "one", "other"] ["self", "costs"] (defScope sLeft) := ⟨rfl, rfl, rfl, by decide +kernel, rfl, by decide +kernel, by decide +kernel⟩
theorem ok_left {f C : Addr} {fd : FuncData} (F : Fun K "left" "Turns.left" sLeft f fd) (T : Tx K C) (DM : Df P w K mg base CX0 3 "minus" ["one", "other"] (spBin K (fun _ _ => True) fun p q => p - q)) (DT : Df P w K mg base CX0 3 "times" ["one", "other"] (spBin K (fun _ _ => True) fun p q => p * q))
    {z : Addr} (mz : mg "ZERO" = some (.ref z)) (fz : ∀ H, Fr K H (.ref z) 0) (zL : mg "list" = none) (zE : mg "enumerate" = none) (zZ : mg "zip" = none) :
    FnOk P w K mg base CX0 4 f fd ["self", "costs"] (spLeft K C) := by
  refine F.ok scLeft (fun vs H Q E h => ?_) (fun cdv A outer s H vs Q E hr h => ?_)
  · obtain ⟨p, ba, m, n, T, cv, c, rfl, _⟩ := h
    rfl
  · obtain ⟨p, ba, m, n, B, cv, c, rfl, hT, S, ⟨ca, cs, rfl, hcS, hcF⟩, Z, k⟩ := h
    refine ⟨_, pss_cons (ps_set (i := 2) scLeft.nd rfl (.inl rfl) (pe_op op_cat (pe_callTy call_list_of (by rfl) zL PyProof.Rows.boot_list (pa_cons (pv 1) pa_nil)) (pe_lst (pa_cons (pe_glob (v := V.ref z) (by rfl) mz rfl) pa_nil))))
      (pss_cons (ps_for PassesOwn.never rfl (pi_enum (by rfl) zE (pa_cons (pe_fld (pv 0) rfl) pa_nil)) (pg_tup rfl (pgs_cons (pg_name (i := 3) scLeft.nd rfl (.inl rfl)) (pgs_cons (pg_name (i := 4) scLeft.nd rfl (.inr rfl)) pgs_nil)))
        (pss_one (ps_if (pt_cmpR op_ne (pe_ix (r := rIxT K) ix_tup (pe_ix (r := rIxL K) ix_list (pv 1) (pv 4) (fun _ _ => rfl)) pe_int (fun _ _ => rfl)) pe_int (nomark _))
          (pss_one (ps_setLc (own := [("one", 5), ("other", 6)]) (i := 2) (g := gTup K 2 (gCons (gName 5) (gCons (gName 6) gNil))) (tt := tYes) rfl scLeft.nd rfl rfl (sw_true rfl rfl rfl (by decide +kernel))
            (pi_zipM (by rfl) zZ (pa_cons (pv 2) (pa_cons (pe_ix (r := rIxL K) ix_list (pe_fld (pv 0) rfl) (pv 3) (fun _ _ => rfl)) pa_nil)))
            (blkOk_by (N := ["self", "costs", "line", "at", "column", "one", "other"]) (sc := defScope sLeft) (by decide +kernel))
            (fun _ _ _ _ _ => pg_tup rfl (pgs_cons (pg_name (i := 5) scLeft.nd rfl (.inl rfl)) (pgs_cons (pg_name (i := 6) scLeft.nd rfl (.inl rfl)) pgs_nil)))
            (fun _ _ _ _ _ => pts_nil)
            (fun _ _ _ _ _ => pe_callD DM hr (by decide) (by rfl) pass0 (pa_cons (pv 5) (pa_cons (pe_callD DT hr (by decide) (by rfl) pass0 (pa_cons (pe_ix (r := rIxL K) ix_list (pv 1) (pv 4) (fun _ _ => rfl)) (pa_cons (pv 6) pa_nil))) pa_nil)))))
          pss_nil)))
      (pss_one (ps_ret (pv 2)))), ?_⟩
    obtain ⟨⟨dx, ra, rs, hp, hra, hrl, hrs⟩, hba⟩ := id hT
    refine ⟨_, rfl, ca, cs, rfl, .inl hcS, fun l nl => ?_⟩
    refine ⟨(by decide : (1 : Nat) ≤ sizeLine), fun l2 nl2 => ?_⟩
    have hl12 : l ≠ l2 := ne_of_none upd_same nl2
    refine ⟨l, l2, cs, [.ref z], rfl, rfl, (by rw [upd_ne hl12]; exact upd_same), upd_same, Nat.le_of_lt (small1000 (by rw [hcF.1]; have := S.hm; have := S.hn; show n + m + 1 ≤ 1000; omega)), fun q nq => ?_⟩
    have s0 : Same H (upd (upd (upd H l (.lst cs)) l2 (.lst [.ref z])) q (.lst (cs ++ [.ref z]))) := ((Same.upd nl).trans (Same.upd nl2)).trans (Same.upd nq)
    have f0 : FrL K (upd (upd (upd H l (.lst cs)) l2 (.lst [.ref z])) q (.lst (cs ++ [.ref z]))) q (n + m + 1) c :=
      ⟨_, upd_same, (hcF.same s0).snoc (by rw [Z.zr]; exact fz _)⟩
    refine ⟨_, rfl, p, C, dx, _, _, rfl, s0 _ _ hp, T.cl, T.nB, tf_base, ba, baseL m B, rfl, SqL.of (s0 _ _ hba),
      for_it (walk_enum (K := K) (a := ba) (xs := baseL m B)) (fun i σ H1 => Same H H1 ∧ ∃ la o1 o2, σ = [some (.ref p), some (.ref ca), some (.ref la), o1, o2, none, none] ∧ FrL K H1 la (n + m + 1) (lineTo i c B))
        ⟨s0, q, none, none, rfl, f0.ext fun j _ => (lineTo_zero c B j).symm⟩ (fun i σ H1 _ h => SqL.of (h.1 _ _ hba)) ?_ ?_⟩
    · rintro i x σ H1 H2 hi ⟨s1, la, o1, o2, rfl, hla⟩ ⟨t, x1, x2, rfl, nt, rfl, e1, e2⟩
      rw [baseL_len] at hi
      have e1' : x1 = .int (i : Int) := (Option.some.inj e1).symm
      subst e1'
      have e2' : x2 = .int (B.b i : Int) := by
        have e2 : (baseL m B)[i]? = some x2 := e2
        rw [baseL_at hi] at e2
        exact (Option.some.inj e2).symm
      subst e2'
      have st : Same H1 (upd H1 t (.tup [.int (i : Int), .int (B.b i : Int)])) := Same.upd nt
      generalize hH2 : upd H1 t (.tup [.int (i : Int), .int (B.b i : Int)]) = H2 at st
      have s2 := s1.trans st
      refine ⟨t, _, rfl, SqT.of (by rw [← hH2]; exact upd_same), rfl, _, _, rfl, _, _, rfl, rfl, ?_⟩
      have hb := S.bl i hi
      obtain ⟨cv, ec, ⟨cx, rfl, hcx⟩⟩ := hcF.at hb
      have hcx2 := Same.sqT s2 hcx
      refine ⟨_, rfl, _, rfl, ca, cs, _, _, rfl, rfl, Same.seq s2 hcS, atI_nat ec, cx, _, _, _, rfl, rfl, hcx2, at0, rfl, _, rfl, ite2 (fun hc => ?_) fun hc => ?_⟩
      · obtain ⟨ls, hls', hlf⟩ := hla.same st
        have hls : SqL K H2 la ls := SqL.of hls'
        obtain ⟨rv, er⟩ : ∃ rv, rs[i]? = some rv := ⟨rs[i]'(by omega), List.getElem?_eq_getElem (by omega)⟩
        obtain ⟨r4, rfl, hr4⟩ := hrs i rv er
        obtain ⟨ws, hws', hwf⟩ := hr4.same s2
        have hws : SqL K H2 r4 ws := SqL.of hws'
        refine ⟨_, rfl, _, rfl, p, C, dx, _, _, rfl, s2 _ _ hp, T.cl, T.nR, tf_rows, _, rfl, ra, rs, _, _, rfl, rfl, SqL.of (s2 _ _ hra), atI_nat er, false, false, la, r4, ls, ws, rfl, hls, hws, fun D nD =>
          lcF (K := K) (walkM hlf.1 hwf.1) (lineTo (i + 1) c B) nD (by have := S.hm; have := S.hn; omega) (fun H3 s3 => ⟨Same.sq s3 hls, Same.sq s3 hws⟩) ?_ ?_⟩
        · rintro j x H3 H4 Q' hj s3 ⟨t2, y1, y2, rfl, nt2, rfl, g1, g2⟩ kk
          have st2 := Same.upd (o := .tup [y1, y2]) nt2
          have s4 := s3.trans st2
          refine ⟨t2, _, rfl, SqT.of upd_same, rfl, _, _, rfl, _, _, rfl, rfl, rfl, ?_⟩
          refine ⟨_, rfl, _, rfl, _, rfl, ca, cs, _, _, rfl, rfl, Same.seq (s2.trans s4) hcS, atI_nat ec, _, rfl, _, _, _, _, rfl, ⟨cx, rfl, Same.sqT s4 hcx2⟩, (hwf.2 j _ g2).same s4, (Z.sz _ hb).mono (by decide), (S.sz i hi j (by omega)).mono (by decide), True.intro, fun H5 r s5 fr => ?_⟩
          refine ⟨_, _, _, _, rfl, ((hlf.2 j _ g1).same s4).same s5, fr, (lineTo_sz' S Z (by omega) (by omega)).mono (by decide), (((Z.sz _ hb).mul (S.sz i hi j (by omega)))).mono (by decide), True.intro, fun H6 r2 s6 fr2 => kk _ _ (st2.trans (s5.trans s6)) ?_⟩
          rw [lineTo_succ]
          exact fr2
        · rintro H3 acc s3 hD hf
          exact ⟨s2.trans s3, D, _, _, rfl, ⟨acc, hD, hf⟩⟩
      · refine ⟨s2, la, _, _, rfl, (hla.same st).ext fun j _ => ?_⟩
        have h0 : (c (B.b i)).num = 0 := by
          have hc : ¬ ((!decide (V.int (c (B.b i)).num = V.int 0)) = true) := hc
          by_cases z0 : V.int (c (B.b i)).num = V.int 0
          · exact V.int.inj z0
          · rw [decide_eq_false z0] at hc
            exact absurd rfl hc
        rw [lineTo_succ, Rat.num_eq_zero.mp h0]
        grind
    · rintro σ H1 ⟨s1, la, o1, o2, rfl, hla⟩
      rw [baseL_len] at hla
      exact ⟨_, rfl, k _ _ s1 hla⟩
end
end K1
set_option Elab.async false
set_option linter.all false
set_option maxRecDepth 100000
namespace K1
open PySem L2 Kz Sx
theorem putF_rows {m n : Nat} {ra rb ba : Addr} : putF "rows" (.ref rb) (tf m n ra ba) = tf m n rb ba := by
  have h1 : ¬ (("high" : Str) = "rows") := by decide +kernel
  have h2 : ¬ (("many" : Str) = "rows") := by decide +kernel
  simp only [tf, putF, if_neg h1, if_neg h2, if_true]
/-- all but the object and its base is kept -/
def KpT (p ba : Addr) (H H' : Hp) : Prop := ∀ b o, H b = some o → b ≠ p → b ≠ ba → H' b = some o
theorem KpT.trans {p ba : Addr} {H H1 H2 : Hp} (a : KpT p ba H H1) (b : KpT p ba H1 H2) : KpT p ba H H2 := fun c o h h1 h2 => b c o (a c o h h1 h2) h1 h2
theorem KpT.of {p ba : Addr} {H H' : Hp} (h : Same H H') : KpT p ba H H' := fun b o e _ _ => h b o e
section
variable {K : PySem.W.Frag} {H H' : Hp} {p ba a : Addr} {C dx : Addr} {fs : List (Str × V)} {bs : List V}
/-- tuples stay -/
theorem KpT.sqT {xs : List V} (e : KpT p ba H H') (hp : H p = some (.ins C dx fs)) (hb : H ba = some (.lst bs)) (h : SqT K H a xs) : SqT K H' a xs := by
  have ne : ∀ {o}, H a = some o → (∀ zs, o ≠ .lst zs) → (∀ z, o ≠ .ins C dx z) → a ≠ p ∧ a ≠ ba := fun {o} h1 h2 h3 =>
    ⟨fun z => by subst z; rw [h1] at hp; exact h3 _ (Option.some.inj hp), fun z => by subst z; rw [h1] at hb; exact h2 _ (Option.some.inj hb)⟩
  rcases h with (h | ⟨o, h⟩) | h
  · obtain ⟨n1, n2⟩ := ne h (fun zs z => nomatch z) (fun zs z => nomatch z)
    exact .inl (.inl (e _ _ h n1 n2))
  · obtain ⟨n1, n2⟩ := ne h (fun zs z => nomatch z) (fun zs z => nomatch z)
    exact .inl (.inr ⟨o, e _ _ h n1 n2⟩)
  · exact .inr h
theorem KpT.fr {v : V} {q : Rat} (e : KpT p ba H H') (hp : H p = some (.ins C dx fs)) (hb : H ba = some (.lst bs)) (h : Fr K H v q) : Fr K H' v q := let ⟨a, h1, h2⟩ := h; ⟨a, h1, e.sqT hp hb h2⟩
theorem KpT.frS {vs : List V} {k : Nat} {f : Nat → Rat} (e : KpT p ba H H') (hp : H p = some (.ins C dx fs)) (hb : H ba = some (.lst bs)) (h : FrS K H vs k f) : FrS K H' vs k f := ⟨h.1, fun j v hj => e.fr hp hb (h.2 j v hj)⟩
theorem KpT.frL {k : Nat} {f : Nat → Rat} (e : KpT p ba H H') (hp : H p = some (.ins C dx fs)) (hb : H ba = some (.lst bs)) (ne : a ≠ ba) (h : FrL K H a k f) : FrL K H' a k f := by
  obtain ⟨ws, h1, h2⟩ := h
  refine ⟨ws, e _ _ h1 (fun z => ?_) ne, e.frS hp hb h2⟩
  subst z
  rw [h1] at hp
  cases hp
end
/-- a row is no base -/
theorem frL_base {K : PySem.W.Frag} {H : Hp} {a ba : Addr} {k m : Nat} {f : Nat → Rat} {T : Tb} (h : FrL K H a k f) (hk : 0 < k) (hb : H ba = some (.lst (baseL m T))) : a ≠ ba := by
  obtain ⟨ws, h1, h2⟩ := h
  intro z
  subst z
  rw [h1] at hb
  injection hb with hb
  injection hb with hb
  obtain ⟨v, ev, ad, e2, _⟩ := h2.at hk
  rw [hb] at ev
  have hm : 0 < m := by
    have := (List.getElem?_eq_some_iff.mp ev).1
    rw [baseL_len] at this
    exact this
  rw [baseL_at hm] at ev
  cases ev
  cases e2
theorem baseL_set {m i q : Nat} {T T' : Tb} (hi : i < m) (h1 : T'.b i = q) (h2 : ∀ k, k ≠ i → T'.b k = T.b k) : (baseL m T).set i (.int (q : Int)) = baseL m T' := by
  refine List.ext_getElem? fun j => ?_
  rw [List.getElem?_set]
  by_cases e : i = j
  · subst e
    rw [if_pos rfl, baseL_len, if_pos hi, baseL_at hi, h1]
  · rw [if_neg e]
    by_cases hj : j < m
    · rw [baseL_at hj, baseL_at hj, h2 j (fun z => e z.symm)]
    · rw [List.getElem?_eq_none (by rw [baseL_len]; omega), List.getElem?_eq_none (by rw [baseL_len]; omega)]
def spTurn (K : PySem.W.Frag) (C : Addr) : Sp := fun vs H Q _ => ∃ p ba m n T, ∃ a q : Nat, vs = [.ref p, .int (a : Int), .int (q : Int)] ∧ TAt K C H p ba m n T ∧ TSz m n T ∧ a < m ∧ q < n + m ∧ T.r a q ≠ 0 ∧
  ∀ H', KpT p ba H H' → TAt K C H' p ba m n (piv T a q) → Q .non H'
section
variable {P : Program} {w : World} {K : PySem.W.Frag} {mg : Str → Option Value} {base : Heap}
theorem scTurn : FnScope ["self", "at", "column", "base", "later", "place", "row", "factor", "one", "other"] ["self", "at", "column"] (defScope sTurn) := ⟨rfl, rfl, rfl, by decide +kernel, rfl, by decide +kernel, by decide +kernel⟩
theorem ok_turn {f C : Addr} {fd : FuncData} (F : Fun K "turn" "Turns.turn" sTurn f fd) (T : Tx K C) (DM : Df P w K mg base CX0 3 "minus" ["one", "other"] (spBin K (fun _ _ => True) fun p q => p - q)) (DT : Df P w K mg base CX0 3 "times" ["one", "other"] (spBin K (fun _ _ => True) fun p q => p * q))
    (DO : Df P w K mg base CX0 3 "over" ["one", "other"] (spBin K (fun _ q => q ≠ 0) fun p q => p / q)) (zE : mg "enumerate" = none) (zZ : mg "zip" = none) :
    FnOk P w K mg base CX0 4 f fd ["self", "at", "column"] (spTurn K C) := by
  refine F.ok scTurn (fun vs H Q E h => ?_) (fun cdv A outer s H vs Q E hr h => ?_)
  · obtain ⟨p, ba, m, n, T, a, q, rfl, _⟩ := h
    rfl
  · obtain ⟨p, ba, m, n, B, a, q, rfl, hT, S, ha, hq, h0, k⟩ := h
    refine ⟨_, pss_cons (ps_setLc (own := [("one", 8)]) (i := 3) (g := gName 8) (tt := tYes) rfl scTurn.nd rfl rfl (sw_true rfl rfl rfl (by decide +kernel))
            (pi_list (pe_ix (r := rIxL K) ix_list (pe_fld (pv 0) rfl) (pv 1) (fun _ _ => rfl)))
            (blkOk_by (N := ["self", "at", "column", "base", "later", "place", "row", "factor", "one", "other"]) (sc := defScope sTurn) (by decide +kernel))
            (fun _ _ _ _ _ => pg_name (i := 8) scTurn.nd rfl (.inl rfl)) (fun _ _ _ _ _ => pts_nil)
            (fun _ _ _ _ _ => pe_callD DO hr (by decide) (by rfl) pass0 (pa_cons (pv 8) (pa_cons (pe_ix (r := rIxL K) ix_list (pe_ix (r := rIxL K) ix_list (pe_fldK (K := K) (pv 0)) (pv 1) (fun _ _ => rfl)) (pv 2) (fun _ _ => rfl)) pa_nil))))
      (pss_cons (ps_set (i := 4) scTurn.nd rfl (.inl rfl) (pe_lst pa_nil))
      (pss_cons (ps_for PassesOwn.never rfl (pi_enum (by rfl) zE (pa_cons (pe_fld (pv 0) rfl) pa_nil)) (pg_tup rfl (pgs_cons (pg_name (i := 5) scTurn.nd rfl (.inl rfl)) (pgs_cons (pg_name (i := 6) scTurn.nd rfl (.inl rfl)) pgs_nil)))
        (pss_cons (ps_set (i := 7) scTurn.nd rfl (.inr rfl) (pe_ix (r := rIxL K) ix_list (pv 6) (pv 2) (fun _ _ => rfl)))
        (pss_one (ps_if (pt_cmpR op_eq (pv 5) (pv 1) (nomark _))
          (pss_one (ps_expr (pe_bm PySem.F.plainAttrs_list PySem.F.slot_list_append PySem.F.type_list_append mt_append (pv 4) (pa_cons (pv 3) pa_nil))))
          (pss_one (ps_if (pt_cmpR op_eq (pe_ix (r := rIxT K) ix_tup (pv 7) pe_int (fun _ _ => rfl)) pe_int (nomark _))
            (pss_one (ps_expr (pe_bm PySem.F.plainAttrs_list PySem.F.slot_list_append PySem.F.type_list_append mt_append (pv 4) (pa_cons (pv 6) pa_nil))))
            (pss_one (ps_expr (pe_bm PySem.F.plainAttrs_list PySem.F.slot_list_append PySem.F.type_list_append mt_append (pv 4) (pa_cons
              (pe_lc (own := [("one", 8), ("other", 9)]) (g := gTup K 2 (gCons (gName 8) (gCons (gName 9) gNil))) (tt := tYes) rfl scTurn.nd
                (pi_zipM (by rfl) zZ (pa_cons (pv 6) (pa_cons (pv 3) pa_nil)))
                (blkOk_by (N := ["self", "at", "column", "base", "later", "place", "row", "factor", "one", "other"]) (sc := defScope sTurn) (by decide +kernel))
                (fun _ _ _ _ _ => pg_tup rfl (pgs_cons (pg_name (i := 8) scTurn.nd rfl (.inl rfl)) (pgs_cons (pg_name (i := 9) scTurn.nd rfl (.inl rfl)) pgs_nil)))
                (fun _ _ _ _ _ => pts_nil)
                (fun _ _ _ _ _ => pe_callD DM hr (by decide) (by rfl) pass0 (pa_cons (pv 8) (pa_cons (pe_callD DT hr (by decide) (by rfl) pass0 (pa_cons (pv 7) (pa_cons (pv 9) pa_nil))) pa_nil)))) pa_nil))))))))))
      (pss_cons (ps_fld (pv 0) (pv 4) rfl)
      (pss_one (ps_asg (pv 2) (pg_sub (pe_fld (pv 0) rfl) (pv 1) set_list)))))), ?_⟩
    obtain ⟨⟨dx, ra, rs, hp, hra, hrl, hrs⟩, hba⟩ := id hT
    have hm := S.hm
    have hn := S.hn
    have row : ∀ i, i < m → ∃ ad, rs[i]? = some (.ref ad) ∧ FrL K H ad (n + m + 1) (B.r i) := fun i hi => by
      have e : rs[i]? = some (rs[i]'(by omega)) := List.getElem?_eq_getElem (by omega)
      obtain ⟨ad, e1, e2⟩ := hrs i _ e
      exact ⟨ad, by rw [e, e1], e2⟩
    obtain ⟨pa, epa, rowa⟩ := row a ha
    obtain ⟨wa, hwa, fwa⟩ := id rowa
    obtain ⟨vq, evq, frq⟩ := fwa.at (j := q) (by omega)
    -- base
    refine ⟨_, rfl, p, C, dx, _, _, rfl, hp, T.cl, T.nR, tf_rows, _, rfl, ra, rs, _, _, rfl, rfl, SqL.of hra, atI_nat epa, pa, rfl, ⟨_, SqL.of hwa⟩, fun D nD =>
      lcF (K := K) (walk_list (K := K) (a := pa) (xs := wa)) (fun j => B.r a j / B.r a q) nD (by rw [fwa.1]; omega) (fun H3 s3 => SqL.of (s3 _ _ hwa)) ?_ ?_⟩
    · rintro j x H3 H4 Q' hj s3 ⟨rfl, hx⟩ kk
      rw [fwa.1] at hj
      refine ⟨rfl, ?_⟩
      refine ⟨_, rfl, _, rfl, p, C, dx, _, _, rfl, s3 _ _ hp, T.cl, T.nR, tf_rows, _, rfl, ra, rs, _, _, rfl, rfl, SqL.of (s3 _ _ hra), atI_nat epa, _, rfl, pa, wa, _, _, rfl, rfl, SqL.of (s3 _ _ hwa), atI_nat evq, ?_⟩
      exact ⟨_, _, _, _, rfl, (fwa.2 j _ hx).same s3, frq.same s3, (S.sz a ha j (by omega)).mono (by decide), (S.sz a ha q (by omega)).mono (by decide), h0, fun H5 r s5 fr => kk _ _ s5 fr⟩
    · rintro H1 acc s1 hD hf
      rw [fwa.1] at hf
      refine ⟨by decide, fun la nla => ?_⟩
      have s2 : Same H (upd H1 la (.lst [])) := s1.trans (Same.upd nla)
      have nH : H la = none := s1.free nla
      have hDl : D ≠ la := ne_of_none hD nla
      refine ⟨_, rfl, p, C, dx, _, _, rfl, s2 _ _ hp, T.cl, T.nR, tf_rows, ra, rs, rfl, SqL.of (s2 _ _ hra),
        for_it (walk_enum (K := K) (a := ra) (xs := rs)) (fun i σ H2 => Same H H2 ∧ FrL K H2 D (n + m + 1) (fun j => B.r a j / B.r a q) ∧ (∃ o1 o2 o3, σ = [some (.ref p), some (.int (a : Int)), some (.int (q : Int)), some (.ref D), some (.ref la), o1, o2, o3, none, none]) ∧
          ∃ ls, H2 la = some (.lst ls) ∧ ls.length = i ∧ ∀ j v, ls[j]? = some v → ∃ ad, v = .ref ad ∧ ad ≠ la ∧ ad ≠ ba ∧ FrL K H2 ad (n + m + 1) ((piv B a q).r j))
          ⟨s2, ⟨_, by rw [upd_ne hDl]; exact hD, hf.same (Same.upd nla)⟩, ⟨none, none, none, rfl⟩, [], upd_same, rfl, fun j v e => by simp at e⟩ (fun i σ H2 _ h => SqL.of (h.1 _ _ hra)) ?_ ?_⟩
      · rintro i x σ H2 H3 hi ⟨s3, fD, ⟨o1, o2, o3, rfl⟩, ls, hla, hll, hlr⟩ ⟨t, x1, x2, rfl, nt, rfl, e1, e2⟩
        have him : i < m := by omega
        have e1' : x1 = .int (i : Int) := (Option.some.inj e1).symm
        subst e1'
        obtain ⟨pi, epi, rowi⟩ := row i him
        have e2' : x2 = .ref pi := by
          have e2 : rs[i]? = some x2 := e2
          rw [epi] at e2
          exact (Option.some.inj e2).symm
        subst e2'
        have st : Same H2 (upd H2 t (.tup [.int (i : Int), .ref pi])) := Same.upd nt
        generalize hH3 : upd H2 t (.tup [.int (i : Int), .ref pi]) = H3 at st
        have s4 := s3.trans st
        have hla3 := st _ _ hla
        obtain ⟨wi, hwi, fwi⟩ := rowi.same s4
        obtain ⟨vf, evf, frf⟩ := fwi.at (j := q) (by omega)
        obtain ⟨xf, rfl, hxf⟩ := id frf
        refine ⟨t, _, rfl, SqT.of (by rw [← hH3]; exact upd_same), rfl, _, _, rfl, _, _, rfl, rfl, ?_⟩
        refine ⟨_, rfl, _, rfl, pi, wi, _, _, rfl, rfl, SqL.of hwi, atI_nat evf, ?_⟩
        -- what holds behind an append
        have app : ∀ (H4 : Hp) (ad : Addr), Same H3 H4 → ad ≠ la → ad ≠ ba → FrL K H4 ad (n + m + 1) ((piv B a q).r i) →
            Same H (upd H4 la (.lst (ls ++ [.ref ad]))) ∧ FrL K (upd H4 la (.lst (ls ++ [.ref ad]))) D (n + m + 1) (fun j => B.r a j / B.r a q) ∧
            ∃ ls', (upd H4 la (.lst (ls ++ [.ref ad]))) la = some (.lst ls') ∧ ls'.length = i + 1 ∧ ∀ j v, ls'[j]? = some v → ∃ ae, v = .ref ae ∧ ae ≠ la ∧ ae ≠ ba ∧ FrL K (upd H4 la (.lst (ls ++ [.ref ad]))) ae (n + m + 1) ((piv B a q).r j) := by
          intro H4 ad s5 n1 n2 fr
          have hla4 := s5 _ _ hla3
          have kp : KpD la H4 (upd H4 la (.lst (ls ++ [.ref ad]))) := ⟨⟨_, hla4⟩, fun b o ne e => by rw [upd_ne ne]; exact e⟩
          refine ⟨same_upd nH (s4.trans s5), kp.frL hDl ((fD.same st).same s5), _, upd_same, by rw [List.length_append, hll]; rfl, fun j v e => ?_⟩
          by_cases hj : j < ls.length
          · rw [List.getElem?_append_left hj] at e
            obtain ⟨ad', e', m1, m2, fr'⟩ := hlr j v e
            exact ⟨ad', e', m1, m2, kp.frL m1 ((fr'.same st).same s5)⟩
          · rw [List.getElem?_append_right (by omega)] at e
            have hz : j - ls.length = 0 := by
              by_cases z : j - ls.length = 0
              · exact z
              · rw [List.getElem?_eq_none (by simp; omega)] at e
                cases e
            rw [hz] at e
            have ev : V.ref ad = v := by simpa using e
            have ej : j = i := by omega
            subst ev ej
            exact ⟨ad, rfl, n1, n2, kp.frL n1 fr⟩
        have small : ls.length < sizeLine := small1000 (by omega)
        refine ⟨_, rfl, _, rfl, rfl, _, rfl, ite2 (fun hc => ?_) fun hc => ?_⟩
        · -- the row itself
          have ei : i = a := by
            have := V.int.inj (of_decide_eq_true hc)
            omega
          subst ei
          have hDb : D ≠ ba := fun z => by
            subst z
            rw [hba] at nD
            cases nD
          obtain ⟨r1, r2, r3⟩ := app H3 D (Same.refl _) hDl hDb ((fD.same st).ext fun j _ => (piv_rp B i q j).symm)
          exact ⟨_, rfl, .inl ⟨rfl, _, SqL.of hla3⟩, _, rfl, la, ls, _, rfl, rfl, hla3, small, r1, r2, ⟨_, _, _, rfl⟩, r3⟩
        · have ei : i ≠ a := fun z => hc (decide_eq_true (by rw [z]))
          refine ⟨_, rfl, xf, _, _, _, rfl, rfl, hxf, at0, rfl, _, rfl, ite2 (fun hc2 => ?_) fun hc2 => ?_⟩
          · have hz : B.r i q = 0 := Rat.num_eq_zero.mp (V.int.inj (of_decide_eq_true hc2))
            have hib : pi ≠ ba := frL_base rowi (by omega) hba
            have hil : pi ≠ la := fun z => by
              obtain ⟨w', h', _⟩ := rowi
              rw [z, nH] at h'
              cases h'
            obtain ⟨r1, r2, r3⟩ := app H3 pi (Same.refl _) hil hib ((rowi.same s4).ext fun j _ => by rw [piv_ri B q j ei, hz]; grind)
            exact ⟨_, rfl, .inl ⟨rfl, _, SqL.of hla3⟩, _, rfl, la, ls, _, rfl, rfl, hla3, small, r1, r2, ⟨_, _, _, rfl⟩, r3⟩
          · obtain ⟨wd, hwd, fwd⟩ := fD.same st
            refine ⟨_, rfl, .inl ⟨rfl, _, SqL.of hla3⟩, ?_⟩
            refine ⟨_, rfl, _, rfl, false, false, pi, D, wi, wd, rfl, SqL.of hwi, SqL.of hwd, fun D2 nD2 =>
              lcF (K := K) (walkM fwi.1 fwd.1) ((piv B a q).r i) nD2 (by omega) (fun H5 s5 => ⟨SqL.of (s5 _ _ hwi), SqL.of (s5 _ _ hwd)⟩) ?_ ?_⟩
            · rintro j x H5 H6 Q' hj s5 ⟨t2, y1, y2, rfl, nt2, rfl, g1, g2⟩ kk
              have st2 := Same.upd (o := .tup [y1, y2]) nt2
              have s6 := s5.trans st2
              refine ⟨t2, _, rfl, SqT.of upd_same, rfl, _, _, rfl, _, _, rfl, rfl, rfl, ?_⟩
              refine ⟨_, rfl, _, rfl, _, rfl, _, _, _, _, rfl, frf.same s6, (fwd.2 j _ g2).same s6, (S.sz i him q (by omega)).mono (by decide), ((S.sz a ha j (by omega)).div (S.sz a ha q (by omega)) h0).mono (by decide), True.intro, fun H7 r s7 fr => ?_⟩
              refine ⟨_, _, _, _, rfl, ((fwi.2 j _ g1).same s6).same s7, fr, (S.sz i him j (by omega)).mono (by decide), ((S.sz i him q (by omega)).mul ((S.sz a ha j (by omega)).div (S.sz a ha q (by omega)) h0)).mono (by decide), True.intro, fun H8 r2 s8 fr2 => kk _ _ (st2.trans (s7.trans s8)) ?_⟩
              rw [piv_ri B q j ei]
              exact fr2
            · rintro H5 acc s5 hD5 hf5
              have hl5 := s5 _ _ hla3
              have n1 : D2 ≠ la := fun z => by
                subst z
                rw [hla3] at nD2
                cases nD2
              have n2 : D2 ≠ ba := fun z => by
                subst z
                rw [s4 _ _ hba] at nD2
                cases nD2
              obtain ⟨r1, r2, r3⟩ := app H5 D2 s5 n1 n2 ⟨acc, hD5, hf5⟩
              exact ⟨la, ls, _, rfl, rfl, hl5, small, r1, r2, ⟨_, _, _, rfl⟩, r3⟩
      · rintro σ H2 ⟨s3, fD, ⟨o1, o2, o3, rfl⟩, ls, hla, hll, hlr⟩
        have hp2 := s3 _ _ hp
        have hba2 := s3 _ _ hba
        refine ⟨_, rfl, _, rfl, p, C, dx, _, rfl, hp2, T.cl, T.nR, (by show 4 < 1000; decide), ?_⟩
        rw [putF_rows]
        have nbp : ba ≠ p := ne_of hba2 hp2 (by intro z; cases z)
        have nlp : la ≠ p := ne_of hla hp2 (by intro z; cases z)
        have nlb : la ≠ ba := fun z => by
          subst z
          rw [hba] at nH
          cases nH
        refine ⟨_, rfl, _, rfl, p, C, dx, _, _, rfl, upd_same, T.cl, T.nB, tf_base, _, rfl, ba, baseL m B, _, a, rfl, rfl, (by rw [upd_ne nbp]; exact hba2), (by rw [baseL_len]; unfold ixN; rw [if_pos (by omega), if_pos (by omega)]; rfl), ?_⟩
        rw [baseL_set (T' := piv B a q) ha (piv_bp B a q) (fun k hk => piv_bi B q hk)]
        generalize hF : upd (upd H2 p (.ins C dx (tf m n la ba))) ba (.lst (baseL m (piv B a q))) = HF
        have kp : KpT p ba H2 HF := fun b o e h1 h2 => by rw [← hF, upd_ne h2, upd_ne h1]; exact e
        refine k HF ((KpT.of s3).trans kp) ⟨⟨dx, la, ls, by rw [← hF, upd_ne nbp.symm]; exact upd_same, kp _ _ hla nlp nlb, by rw [hll, hrl], fun i v e => ?_⟩, by rw [← hF]; exact upd_same⟩
        obtain ⟨ad, e1, _, e3, e4⟩ := hlr i v e
        exact ⟨ad, e1, kp.frL hp2 hba2 e3 e4⟩
end
end K1
set_option Elab.async false
set_option linter.all false
set_option maxRecDepth 100000
namespace K1
open PySem L2 Kz Sx
/-- a fraction as data -/
def dF (q : Rat) : PyData := .tuple [.int q.num, .int (q.den : Int)]
theorem Fr.dp {K : PySem.W.Frag} {H : Hp} {v : V} {q : Rat} (h : Fr K H v q) : Dp K H v (dF q) := by
  obtain ⟨a, rfl, h⟩ := h
  exact .tup h (.cons (.int _) (.cons (.int _) .nil))
theorem eqv_int (i j : Int) : PyData.eqv (.int i) (.int j) = decide (i = j) := by
  simp [PyData.eqv]
  rfl
theorem eqv_dF (p q : Rat) : PyData.eqv (dF p) (dF q) = decide (p = q) := by
  simp only [dF, PyData.eqv, PyData.eqvAll, Bool.and_true]
  by_cases h : p = q
  · subst h
    simp
  · rw [decide_eq_false h]
    by_cases h1 : p.num = q.num
    · have h2 : ¬ ((p.den : Int) = q.den) := fun z => h (fr_inj h1 z)
      simp [h1]
      intro z
      exact h2 (by rw [z])
    · simp [h1]
theorem shaped_dF (q : Rat) : SeqAt.shaped (dF q) = true := by
  simp [SeqAt.shaped, dF, PyData.canLay0, PyData.canLayAll0, PyData.depth, PyData.depthAll]
theorem depthAll_ints : ∀ ns : List Int, PyData.depthAll (ns.map .int) ≤ 1
  | [] => by simp [PyData.depthAll]
  | n :: ns => by
    have := depthAll_ints ns
    simp [PyData.depthAll, PyData.depth] at *
    try omega
theorem canLay_ints : ∀ ns : List Int, PyData.canLayAll0 (ns.map .int) = true
  | [] => by simp [PyData.canLayAll0]
  | n :: ns => by
    have := canLay_ints ns
    simp [PyData.canLayAll0, PyData.canLay0] at *
    try exact this
theorem shaped_ints (ns : List Int) : SeqAt.shaped (.list (ns.map .int)) = true := by
  have h1 := depthAll_ints ns
  have h2 := canLay_ints ns
  have e : PyData.depth (.list (ns.map .int)) = PyData.depthAll (ns.map .int) + 1 := by simp [PyData.depth]
  have e2 : PyData.canLay0 (.list (ns.map .int)) = true := by simp only [PyData.canLay0]; exact h2
  unfold SeqAt.shaped
  rw [e2, Bool.true_and]
  exact decide_eq_true (by omega)
theorem dp_ints {K : PySem.W.Frag} {H : Hp} : ∀ ns : List Int, DpAll K H (ns.map V.int) (ns.map .int)
  | [] => .nil
  | n :: ns => .cons (.int n) (dp_ints ns)
theorem eqv_nil (ns : List Int) : PyData.eqv (.list (ns.map .int)) (.list []) = ns.isEmpty := by
  cases ns <;> simp [PyData.eqv, PyData.eqvAll]
end K1
set_option Elab.async false
set_option linter.all false
set_option maxRecDepth 100000
namespace K1
open PySem L2 Kz Sx
abbrev Bq : Nat := 2 ^ 20
/-- a table that is right, of small numbers -/
structure Gd (m n : Nat) (A : Nat → Nat → Rat) (T : Tb) : Prop where
  hm : m = 1 ∨ m = 2 ∨ m = 3
  hn : n ≤ 4
  val : Val m n A T
  nn : Nn m (n + m) T
  bd : ∀ k, k < m → ∀ j, j ≤ n + m → Bd Bq (A k j * 24)
theorem sz_sm {q : Rat} (h : Sz (6 * (Bq * Bq * Bq)) q) : Sm 100 q := ⟨Nat.lt_of_le_of_lt h.1 (by decide), Nat.lt_of_le_of_lt h.2 (by decide)⟩
theorem Gd.tsz {m n : Nat} {A : Nat → Nat → Rat} {T : Tb} (G : Gd m n A T) : TSz m n T where
  hm := by rcases G.hm with h | h | h <;> omega
  hn := G.hn
  bl := G.val.bl
  sz := fun i hi j hj => sz_sm (G.val.sz G.hm (by decide) (by decide) G.bd i hi j hj)
theorem Gd.cho {m n most p q : Nat} {A : Nat → Nat → Rat} {T : Tb} {c : Nat → Rat} (G : Gd m n A T) (C : Cho m (n + m) c most T p q) (hm : most ≤ n + m) : Gd m n A (piv T p q) where
  hm := G.hm
  hn := G.hn
  val := G.val.piv C.hp (Nat.lt_of_lt_of_le C.hq hm) (by have := C.pos; grind)
  nn := C.nn G.nn
  bd := G.bd
theorem at_last {K : PySem.W.Frag} {H : Hp} {ws : List V} {k : Nat} {f : Nat → Rat} (h : FrS K H ws (k + 1) f) : ∃ v, atI ws (-1) = some v ∧ Fr K H v (f k) := by
  obtain ⟨v, e, r⟩ := h.at (Nat.lt_succ_self k)
  refine ⟨v, ?_, r⟩
  unfold atI ixN
  rw [if_neg (by decide), if_pos (by rw [h.1]; omega), h.1]
  show ws[(-1 + ((k + 1 : Nat) : Int)).toNat]? = some v
  rw [show (-1 + ((k + 1 : Nat) : Int)).toNat = k by omega]
  exact e
/-- the best row so far, as it stands in its slot -/
def BsV (K : PySem.W.Frag) (H : Hp) (N q : Nat) (T : Tb) (v : V) : Option Nat → Prop
  | none => v = .non
  | some a => ∃ t sv, v = .ref t ∧ SqT K H t [sv, .int (a : Int)] ∧ Fr K H sv (T.r a N / T.r a q)
theorem BsV.same {K : PySem.W.Frag} {H H' : Hp} {N q : Nat} {T : Tb} {v : V} {o : Option Nat} (e : Same H H') (h : BsV K H N q T v o) : BsV K H' N q T v o := by
  cases o with
  | none => exact h
  | some a =>
    obtain ⟨t, sv, h1, h2, h3⟩ := h
    exact ⟨t, sv, h1, Same.sqT e h2, h3.same e⟩
def spImprove (K : PySem.W.Frag) (C : Addr) : Sp := fun vs H Q _ => ∃ p ba m n T A ca c, ∃ most : Nat, vs = [.ref p, .ref ca, .int (most : Int)] ∧ TAt K C H p ba m n T ∧ Gd m n A T ∧ FrL K H ca (n + m) c ∧ ca ≠ ba ∧ CSz (n + m) c ∧ most ≤ n + m ∧
  (∀ H' T', KpT p ba H H' → TAt K C H' p ba m n T' → Gd m n A T' → Rch m (n + m) c most T T' → (∀ j, j < most → 0 ≤ line m c T' j) → Q (.bl true) H') ∧
  (∀ H' T', KpT p ba H H' → TAt K C H' p ba m n T' → Gd m n A T' → Rch m (n + m) c most T T' → (∃ q, q < most ∧ line m c T' q < 0 ∧ ∀ i, i < m → ¬ 0 < T'.r i q) → Q (.bl false) H')
section
variable {P : Program} {w : World} {K : PySem.W.Frag} {mg : Str → Option Value} {base : Heap}
abbrev nImp : List Str := ["self", "costs", "most", "line", "good", "column", "best", "at", "share", "is_first", "place"]
theorem scImprove : FnScope nImp ["self", "costs", "most"] (defScope sImprove) := ⟨rfl, rfl, rfl, by decide +kernel, rfl, by decide +kernel, by decide +kernel⟩
theorem ok_improve {f C : Addr} {fd : FuncData} (F : Fun K "improve" "Turns.improve" sImprove f fd) (T : Tx K C) (DL : Dm P w K mg base C 4 "left" ["self", "costs"] (spLeft K C)) (DT : Dm P w K mg base C 4 "turn" ["self", "at", "column"] (spTurn K C))
    (DO : Df P w K mg base CX0 3 "over" ["one", "other"] (spBin K (fun _ q => q ≠ 0) fun p q => p / q)) (DS : Df P w K mg base CX0 1 "less" ["one", "other"] (spLess K)) (zR : mg "range" = none) :
    FnOk P w K mg base CX0 5 f fd ["self", "costs", "most"] (spImprove K C) := by
  refine F.ok scImprove (fun vs H Q E h => ?_) (fun cdv A outer s H vs Q E hr h => ?_)
  · obtain ⟨p, ba, m, n, T, A, ca, c, most, rfl, _⟩ := h
    rfl
  · obtain ⟨p, ba, m, n, B, M, ca, c, most, rfl, hT, G, hc, hcb, Z, hmost, kt, kf⟩ := h
    refine ⟨_, pss_one (ps_while PassesOwn.never (pt_val pe_bl)
      (pss_cons (ps_set (i := 3) scImprove.nd rfl (.inr rfl) (pe_methD DL T.cl hr (by decide) (pv 0) (pa_cons (pv 1) pa_nil)))
      (pss_cons (ps_setLc (own := [("place", 10)]) (i := 4) (g := gName 10) rfl scImprove.nd rfl rfl (sw_true rfl rfl rfl (by decide +kernel))
        (pi_range1 (by rfl) zR (pa_cons (pv 2) pa_nil))
        (blkOk_by (N := nImp) (sc := defScope sImprove) (by decide +kernel))
        (fun _ _ _ _ _ => pg_name (i := 10) scImprove.nd rfl (.inl rfl))
        (fun _ _ _ _ _ => pts_one (pt_cmpR op_lt (pe_ix (r := rIxT K) ix_tup (pe_ix (r := rIxL K) ix_list (pv 3) (pv 10) (fun _ _ => rfl)) pe_int (fun _ _ => rfl)) pe_int (nomark _)))
        (fun _ _ _ _ _ => pv 10))
      (pss_cons (ps_if (pt_cmpR (op_eqD hr.units) (pv 4) (pe_lst pa_nil) (nomark _)) (pss_one (ps_ret pe_bl)) pss_nil)
      (pss_cons (ps_par (i := 5) (j := 6) rfl scImprove.nd rfl rfl (by decide) rfl rfl (pa_cons (pe_ix (r := rIxL K) ix_list (pv 4) pe_int (fun _ _ => rfl)) (pa_cons pe_non pa_nil)) rfl)
      (pss_cons (ps_for PassesOwn.never rfl (pi_range1 (by rfl) zR (pa_cons (pe_fld (pv 0) rfl) pa_nil)) (pg_name (i := 7) scImprove.nd rfl (.inl rfl))
        (pss_one (ps_if (pt_cmpR op_gt (pe_ix (r := rIxT K) ix_tup (pe_ix (r := rIxL K) ix_list (pe_ix (r := rIxL K) ix_list (pe_fld (pv 0) rfl) (pv 7) (fun _ _ => rfl)) (pv 5) (fun _ _ => rfl)) pe_int (fun _ _ => rfl)) pe_int (nomark _))
          (pss_cons (ps_set (i := 8) scImprove.nd rfl (.inl rfl) (pe_callD DO hr (by decide) (by rfl) pass0
            (pa_cons (pe_ix (r := rIxL K) ix_list (pe_ix (r := rIxL K) ix_list (pe_fld (pv 0) rfl) (pv 7) (fun _ _ => rfl)) (pe_un un_neg pe_int) (fun _ _ => rfl))
            (pa_cons (pe_ix (r := rIxL K) ix_list (pe_ix (r := rIxL K) ix_list (pe_fld (pv 0) rfl) (pv 7) (fun _ _ => rfl)) (pv 5) (fun _ _ => rfl)) pa_nil))))
          (pss_cons (ps_set (i := 9) scImprove.nd rfl (.inl rfl) (pe_and (pe_cmp (pc_notN (pv 6))) (pe_and (pe_cmpR (op_eqD hr.units) (pv 8) (pe_ix (r := rIxT K) ix_tup (pv 6) pe_int (fun _ _ => rfl)) (nomark _))
            (pe_one (pe_cmpR op_lt (pe_ix (r := rIxL K) ix_list (pe_fld (pv 0) rfl) (pv 7) (fun _ _ => rfl)) (pe_ix (r := rIxL K) ix_list (pe_fld (pv 0) rfl) (pe_ix (r := rIxT K) ix_tup (pv 6) pe_int (fun _ _ => rfl)) (fun _ _ => rfl)) (nomark _))))))
          (pss_one (ps_if (PW.pt (pw_or (pt_cmp (pc_isN (pv 6))) (pw_or (pt_val (pe_callD DS hr (by decide) (by rfl) pass0 (pa_cons (pv 8) (pa_cons (pe_ix (r := rIxT K) ix_tup (pv 6) pe_int (fun _ _ => rfl)) pa_nil)))) (pw_or1 (pt_val (pv 9))))))
            (pss_one (ps_set (i := 6) scImprove.nd rfl (.inl rfl) (pe_tup (pa_cons (pv 8) (pa_cons (pv 7) pa_nil))))) pss_nil))))
          pss_nil)))
      (pss_cons (ps_if (pt_cmp (pc_isN (pv 6))) (pss_one (ps_ret pe_bl)) pss_nil)
      (pss_one (ps_expr (pe_methD DT T.cl hr (by decide) (pv 0) (pa_cons (pe_ix (r := rIxT K) ix_tup (pv 6) pe_int (fun _ _ => rfl)) (pa_cons (pv 5) pa_nil)))))))))))), ?_⟩
    have N1 : nImp.length = 11 := rfl
    refine ⟨fun mm σ H1 => ∃ T1 s o3 o4 o5 o6 o7 o8 o9, σ = [some (.ref p), some (.ref ca), some (.int (most : Int)), o3, o4, o5, o6, o7, o8, o9, none] ∧ KpT p ba H H1 ∧ TAt K C H1 p ba m n T1 ∧ Gd m n M T1 ∧ Rch m (n + m) c most B T1 ∧
        Hist m n M c most B T1 s ∧ mm = (n + m) ^ m - s,
      ⟨_, B, 0, none, none, none, none, none, none, none, rfl, fun b o e _ _ => e, hT, G, .refl, Hist.zero G.val G.nn, rfl⟩, ?_⟩
    rintro mm σ H1 ⟨T1, sN, o3, o4, o5, o6, o7, o8, o9, rfl, kp1, hT1, G1, R1, Hs, rfl⟩
    refine ⟨_, rfl, iteT ⟨fun σ' H' => ∃ m', m' < (n + m) ^ m - sN ∧ _, fun _ _ q => q, ?_⟩⟩
    obtain ⟨⟨dx0, ra0, rs0, hp0, _, _, _⟩, hba0⟩ := id hT
    have hc1 := kp1.frL hp0 hba0 hcb hc
    obtain ⟨⟨dx, ra, rs, hp, hra, hrl, hrs⟩, hba⟩ := id hT1
    have S1 := G1.tsz
    have hm := S1.hm
    have hn := S1.hn
    refine ⟨_, rfl, p, dx, _, rfl, hp, tf_no (by decide +kernel) (by decide +kernel) (by decide +kernel) (by decide +kernel), _, rfl, p, ba, m, n, T1, _, c, rfl, hT1, S1, hc1.toA, Z, fun H2 la s2 fl => ?_⟩
    obtain ⟨ls, hls, hlf⟩ := id fl
    -- the good columns
    refine ⟨_, rfl, (most : Int), rfl, by omega, by omega, fun D nD => lc_it (walk_range (lo := 0) (n := (most : Int).toNat))
      (fun i H3 => Same H2 H3 ∧ H3 D = some (.lst (((List.range i).filter fun j => decide (line m c T1 j < 0)).map fun (j : Nat) => V.int (j : Int)))) ⟨Same.upd nD, upd_same⟩ (fun _ _ _ _ => True.intro) ?_ ?_⟩
    · rintro i x H3 H4 hi ⟨s3, hD⟩ ⟨rfl, rfl⟩
      rw [Int.toNat_natCast] at hi
      obtain ⟨v, ev, ⟨av, rfl, hav⟩⟩ := hlf.at (j := i) (by omega)
      refine ⟨rfl, ?_⟩
      refine ⟨_, rfl, _, rfl, la, ls, _, _, rfl, rfl, SqL.of (s3 _ _ hls), at_of (Int.zero_add _) ev, av, _, _, _, rfl, rfl, Same.sqT s3 hav, at0, _, _, rfl, rfl, _, rfl, ?_⟩
      rw [List.range_succ, List.filter_append]
      by_cases hneg : line m c T1 i < 0
      · rw [decide_eq_true (num_neg.mpr hneg)]
        refine iteT ⟨_, rfl, _, hD, small1000 ?_, ?_⟩
        · rw [List.length_map]
          exact Nat.le_trans (List.length_filter_le _ _) (by rw [List.length_range]; omega)
        · refine ⟨same_upd nD s3, ?_⟩
          rw [upd_same, List.filter_cons_of_pos (by exact decide_eq_true hneg), List.filter_nil, List.map_append]
          exact congrArg (fun z : Int => some (HO.lst (_ ++ [V.int z]))) (Int.zero_add _)
      · rw [decide_eq_false (fun z => hneg (num_neg.mp z))]
        refine iteF ⟨s3, ?_⟩
        rw [List.filter_cons_of_neg (by simpa using hneg), List.filter_nil, List.append_nil]
        exact hD
    · rintro H3 ⟨s3, hD⟩
      rw [Int.toNat_natCast] at hD
      generalize hgs : ((List.range most).filter fun j => decide (line m c T1 j < 0)) = gs at hD
      have s23 := s2.trans s3
      refine ⟨_, rfl, by decide, fun l nl => ?_⟩
      have sl := Same.upd (o := .lst []) nl
      generalize hH4 : upd H3 l (.lst []) = H4 at sl
      have hl4 : H4 l = some (.lst []) := by rw [← hH4]; exact upd_same
      have s4 := s23.trans sl
      refine ⟨.list ((gs.map fun (j : Nat) => (j : Int)).map .int), .list [], .lst (SqL.of (sl _ _ hD)) ?_, .lst (SqL.of hl4) .nil, shaped_ints _, by decide, _, rfl, ?_⟩
      · have := dp_ints (K := K) (H := H4) (gs.map fun (j : Nat) => (j : Int))
        rw [List.map_map] at this
        exact this
      rw [eqv_nil]
      cases hg : gs with
      | nil =>
        refine iteT ?_
        have hall := filter_nil (hgs.trans hg)
        refine kt _ _ (kp1.trans (.of s4)) (hT1.same s4) G1 R1 fun j hj => ?_
        have := hall j hj
        have := of_decide_eq_false this
        grind
      | cons q gr =>
        refine iteF ?_
        obtain ⟨hq, hqn, hqf⟩ := filter_head most (hgs.trans hg)
        have hqn : line m c T1 q < 0 := of_decide_eq_true hqn
        have hqf : ∀ j, j < q → 0 ≤ line m c T1 j := fun j hj => by
          have := of_decide_eq_false (hqf j hj)
          grind
        have hqN : q < n + m := by omega
        rw [hg] at hD
        refine ⟨_, rfl, D, _, _, _, rfl, rfl, SqL.of (sl _ _ hD), atI_nat (j := 0) rfl, _, _, rfl, ?_⟩
        have hp4 := s4 _ _ hp
        have hra4 := s4 _ _ hra
        have hba4 := s4 _ _ hba
        -- the share
        refine ⟨_, rfl, p, C, dx, _, _, rfl, hp4, T.cl, T.nH, tf_high, (m : Int), rfl, by omega, by omega, for_range (lo := 0) (n := (m : Int).toNat)
          (fun i σ H5 => Same H4 H5 ∧ ∃ ob vb o7 o8 o9, σ = [some (.ref p), some (.ref ca), some (.int (most : Int)), some (.ref la), some (.ref D), some (.int (q : Int)), some vb, o7, o8, o9, none] ∧ BsV K H5 (n + m) q T1 vb ob ∧ Bst m (n + m) q T1 i ob)
          ⟨Same.refl _, none, .non, _, _, _, rfl, rfl, fun k hk => absurd hk (by omega)⟩ ?_ ?_⟩
        · rintro i σ H5 hi ⟨s5, ob, vb, p7, p8, p9, rfl, hbv, hbs⟩
          rw [Int.toNat_natCast] at hi
          have s45 := s4.trans s5
          have hp5 := s45 _ _ hp
          have hra5 := s45 _ _ hra
          have hba5 := s45 _ _ hba
          have e0 : (0 : Int) + (i : Nat) = (i : Int) := Int.zero_add _
          obtain ⟨rad, er, ⟨wr, hwr, fwr⟩⟩ : ∃ ad, rs[i]? = some (.ref ad) ∧ FrL K H5 ad (n + m + 1) (T1.r i) := by
            have e : rs[i]? = some (rs[i]'(by omega)) := List.getElem?_eq_getElem (by omega)
            obtain ⟨ad, e1, e2⟩ := hrs i _ e
            exact ⟨ad, by rw [e, e1], e2.same s45⟩
          obtain ⟨vq, evq, ⟨aq, rfl, haq⟩⟩ := fwr.at (j := q) (by omega)
          obtain ⟨vN, evN, frN⟩ := at_last fwr
          refine ⟨_, rfl, p, C, dx, _, _, rfl, hp5, T.cl, T.nR, tf_rows, _, rfl, ra, rs, _, _, rfl, rfl, SqL.of hra5, at_of e0 er, _, rfl, rad, wr, _, _, rfl, rfl, SqL.of hwr, atI_nat evq, aq, _, _, _, rfl, rfl, haq, at0, _, _, rfl, rfl, _, rfl, ?_⟩
          by_cases hpos : 0 < T1.r i q
          · rw [decide_eq_true (num_pos.mpr hpos)]
            refine iteT ?_
            have hq0 : T1.r i q ≠ 0 := by grind
            refine ⟨_, rfl, p, C, dx, _, _, rfl, hp5, T.cl, T.nR, tf_rows, _, rfl, ra, rs, _, _, rfl, rfl, SqL.of hra5, at_of e0 er, 1, rfl, rad, wr, _, _, rfl, rfl, SqL.of hwr, evN, ?_⟩
            refine ⟨_, rfl, p, C, dx, _, _, rfl, hp5, T.cl, T.nR, tf_rows, _, rfl, ra, rs, _, _, rfl, rfl, SqL.of hra5, at_of e0 er, _, rfl, rad, wr, _, _, rfl, rfl, SqL.of hwr, atI_nat evq, ?_⟩
            refine ⟨vN, _, _, _, rfl, frN, ⟨aq, rfl, haq⟩, (S1.sz i hi _ (Nat.le_refl _)).mono (by decide), (S1.sz i hi q (by omega)).mono (by decide), hq0, fun H6 sv s6 fsv => ?_⟩
            have hbv6 := hbv.same s6
            have szs : ∀ k, k < m → T1.r k q ≠ 0 → Sm 3000 (T1.r k (n + m) / T1.r k q) := fun k hk h0 => ((S1.sz k hk _ (Nat.le_refl _)).div (S1.sz k hk q (by omega)) h0).mono (by decide)
            -- a new best
            have put : ∀ (H7 : Hp) (isf : V), Same H6 H7 → Bst m (n + m) q T1 (i + 1) (some i) → ∀ (t : Addr), H7 t = none →
                (Same H4 (upd H7 t (.tup [sv, .int (0 + (i : Nat) : Int)])) ∧ ∃ ob vb' o7 o8 o9, [some (.ref p), some (.ref ca), some (.int (most : Int)), some (.ref la), some (.ref D), some (.int (q : Int)), some (V.ref t), some (.int (0 + (i : Nat) : Int)), some sv, some isf, none] =
                  [some (.ref p), some (.ref ca), some (.int (most : Int)), some (.ref la), some (.ref D), some (.int (q : Int)), some vb', o7, o8, o9, none] ∧ BsV K (upd H7 t (.tup [sv, .int (0 + (i : Nat) : Int)])) (n + m) q T1 vb' ob ∧ Bst m (n + m) q T1 (i + 1) ob) := fun H7 isf s7 hb t nt => by
              have st := Same.upd (o := .tup [sv, .int (0 + (i : Nat) : Int)]) nt
              refine ⟨(s5.trans s6).trans (s7.trans st), some i, _, _, _, _, rfl, ⟨t, sv, rfl, SqT.of (by rw [upd_same, e0]), (fsv.same s7).same st⟩, hb⟩
            cases ob with
            | none =>
              obtain rfl : vb = .non := hbv
              refine ⟨_, rfl, _, rfl, iteF ?_⟩
              refine ⟨_, rfl, _, rfl, iteT ?_⟩
              refine iteT ⟨_, rfl, _, rfl, sz2, fun t nt => ?_⟩
              exact put H6 _ (Same.refl _) (hbs.first hpos) t nt
            | some a =>
              obtain ⟨tb, sb, rfl, htb, fsb⟩ := hbv6
              obtain ⟨ha, hap, _, _⟩ := id hbs
              have ham : a < m := by omega
              have ha0 : T1.r a q ≠ 0 := by grind
              refine ⟨_, rfl, _, rfl, iteT ?_⟩
              refine ⟨_, rfl, _, rfl, tb, _, _, _, rfl, rfl, htb, at0, _, _, fsv.dp, fsb.dp, shaped_dF _, shaped_dF _, _, rfl, ?_⟩
              rw [eqv_dF]
              have hba6 := s6 _ _ hba5
              have hp6 := s6 _ _ hp5
              by_cases hse : T1.r i (n + m) / T1.r i q = T1.r a (n + m) / T1.r a q
              · rw [decide_eq_true hse]
                refine iteT ⟨_, rfl, p, C, dx, _, _, rfl, hp6, T.cl, T.nB, tf_base, _, rfl, ba, _, _, _, rfl, rfl, SqL.of hba6, at_of e0 (baseL_at hi),
                  _, rfl, p, C, dx, _, _, rfl, hp6, T.cl, T.nB, tf_base, _, rfl, tb, _, _, _, rfl, rfl, htb, at1, ba, _, _, _, rfl, rfl, SqL.of hba6, atI_nat (baseL_at ham), _, _, rfl, rfl, ?_⟩
                refine ⟨_, rfl, _, rfl, iteF ?_⟩
                refine ⟨_, rfl, _, rfl, tb, _, _, _, rfl, rfl, htb, at0, sv, sb, _, _, rfl, fsv, fsb, szs i hi hq0, szs a ham ha0, _, rfl, ?_⟩
                rw [decide_eq_false (fun z : T1.r i (n + m) / T1.r i q < T1.r a (n + m) / T1.r a q => by rw [hse] at z; exact absurd z Rat.lt_irrefl)]
                refine iteF ⟨_, rfl, _, rfl, ?_⟩
                by_cases hlt : T1.b i < T1.b a
                · rw [decide_eq_true (by omega)]
                  refine iteT ⟨_, rfl, _, rfl, sz2, fun t nt => ?_⟩
                  exact put H6 _ (Same.refl _) (hbs.tie hpos hse hlt) t nt
                · rw [decide_eq_false (by omega)]
                  exact iteF ⟨s5.trans s6, some a, _, _, _, _, rfl, ⟨tb, sb, rfl, htb, fsb⟩, hbs.keep hpos (fun z => by rw [hse] at z; exact absurd z Rat.lt_irrefl) (fun z => hlt z.2)⟩
              · rw [decide_eq_false hse]
                refine iteF ?_
                refine ⟨_, rfl, _, rfl, iteF ?_⟩
                refine ⟨_, rfl, _, rfl, tb, _, _, _, rfl, rfl, htb, at0, sv, sb, _, _, rfl, fsv, fsb, szs i hi hq0, szs a ham ha0, _, rfl, ?_⟩
                by_cases hl : T1.r i (n + m) / T1.r i q < T1.r a (n + m) / T1.r a q
                · rw [decide_eq_true hl]
                  refine iteT (iteT ⟨_, rfl, _, rfl, sz2, fun t nt => ?_⟩)
                  exact put H6 _ (Same.refl _) (hbs.better hpos hl) t nt
                · rw [decide_eq_false hl]
                  refine iteF ⟨_, rfl, _, rfl, iteF ?_⟩
                  exact ⟨s5.trans s6, some a, _, _, _, _, rfl, ⟨tb, sb, rfl, htb, fsb⟩, hbs.keep hpos hl (fun z => hse z.1)⟩
          · rw [decide_eq_false (fun z => hpos (num_pos.mp z))]
            exact iteF ⟨s5, ob, vb, _, _, _, rfl, hbv, hbs.skip hpos⟩
        · rintro σ H5 ⟨s5, ob, vb, p7, p8, p9, rfl, hbv, hbs⟩
          rw [Int.toNat_natCast] at hbs
          have s45 := s4.trans s5
          cases ob with
          | none =>
            obtain rfl : vb = .non := hbv
            refine ⟨_, rfl, _, rfl, iteT ?_⟩
            exact kf _ _ (kp1.trans (.of s45)) (hT1.same s45) G1 R1 ⟨q, hq, hqn, hbs⟩
          | some a =>
            obtain ⟨tb, sb, rfl, htb, fsb⟩ := hbv
            have Ch := hbs.cho hq hqn hqf
            have hp5 := s45 _ _ hp
            refine ⟨_, rfl, _, rfl, iteF ?_⟩
            refine ⟨_, rfl, p, dx, _, rfl, hp5, tf_no (by decide +kernel) (by decide +kernel) (by decide +kernel) (by decide +kernel), _, rfl, tb, _, _, _, rfl, rfl, htb, at1, _, rfl, p, ba, m, n, T1, a, q, rfl, hT1.same s45, S1, Ch.hp, hqN, by have := Ch.pos; grind, fun H6 kp6 hT6 => ?_⟩
            have G6 := G1.cho Ch hmost
            have Hs6 := Hs.snoc Ch G6.val
            have b1 := Hs6.bound hmost
            exact ⟨_, (by omega : (n + m) ^ m - (sN + 1) < (n + m) ^ m - sN), piv T1 a q, sN + 1, _, _, _, _, _, _, _, rfl, (kp1.trans (.of s45)).trans kp6, hT6, G6, .step R1 Ch, Hs6, rfl⟩
end
end K1
set_option Elab.async false
set_option linter.all false
set_option maxRecDepth 100000
namespace K1
open PySem L2 Kz Sx
/-- rows whose base is a helping column are empty -/
def Art (m n : Nat) (T : Tb) : Prop := ∀ i, i < m → n ≤ T.b i → T.r i (n + m) = 0 ∧ ∀ j, j < n → T.r i j = 0
def spSettle (K : PySem.W.Frag) (C : Addr) : Sp := fun vs H Q _ => ∃ p ba m n T A, vs = [.ref p] ∧ TAt K C H p ba m n T ∧ Gd m n A T ∧ (∀ i, i < m → n ≤ T.b i → T.r i (n + m) = 0) ∧
  ∀ H' T', KpT p ba H H' → TAt K C H' p ba m n T' → Gd m n A T' → Art m n T' → Q .non H'
/-- up to the i-th row -/
structure StI (m n : Nat) (T : Tb) (i : Nat) : Prop where
  z : ∀ k, k < m → n ≤ T.b k → T.r k (n + m) = 0
  e : ∀ k, k < i → n ≤ T.b k → ∀ j, j < n → T.r k j = 0
theorem StI.turn {m n i q : Nat} {T : Tb} (h : StI m n T i) (hi : i < m) (hb : n ≤ T.b i) (hq : q < n) : StI m n (piv T i q) (i + 1) := by
  have h0 := h.z i hi hb
  refine ⟨fun k hk hn => ?_, fun k hk hn j hj => ?_⟩
  · by_cases e : k = i
    · subst e; rw [piv_bp] at hn; omega
    · rw [piv_bi T q e] at hn
      rw [piv_ri T q _ e, h0, h.z k hk hn]
      have : (0 : Rat) / T.r i q = 0 := by grind
      rw [this]; grind
  · by_cases e : k = i
    · subst e; rw [piv_bp] at hn; omega
    · rw [piv_bi T q e] at hn
      rw [piv_ri T q _ e, h.e k (by omega) hn j hj, h.e k (by omega) hn q hq]; grind
theorem Gd.turn0 {m n p q : Nat} {A : Nat → Nat → Rat} {T : Tb} (G : Gd m n A T) (hp : p < m) (hq : q < n + m) (h0 : T.r p q ≠ 0) (z : T.r p (n + m) = 0) : Gd m n A (piv T p q) where
  hm := G.hm
  hn := G.hn
  val := G.val.piv hp hq h0
  nn := fun i hi => by
    have h1 : (0 : Rat) / T.r p q = 0 := by grind
    by_cases e : i = p
    · subst e; rw [piv_rp, z, h1]; grind
    · rw [piv_ri T q _ e, z, h1]
      have := G.nn i hi
      grind
  bd := G.bd
section
variable {P : Program} {w : World} {K : PySem.W.Frag} {mg : Str → Option Value} {base : Heap}
abbrev nSet : List Str := ["self", "at", "good", "place"]
theorem scSettle : FnScope nSet ["self"] (defScope sSettle) := ⟨rfl, rfl, rfl, by decide +kernel, rfl, by decide +kernel, by decide +kernel⟩
end
end K1
set_option Elab.async false
set_option linter.all false
set_option maxRecDepth 100000
namespace K1
open PySem L2 Kz Sx
def spAmounts (K : PySem.W.Frag) (C : Addr) : Sp := fun vs H Q _ => ∃ p ba m n T, vs = [.ref p] ∧ TAt K C H p ba m n T ∧ m ≤ 3 ∧ n ≤ 4 ∧ (∀ i k, i < m → k < m → T.b i = T.b k → i = k) ∧
  ∀ H' r, Same H H' → FrA true K H' r n (sol m (n + m) T) → Q r H'
def spFactors (K : PySem.W.Frag) (C : Addr) : Sp := fun vs H Q _ => ∃ p ba m n T ca c, vs = [.ref p, .ref ca] ∧ TAt K C H p ba m n T ∧ TSz m n T ∧ FrL K H ca (n + m) c ∧ CSz (n + m) c ∧
  ∀ H' r, Same H H' → FrA true K H' r m (fac m n c T) → Q r H'
theorem sol_succ (i N : Nat) (T : Tb) (v : Nat) : sol (i + 1) N T v = sol i N T v + (if T.b i = v then T.r i N else 0) := rfl
theorem FrS.set {K : PySem.W.Frag} {H : Hp} {ws : List V} {k j : Nat} {f g : Nat → Rat} {v : V} (h : FrS K H ws k f) (r : Fr K H v (g j)) (e : ∀ l, l ≠ j → f l = g l) : FrS K H (ws.set j v) k g := by
  refine ⟨by rw [List.length_set]; exact h.1, fun l u hu => ?_⟩
  rw [List.getElem?_set] at hu
  by_cases z : j = l
  · subst z
    rw [if_pos rfl] at hu
    by_cases y : j < ws.length
    · rw [if_pos y] at hu
      cases hu
      exact r
    · rw [if_neg y] at hu
      cases hu
  · rw [if_neg z] at hu
    rw [← e l (fun y => z y.symm)]
    exact h.2 l u hu
theorem rep1 {n : Nat} {v : V} : (List.replicate n [v]).flatten = List.replicate n v := by
  induction n with
  | zero => rfl
  | succ n ih => rw [List.replicate_succ, List.flatten_cons, ih]; rfl
theorem FrS.rep {K : PySem.W.Frag} {H : Hp} {n : Nat} {v : V} {q : Rat} (h : Fr K H v q) : FrS K H (List.replicate n v) n (fun _ => q) :=
  ⟨List.length_replicate, fun j u e => by
    rw [List.getElem?_replicate] at e
    split at e
    · cases e; exact h
    · cases e⟩
section
variable {P : Program} {w : World} {K : PySem.W.Frag} {mg : Str → Option Value} {base : Heap}
theorem scAmounts : FnScope ["self", "found", "at", "column"] ["self"] (defScope sAmounts) := ⟨rfl, rfl, rfl, by decide +kernel, rfl, by decide +kernel, by decide +kernel⟩
theorem ok_amounts {f C : Addr} {fd : FuncData} (F : Fun K "amounts" "Turns.amounts" sAmounts f fd) (T : Tx K C) {z : Addr} (mz : mg "ZERO" = some (.ref z)) (fz : ∀ H, Fr K H (.ref z) 0) (zE : mg "enumerate" = none) (zT : mg "tuple" = none) :
    FnOk P w K mg base CX0 1 f fd ["self"] (spAmounts K C) := by
  refine F.ok scAmounts (fun vs H Q E h => ?_) (fun cdv A outer s H vs Q E hr h => ?_)
  · obtain ⟨p, ba, m, n, T, rfl, _⟩ := h
    rfl
  · obtain ⟨p, ba, m, n, B, rfl, hT, hm, hn, inj, k⟩ := h
    refine ⟨_, pss_cons (ps_set (i := 1) scAmounts.nd rfl (.inl rfl) (pe_op op_rep (pe_lst (pa_cons (pe_glob (v := V.ref z) (by rfl) mz rfl) pa_nil)) (pe_fld (pv 0) rfl)))
      (pss_cons (ps_for PassesOwn.never rfl (pi_enum (by rfl) zE (pa_cons (pe_fld (pv 0) rfl) pa_nil)) (pg_tup rfl (pgs_cons (pg_name (i := 2) scAmounts.nd rfl (.inl rfl)) (pgs_cons (pg_name (i := 3) scAmounts.nd rfl (.inl rfl)) pgs_nil)))
        (pss_one (ps_if (pt_cmpR op_lt (pv 3) (pe_fld (pv 0) rfl) (nomark _))
          (pss_one (ps_asg (pe_ix (r := rIxL K) ix_list (pe_ix (r := rIxL K) ix_list (pe_fld (pv 0) rfl) (pv 2) (fun _ _ => rfl)) (pe_un un_neg pe_int) (fun _ _ => rfl)) (pg_sub (pv 1) (pv 3) set_list))) pss_nil)))
      (pss_one (ps_ret (pe_callTy call_tuple_of (by rfl) zT PyProof.Rows.boot_tuple (pa_cons (pv 1) pa_nil))))), ?_⟩
    obtain ⟨⟨dx, ra, rs, hp, hra, hrl, hrs⟩, hba⟩ := id hT
    refine ⟨(by decide : (1 : Nat) ≤ sizeLine), fun l nl => ?_⟩
    have s1 := Same.upd (o := .lst [.ref z]) nl
    have hl1 : (upd H l (.lst [.ref z])) l = some (.lst [.ref z]) := upd_same
    generalize upd H l (.lst [.ref z]) = H1 at s1 hl1
    refine ⟨_, rfl, p, C, dx, _, _, rfl, s1 _ _ hp, T.cl, T.nM, tf_many, l, (n : Int), [.ref z], rfl, rfl, hl1, by omega, by omega, (by rw [Int.toNat_natCast]; exact Nat.le_of_lt (small1000 (by show 1 * n ≤ 1000; omega))), fun q nq => ?_⟩
    rw [Int.toNat_natCast, rep1]
    have s2 := s1.trans (Same.upd (o := .lst (List.replicate n (V.ref z))) nq)
    have hq2 : (upd H1 q (.lst (List.replicate n (V.ref z)))) q = some (.lst (List.replicate n (V.ref z))) := upd_same
    have nqH : H q = none := s1.free nq
    generalize upd H1 q (.lst (List.replicate n (V.ref z))) = H2 at s2 hq2
    refine ⟨_, rfl, p, C, dx, _, _, rfl, s2 _ _ hp, T.cl, T.nB, tf_base, ba, baseL m B, rfl, SqL.of (s2 _ _ hba),
      for_it (walk_enum (K := K) (a := ba) (xs := baseL m B)) (fun i σ H3 => Same H H3 ∧ ∃ o1 o2, σ = [some (.ref p), some (.ref q), o1, o2] ∧ FrL K H3 q n (sol i (n + m) B)) ⟨s2, none, none, rfl, _, hq2, FrS.rep (fz _)⟩ (fun i σ H3 _ h => SqL.of (h.1 _ _ hba)) ?_ ?_⟩
    · rintro i x σ H3 H4 hi ⟨s3, o1, o2, rfl, wq, hwq, fq⟩ ⟨t, x1, x2, rfl, nt, rfl, e1, e2⟩
      rw [baseL_len] at hi
      have e1' : x1 = .int (i : Int) := (Option.some.inj e1).symm
      subst e1'
      have e2' : x2 = .int (B.b i : Int) := by
        have e2 : (baseL m B)[i]? = some x2 := e2
        rw [baseL_at hi] at e2
        exact (Option.some.inj e2).symm
      subst e2'
      have st : Same H3 (upd H3 t (.tup [.int (i : Int), .int (B.b i : Int)])) := Same.upd nt
      have ht4 : (upd H3 t (.tup [.int (i : Int), .int (B.b i : Int)])) t = some (.tup [.int (i : Int), .int (B.b i : Int)]) := upd_same
      generalize upd H3 t (.tup [.int (i : Int), .int (B.b i : Int)]) = H4 at st ht4
      have s4 := s3.trans st
      have hp4 := s4 _ _ hp
      refine ⟨t, _, rfl, SqT.of ht4, rfl, _, _, rfl, _, _, rfl, rfl, ?_⟩
      refine ⟨_, rfl, _, rfl, p, C, dx, _, _, rfl, hp4, T.cl, T.nM, tf_many, _, _, rfl, rfl, _, rfl, ?_⟩
      by_cases hb : B.b i < n
      · rw [decide_eq_true (by omega)]
        refine iteT ?_
        obtain ⟨rad, er, ⟨wr, hwr, fwr⟩⟩ : ∃ ad, rs[i]? = some (.ref ad) ∧ FrL K H4 ad (n + m + 1) (B.r i) := by
          have e : rs[i]? = some (rs[i]'(by omega)) := List.getElem?_eq_getElem (by omega)
          obtain ⟨ad, e1, e2⟩ := hrs i _ e
          exact ⟨ad, by rw [e, e1], e2.same s4⟩
        obtain ⟨vN, evN, frN⟩ := at_last fwr
        have hq4 := st _ _ hwq
        refine ⟨_, rfl, p, C, dx, _, _, rfl, hp4, T.cl, T.nR, tf_rows, _, rfl, ra, rs, _, _, rfl, rfl, SqL.of (s4 _ _ hra), atI_nat er, 1, rfl, rad, wr, _, _, rfl, rfl, SqL.of hwr, evN, ?_⟩
        refine ⟨_, rfl, _, rfl, q, wq, _, B.b i, rfl, rfl, hq4, (by rw [fq.1]; unfold ixN; rw [if_pos (by omega), if_pos (by omega)]; rfl), ?_⟩
        have kp : KpD q H4 (upd H4 q (.lst (wq.set (B.b i) vN))) := ⟨⟨_, hq4⟩, fun b o ne e => by rw [upd_ne ne]; exact e⟩
        refine ⟨same_upd nqH s4, _, _, rfl, _, upd_same, (kp.frS (fq.same st)).set (g := sol (i + 1) (n + m) B) (j := B.b i) ?_ fun l hl => ?_⟩
        · rw [sol_succ, if_pos rfl, sol_out (fun k hk e => by have := inj k i (by omega) hi e; omega)]
          have : (0 : Rat) + B.r i (n + m) = B.r i (n + m) := by grind
          rw [this]
          exact kp.fr frN
        · rw [sol_succ, if_neg (fun z => hl z.symm)]
          grind
      · rw [decide_eq_false (by omega)]
        refine iteF ⟨s4, _, _, rfl, ⟨wq, st _ _ hwq, (fq.same st).ext fun j hj => ?_⟩⟩
        rw [sol_succ, if_neg (by omega)]
        grind
    · rintro σ H3 ⟨s3, o1, o2, rfl, wq, hwq, fq⟩
      rw [baseL_len] at fq
      refine ⟨_, rfl, q, wq, rfl, .inl ⟨SqL.of hwq, fun l2 nl2 => ?_⟩⟩
      have s4 := Same.upd (o := .tup wq) nl2
      exact k _ _ (s3.trans s4) ⟨l2, wq, rfl, SqT.of upd_same, fq.same s4⟩
theorem scFactors : FnScope ["self", "costs", "line", "at"] ["self", "costs"] (defScope sFactors) := ⟨rfl, rfl, rfl, by decide +kernel, rfl, by decide +kernel, by decide +kernel⟩
theorem ok_factors {f C : Addr} {fd : FuncData} (F : Fun K "factors" "Turns.factors" sFactors f fd) (T : Tx K C) (DL : Dm P w K mg base C 4 "left" ["self", "costs"] (spLeft K C)) (DM : Df P w K mg base CX0 3 "minus" ["one", "other"] (spBin K (fun _ _ => True) fun p q => p - q)) (zR : mg "range" = none) (zT : mg "tuple" = none) :
    FnOk P w K mg base CX0 5 f fd ["self", "costs"] (spFactors K C) := by
  refine F.ok scFactors (fun vs H Q E h => ?_) (fun cdv A outer s H vs Q E hr h => ?_)
  · obtain ⟨p, ba, m, n, T, ca, c, rfl, _⟩ := h
    rfl
  · obtain ⟨p, ba, m, n, B, ca, c, rfl, hT, S, hc, Z, k⟩ := h
    refine ⟨_, pss_cons (ps_set (i := 2) scFactors.nd rfl (.inr rfl) (pe_methD DL T.cl hr (by decide) (pv 0) (pa_cons (pv 1) pa_nil)))
      (pss_one (ps_ret (pe_callTy call_tuple_of (by rfl) zT PyProof.Rows.boot_tuple (pa_cons
        (pe_lc (own := [("at", 3)]) (g := gName 3) (tt := tYes) rfl scFactors.nd (pi_range1 (by rfl) zR (pa_cons (pe_fld (pv 0) rfl) pa_nil))
          (blkOk_by (N := ["self", "costs", "line", "at"]) (sc := defScope sFactors) (by decide +kernel))
          (fun _ _ _ _ _ => pg_name (i := 3) scFactors.nd rfl (.inl rfl)) (fun _ _ _ _ _ => pts_nil)
          (fun _ _ _ _ _ => pe_callD DM hr (by decide) (by rfl) pass0 (pa_cons (pe_ix (r := rIxL K) ix_list (pv 1) (pe_op op_add (pe_fldK (K := K) (pv 0)) (pv 3)) (fun _ _ => rfl)) (pa_cons (pe_ix (r := rIxL K) ix_list (pv 2) (pe_op op_add (pe_fldK (K := K) (pv 0)) (pv 3)) (fun _ _ => rfl)) pa_nil)))) pa_nil)))), ?_⟩
    obtain ⟨⟨dx, ra, rs, hp, hra, hrl, hrs⟩, hba⟩ := id hT
    obtain ⟨wc, hwc, fwc⟩ := id hc
    have hm := S.hm
    have hn := S.hn
    refine ⟨_, rfl, p, dx, _, rfl, hp, tf_no (by decide +kernel) (by decide +kernel) (by decide +kernel) (by decide +kernel), _, rfl, p, ba, m, n, B, _, c, rfl, hT, S, hc.toA, Z, fun H2 la s2 fl => ?_⟩
    obtain ⟨wl, hwl, fwl⟩ := id fl
    have hp2 := s2 _ _ hp
    have hwc2 := s2 _ _ hwc
    refine ⟨_, rfl, p, C, dx, _, _, rfl, hp2, T.cl, T.nH, tf_high, (m : Int), rfl, by omega, by omega, fun D nD => lcF (K := K) (walk_range (lo := 0) (n := (m : Int).toNat)) (fac m n c B) nD (by omega) (fun _ _ => True.intro) ?_ ?_⟩
    · rintro i x H3 H4 Q' hi s3 ⟨rfl, rfl⟩ kk
      rw [Int.toNat_natCast] at hi
      obtain ⟨v1, ev1, fr1⟩ := fwc.at (j := n + i) (by omega)
      obtain ⟨v2, ev2, fr2⟩ := fwl.at (j := n + i) (by omega)
      refine ⟨rfl, ?_⟩
      have ei : (n : Int) + (0 + (i : Nat)) = ((n + i : Nat) : Int) := by omega
      refine ⟨_, rfl, _, rfl, p, C, dx, _, _, rfl, s3 _ _ hp2, T.cl, T.nM, tf_many, _, rfl, _, _, rfl, rfl, ca, wc, _, _, rfl, rfl, SqL.of (s3 _ _ hwc2), at_of ei ev1,
        _, rfl, _, rfl, p, C, dx, _, _, rfl, s3 _ _ hp2, T.cl, T.nM, tf_many, _, rfl, _, _, rfl, rfl, la, wl, _, _, rfl, rfl, SqL.of (s3 _ _ hwl), at_of ei ev2, ?_⟩
      refine ⟨_, _, _, _, rfl, (fr1.same s2).same s3, fr2.same s3, (Z.sz _ (by omega)).mono (by decide), (line_sz S Z (by omega)).mono (by decide), True.intro, fun H5 r s5 fr => kk _ _ s5 ?_⟩
      have e : c (n + i) - line m c B (n + i) = fac m n c B i := by
        unfold line fac
        grind
      rw [← e]
      exact fr
    · rintro H3 acc s3 hD hf
      rw [Int.toNat_natCast] at hf
      refine ⟨D, acc, rfl, .inl ⟨SqL.of hD, fun l2 nl2 => ?_⟩⟩
      have s4 := Same.upd (o := .tup acc) nl2
      exact k _ _ ((s2.trans s3).trans s4) ⟨l2, acc, rfl, SqT.of upd_same, hf.same s4⟩
end
end K1
set_option Elab.async false
set_option linter.all false
set_option maxRecDepth 100000
namespace K1
open PySem L2 Kz Sx
/-- the first table -/
def tab0 (m n : Nat) (R : Nat → Nat → Rat) (g : Nat → Rat) : Tb where
  r := fun i j => if j < n then R i j else if j < n + m then (if i = j - n then 1 else 0) else g i
  b := fun i => n + i
/-- a list of lists of fractions -/
def FrM (K : PySem.W.Frag) (H : Hp) (a : Addr) (m n : Nat) (R : Nat → Nat → Rat) : Prop := ∃ ls, H a = some (.lst ls) ∧ ls.length = m ∧ ∀ i v, ls[i]? = some v → ∃ ad, v = .ref ad ∧ FrL K H ad n (R i)
theorem FrM.same {K : PySem.W.Frag} {H H' : Hp} {a : Addr} {m n : Nat} {R : Nat → Nat → Rat} (e : Same H H') (h : FrM K H a m n R) : FrM K H' a m n R := by
  obtain ⟨ls, h1, h2, h3⟩ := h
  exact ⟨ls, e _ _ h1, h2, fun i v hv => let ⟨ad, e1, e2⟩ := h3 i v hv; ⟨ad, e1, e2.same e⟩⟩
theorem FrM.row {K : PySem.W.Frag} {H : Hp} {ls : List V} {m n i : Nat} {R : Nat → Nat → Rat} (hl : ls.length = m) (h : ∀ i v, ls[i]? = some v → ∃ ad, v = .ref ad ∧ FrL K H ad n (R i)) (hi : i < m) : ∃ ad, ls[i]? = some (.ref ad) ∧ FrL K H ad n (R i) := by
  have e : ls[i]? = some (ls[i]'(by omega)) := List.getElem?_eq_getElem (by omega)
  obtain ⟨ad, e1, e2⟩ := h i _ e
  exact ⟨ad, by rw [e, e1], e2⟩
def spTInit (K : PySem.W.Frag) (C : Addr) : Sp := fun vs H Q _ => ∃ p dx la ga m n R g, vs = [.ref p, .ref la, .ref ga] ∧ H p = some (.ins C dx []) ∧ FrM K H la m n R ∧ FrL K H ga m g ∧ 0 < m ∧ m ≤ 3 ∧ n ≤ 4 ∧
  ∀ H' ba, (∀ b o, H b = some o → b ≠ p → H' b = some o) → H ba = none → TAt K C H' p ba m n (tab0 m n R g) → Q .non H'
theorem FrS.app {K : PySem.W.Frag} {H : Hp} {vs ws : List V} {k l : Nat} {f g h : Nat → Rat} (a : FrS K H vs k f) (b : FrS K H ws l g) (e1 : ∀ j, j < k → h j = f j) (e2 : ∀ j, j < l → h (k + j) = g j) : FrS K H (vs ++ ws) (k + l) h := by
  refine ⟨by rw [List.length_append, a.1, b.1], fun j v hj => ?_⟩
  by_cases x : j < vs.length
  · rw [List.getElem?_append_left x] at hj
    rw [e1 j (by rw [← a.1]; exact x)]
    exact a.2 j v hj
  · rw [List.getElem?_append_right (by omega)] at hj
    have hl : j - vs.length < ws.length := (List.getElem?_eq_some_iff.mp hj).1
    have e := e2 (j - vs.length) (by rw [← b.1]; exact hl)
    have ej : k + (j - vs.length) = j := by rw [← a.1]; omega
    rw [ej] at e
    rw [e]
    exact b.2 _ v hj
theorem putF_new {f : Str} {v : V} : ∀ {fs : List (Str × V)}, (∀ g, g ∈ fs.map (·.1) → ¬ g = f) → putF f v fs = fs ++ [(f, v)]
  | [], _ => rfl
  | (g, x) :: r, h => by
    have h1 : ¬ g = f := h g (by simp)
    show (if g = f then (g, v) :: r else (g, x) :: putF f v r) = _
    rw [if_neg h1, putF_new fun a ha => h a (by simp at ha ⊢; exact .inr ha)]
    rfl
/-- all but the instance at p is kept -/
def KpP (p : Addr) (H H' : Hp) : Prop := ∀ b o, H b = some o → b ≠ p → H' b = some o
section
variable {K : PySem.W.Frag} {H H' : Hp} {p a C dx : Addr} {fs : List (Str × V)}
theorem KpP.sqT {xs : List V} (e : KpP p H H') (hp : H p = some (.ins C dx fs)) (h : SqT K H a xs) : SqT K H' a xs := by
  have ne : ∀ {o}, H a = some o → (∀ z, o ≠ .ins C dx z) → a ≠ p := fun {o} h1 h3 z => by subst z; rw [h1] at hp; exact h3 _ (Option.some.inj hp)
  rcases h with (h | ⟨o, h⟩) | h
  · exact .inl (.inl (e _ _ h (ne h fun zs z => nomatch z)))
  · exact .inl (.inr ⟨o, e _ _ h (ne h fun zs z => nomatch z)⟩)
  · exact .inr h
theorem KpP.fr {v : V} {q : Rat} (e : KpP p H H') (hp : H p = some (.ins C dx fs)) (h : Fr K H v q) : Fr K H' v q := let ⟨a, h1, h2⟩ := h; ⟨a, h1, e.sqT hp h2⟩
theorem KpP.frS {vs : List V} {k : Nat} {f : Nat → Rat} (e : KpP p H H') (hp : H p = some (.ins C dx fs)) (h : FrS K H vs k f) : FrS K H' vs k f := ⟨h.1, fun j v hj => e.fr hp (h.2 j v hj)⟩
theorem KpP.lst {ws : List V} (e : KpP p H H') (hp : H p = some (.ins C dx fs)) (h : H a = some (.lst ws)) : H' a = some (.lst ws) :=
  e _ _ h (ne_of h hp (by intro z; cases z))
theorem KpP.frL {k : Nat} {f : Nat → Rat} (e : KpP p H H') (hp : H p = some (.ins C dx fs)) (h : FrL K H a k f) : FrL K H' a k f := let ⟨ws, h1, h2⟩ := h; ⟨ws, e.lst hp h1, e.frS hp h2⟩
theorem KpP.trans {H1 : Hp} (x : KpP p H H1) (y : KpP p H1 H') : KpP p H H' := fun b o h n => y b o (x b o h n) n
theorem KpP.of (x : Same H H') : KpP p H H' := fun b o h _ => x b o h
theorem KpP.upd {o : HO} : KpP p H (upd H p o) := fun b u h n => by rw [upd_ne n]; exact h
end
theorem tab0_lo {m n : Nat} {R : Nat → Nat → Rat} {g : Nat → Rat} {i j : Nat} (h : j < n) : (tab0 m n R g).r i j = R i j := if_pos h
theorem tab0_mid {m n : Nat} {R : Nat → Nat → Rat} {g : Nat → Rat} {i j : Nat} (h : j < m) : (tab0 m n R g).r i (n + j) = if i = j then 1 else 0 := by
  show (if n + j < n then _ else if n + j < n + m then (if i = n + j - n then (1 : Rat) else 0) else _) = _
  rw [if_neg (by omega), if_pos (by omega), show n + j - n = j by omega]
theorem tab0_hi {m n : Nat} {R : Nat → Nat → Rat} {g : Nat → Rat} {i : Nat} : (tab0 m n R g).r i (n + m) = g i := by
  show (if n + m < n then _ else if n + m < n + m then _ else g i) = _
  rw [if_neg (by omega), if_neg (by omega)]
theorem baseL_succ {i : Nat} {T : Tb} : baseL (i + 1) T = baseL i T ++ [.int (T.b i : Int)] := by
  unfold baseL
  rw [List.range_succ, List.map_append]
  rfl
section
variable {P : Program} {w : World} {K : PySem.W.Frag} {mg : Str → Option Value} {base : Heap}
abbrev nTIn : List Str := ["self", "rows", "numbers", "at", "row", "line", "place"]
theorem scTInit : FnScope nTIn ["self", "rows", "numbers"] (defScope sTInit) := ⟨rfl, rfl, rfl, by decide +kernel, rfl, by decide +kernel, by decide +kernel⟩
theorem ok_tinit {f C : Addr} {fd : FuncData} (F : Fun K "__init__" "Turns.__init__" sTInit f fd) (T : Tx K C) {z o : Addr} (mz : mg "ZERO" = some (.ref z)) (fz : ∀ H, Fr K H (.ref z) 0) (mo : mg "ONE" = some (.ref o)) (fo : ∀ H, Fr K H (.ref o) 1)
    (zN : mg "len" = none) (zE : mg "enumerate" = none) (zL : mg "list" = none) (zR : mg "range" = none) :
    FnOk P w K mg base CX0 1 f fd ["self", "rows", "numbers"] (spTInit K C) := by
  refine F.ok scTInit (fun vs H Q E h => ?_) (fun cdv A outer s H vs Q E hr h => ?_)
  · obtain ⟨p, dx, la, ga, m, n, R, g, rfl, _⟩ := h
    rfl
  · obtain ⟨p, dx, la, ga, m, n, R, g, rfl, hp, ⟨ls, hls, hll, hlr⟩, hg, hm0, hm, hn, k⟩ := h
    refine ⟨_, pss_cons (ps_asg (pe_tup (pa_cons (pe_callB call_len_seq (by rfl) zN PySem.boot_len (pa_cons (pv 1) pa_nil)) (pa_cons (pe_callB call_len_seq (by rfl) zN PySem.boot_len (pa_cons (pe_ix (r := rIxL K) ix_list (pv 1) pe_int (fun _ _ => rfl)) pa_nil)) pa_nil)))
        (pg_tup rfl (pgs_cons (pg_attr (pv 0)) (pgs_cons (pg_attr (pv 0)) pgs_nil))))
      (pss_cons (ps_asg (pe_tup (pa_cons (pe_lst pa_nil) (pa_cons (pe_lst pa_nil) pa_nil))) (pg_tup rfl (pgs_cons (pg_attr (pv 0)) (pgs_cons (pg_attr (pv 0)) pgs_nil))))
      (pss_one (ps_for PassesOwn.never rfl (pi_enum (by rfl) zE (pa_cons (pv 1) pa_nil)) (pg_tup rfl (pgs_cons (pg_name (i := 3) scTInit.nd rfl (.inr rfl)) (pgs_cons (pg_name (i := 4) scTInit.nd rfl (.inl rfl)) pgs_nil)))
        (pss_cons (ps_set (i := 5) scTInit.nd rfl (.inl rfl) (pe_op op_cat (pe_callTy call_list_of (by rfl) zL PyProof.Rows.boot_list (pa_cons (pv 4) pa_nil))
          (pe_lc (own := [("place", 6)]) (g := gName 6) (tt := tYes) rfl scTInit.nd (pi_range1 (by rfl) zR (pa_cons (pe_fld (pv 0) rfl) pa_nil))
            (blkOk_by (N := nTIn) (sc := defScope sTInit) (by decide +kernel))
            (fun _ _ _ _ _ => pg_name (i := 6) scTInit.nd rfl (.inl rfl)) (fun _ _ _ _ _ => pts_nil)
            (fun _ _ _ _ _ => pe_ifExp (pt_cmpR op_eq (pv 3) (pv 6) (nomark _)) (pe_glob (v := V.ref o) (by rfl) mo rfl) (pe_glob (v := V.ref z) (by rfl) mz rfl)))))
        (pss_cons (ps_expr (pe_bm PySem.F.plainAttrs_list PySem.F.slot_list_append PySem.F.type_list_append mt_append (pe_fld (pv 0) rfl) (pa_cons (pe_op op_cat (pv 5) (pe_lst (pa_cons (pe_ix (r := rIxL K) ix_list (pv 2) (pv 3) (fun _ _ => rfl)) pa_nil))) pa_nil)))
        (pss_one (ps_expr (pe_bm PySem.F.plainAttrs_list PySem.F.slot_list_append PySem.F.type_list_append mt_append (pe_fld (pv 0) rfl) (pa_cons (pe_op op_add (pe_fld (pv 0) rfl) (pv 3)) pa_nil))))))))), ?_⟩
    obtain ⟨a0, ea0, w0, hw0, fw0⟩ := FrM.row hll hlr hm0
    have nHM : ¬ (("high" : Str) = "many") := by decide +kernel
    have nHR : ¬ (("high" : Str) = "rows") := by decide +kernel
    have nHB : ¬ (("high" : Str) = "base") := by decide +kernel
    have nMR : ¬ (("many" : Str) = "rows") := by decide +kernel
    have nMB : ¬ (("many" : Str) = "base") := by decide +kernel
    have nRB : ¬ (("rows" : Str) = "base") := by decide +kernel
    refine ⟨_, rfl, la, ls, rfl, .inl (SqL.of hls), _, rfl, la, ls, _, _, rfl, rfl, SqL.of hls, atI_nat (j := 0) ea0, a0, w0, rfl, .inl (SqL.of hw0), sz2, fun t nt => ?_⟩
    rw [hll, fw0.1]
    have st := Same.upd (o := .tup [.int (m : Int), .int (n : Int)]) nt
    have ht : (upd H t (.tup [.int (m : Int), .int (n : Int)])) t = some (.tup [.int (m : Int), .int (n : Int)]) := upd_same
    generalize upd H t (.tup [.int (m : Int), .int (n : Int)]) = H1 at st ht
    refine ⟨t, _, rfl, SqT.of ht, rfl, _, _, rfl, _, rfl, p, C, dx, [], rfl, st _ _ hp, T.cl, T.nH, (by decide), ?_⟩
    refine ⟨_, _, rfl, _, rfl, p, C, dx, _, rfl, upd_same, T.cl, T.nM, (by show 1 < 1000; decide), rfl, ?_⟩
    rw [upd_upd]
    have k1 : KpP p H (upd H1 p (.ins C dx (putF "many" (.int (n : Int)) (putF "high" (.int (m : Int)) [])))) := (KpP.of st).trans KpP.upd
    have hp1 : (upd H1 p (.ins C dx (putF "many" (.int (n : Int)) (putF "high" (.int (m : Int)) [])))) p = some (.ins C dx [("high", .int (m : Int)), ("many", .int (n : Int))]) := by
      rw [upd_same]
      show some (HO.ins C dx (if ("high" : Str) = "many" then _ else _)) = _
      rw [if_neg nHM]; rfl
    generalize upd H1 p (.ins C dx (putF "many" (.int (n : Int)) (putF "high" (.int (m : Int)) []))) = H2 at k1 hp1
    refine ⟨by decide, fun r0 nr0 => ⟨by decide, fun b0 nb0 => ⟨sz2, fun t2 nt2 => ?_⟩⟩⟩
    have s3 := Same.upd (o := .lst []) nr0
    have hr3 : (upd H2 r0 (.lst [])) r0 = some (.lst []) := upd_same
    generalize upd H2 r0 (.lst []) = H3 at s3 hr3 nb0 nt2
    have s4 := Same.upd (o := .lst []) nb0
    have hb4 : (upd H3 b0 (.lst [])) b0 = some (.lst []) := upd_same
    generalize upd H3 b0 (.lst []) = H4 at s4 hb4 nt2
    have s5 := Same.upd (o := .tup [.ref r0, .ref b0]) nt2
    have ht5 : (upd H4 t2 (.tup [.ref r0, .ref b0])) t2 = some (.tup [.ref r0, .ref b0]) := upd_same
    generalize upd H4 t2 (.tup [.ref r0, .ref b0]) = H5 at s5 ht5
    have s25 := (s3.trans s4).trans s5
    have nrb : r0 ≠ b0 := ne_of_none hr3 nb0
    have nrp : r0 ≠ p := fun z => by subst z; rw [hp1] at nr0; cases nr0
    have nbp : b0 ≠ p := fun z => by subst z; rw [s3 _ _ hp1] at nb0; cases nb0
    have freeH : ∀ a, a ≠ p → H2 a = none → H a = none := fun a ne hn => by
      cases q : H a with
      | none => rfl
      | some o => rw [k1 a o q ne] at hn; cases hn
    have nr0H := freeH r0 nrp nr0
    have nb0H := freeH b0 nbp (s3.free nb0)
    refine ⟨t2, _, rfl, SqT.of ht5, rfl, _, _, rfl, _, rfl, p, C, dx, _, rfl, s25 _ _ hp1, T.cl, T.nR, (by show 2 < 1000; decide), ?_⟩
    refine ⟨_, _, rfl, _, rfl, p, C, dx, _, rfl, upd_same, T.cl, T.nB, Nat.lt_of_le_of_lt (length_putF _ _ _) (by show 3 < 1000; decide), rfl, ?_⟩
    rw [upd_upd]
    have k2 : KpP p H (upd H5 p (.ins C dx (putF "base" (.ref b0) (putF "rows" (.ref r0) [("high", .int (m : Int)), ("many", .int (n : Int))])))) := (k1.trans (.of s25)).trans KpP.upd
    have hp6 : (upd H5 p (.ins C dx (putF "base" (.ref b0) (putF "rows" (.ref r0) [("high", .int (m : Int)), ("many", .int (n : Int))])))) p = some (.ins C dx (tf m n r0 b0)) := by
      rw [upd_same]
      simp only [putF, if_neg nHR, if_neg nMR, if_neg nHB, if_neg nMB, if_neg nRB]
      rfl
    have hr6 : (upd H5 p (.ins C dx (putF "base" (.ref b0) (putF "rows" (.ref r0) [("high", .int (m : Int)), ("many", .int (n : Int))])))) r0 = some (.lst []) := by
      rw [upd_ne nrp]; exact s5 _ _ (s4 _ _ hr3)
    have hb6 : (upd H5 p (.ins C dx (putF "base" (.ref b0) (putF "rows" (.ref r0) [("high", .int (m : Int)), ("many", .int (n : Int))])))) b0 = some (.lst []) := by
      rw [upd_ne nbp]; exact s5 _ _ hb4
    generalize upd H5 p (.ins C dx (putF "base" (.ref b0) (putF "rows" (.ref r0) [("high", .int (m : Int)), ("many", .int (n : Int))]))) = H6 at k2 hp6 hr6 hb6
    obtain ⟨wg, hwg, fwg⟩ := id hg
    refine ⟨_, rfl, la, ls, rfl, SqL.of (k2.lst hp hls), for_it (walk_enum (K := K) (a := la) (xs := ls))
      (fun i σ H7 => KpP p H H7 ∧ (∃ o1 o2 o3, σ = [some (.ref p), some (.ref la), some (.ref ga), o1, o2, o3, none]) ∧ H7 p = some (.ins C dx (tf m n r0 b0)) ∧ H7 b0 = some (.lst (baseL i (tab0 m n R g))) ∧
        ∃ rs, H7 r0 = some (.lst rs) ∧ rs.length = i ∧ ∀ k v, rs[k]? = some v → ∃ ad, v = .ref ad ∧ ad ≠ r0 ∧ ad ≠ b0 ∧ FrL K H7 ad (n + m + 1) ((tab0 m n R g).r k))
      ⟨k2, ⟨none, none, none, rfl⟩, hp6, hb6, [], hr6, rfl, fun k v e => by simp at e⟩ (fun i σ H7 _ h => SqL.of (h.1.lst hp hls)) ?_ ?_⟩
    · rintro i x σ H7 H8 hi ⟨k7, ⟨o1, o2, o3, rfl⟩, hp7, hb7, rs, hr7, hrl, hrr⟩ ⟨t3, x1, x2, rfl, nt3, rfl, e1, e2⟩
      have him : i < m := by omega
      have e1' : x1 = .int (i : Int) := (Option.some.inj e1).symm
      subst e1'
      obtain ⟨ai, eai, rowi⟩ := FrM.row hll hlr him
      have e2' : x2 = .ref ai := by
        have e2 : ls[i]? = some x2 := e2
        rw [eai] at e2
        exact (Option.some.inj e2).symm
      subst e2'
      have s8 := Same.upd (o := .tup [.int (i : Int), .ref ai]) nt3
      have ht8 : (upd H7 t3 (.tup [.int (i : Int), .ref ai])) t3 = some (.tup [.int (i : Int), .ref ai]) := upd_same
      generalize upd H7 t3 (.tup [.int (i : Int), .ref ai]) = H8 at s8 ht8
      have k8 := k7.trans (.of s8)
      obtain ⟨wi, hwi, fwi⟩ := k8.frL hp rowi
      refine ⟨t3, _, rfl, SqT.of ht8, rfl, _, _, rfl, _, _, rfl, rfl, ?_⟩
      refine ⟨_, rfl, ai, wi, rfl, .inl (SqL.of hwi), fun l1 nl1 => ?_⟩
      have s9 := Same.upd (o := .lst wi) nl1
      have hl9 : (upd H8 l1 (.lst wi)) l1 = some (.lst wi) := upd_same
      generalize upd H8 l1 (.lst wi) = H9 at s9 hl9
      have s79 := s8.trans s9
      refine ⟨_, rfl, p, C, dx, _, _, rfl, s79 _ _ hp7, T.cl, T.nH, tf_high, (m : Int), rfl, by omega, by omega, fun D nD => lcF (K := K) (walk_range (lo := 0) (n := (m : Int).toNat)) (fun j => if i = j then 1 else 0) nD (by omega) (fun _ _ => True.intro) ?_ ?_⟩
      · rintro j x Ha Hb Q' hj sa ⟨rfl, rfl⟩ kk
        rw [Int.toNat_natCast] at hj
        refine ⟨rfl, ?_⟩
        refine ⟨_, rfl, _, rfl, rfl, _, rfl, ite2 (fun hc => ?_) fun hc => ?_⟩
        · have e : i = j := by
            have := V.int.inj (of_decide_eq_true hc)
            omega
          refine kk _ _ (Same.refl _) ?_
          simp only [if_pos e]
          exact fo _
        · have e : ¬ i = j := fun z => hc (decide_eq_true (by rw [z]; exact congrArg V.int (by omega)))
          refine kk _ _ (Same.refl _) ?_
          simp only [if_neg e]
          exact fz _
      · rintro Ha acc sa hDa hfa
        rw [Int.toNat_natCast] at hfa
        have s7a := s79.trans sa
        refine ⟨l1, D, wi, acc, rfl, rfl, sa _ _ hl9, hDa, Nat.le_of_lt (small1000 (by rw [fwi.1, hfa.1]; omega)), fun l2 nl2 => ?_⟩
        have sb := Same.upd (o := .lst (wi ++ acc)) nl2
        have hlb : (upd Ha l2 (.lst (wi ++ acc))) l2 = some (.lst (wi ++ acc)) := upd_same
        generalize upd Ha l2 (.lst (wi ++ acc)) = Hb at sb hlb
        have s7b := s7a.trans sb
        obtain ⟨vg, evg, frg⟩ := fwg.at him
        have k7b := k7.trans (.of s7b)
        have frgb := k7b.fr hp frg
        refine ⟨_, rfl, p, C, dx, _, _, rfl, s7b _ _ hp7, T.cl, T.nR, tf_rows, .inl ⟨rfl, _, SqL.of (s7b _ _ hr7)⟩, ?_⟩
        refine ⟨_, rfl, _, rfl, _, rfl, ga, wg, _, _, rfl, rfl, SqL.of (k7b.lst hp hwg), atI_nat evg, (by decide : (1 : Nat) ≤ sizeLine), fun l3 nl3 => ?_⟩
        have sc := Same.upd (o := .lst [vg]) nl3
        have hlc : (upd Hb l3 (.lst [vg])) l3 = some (.lst [vg]) := upd_same
        generalize upd Hb l3 (.lst [vg]) = Hc at sc hlc
        refine ⟨l2, l3, _, _, rfl, rfl, sc _ _ hlb, hlc, Nat.le_of_lt (small1000 (by rw [List.length_append, fwi.1, hfa.1]; show n + m + 1 ≤ 1000; omega)), fun l4 nl4 => ?_⟩
        have sd := Same.upd (o := .lst (wi ++ acc ++ [vg])) nl4
        have hld : (upd Hc l4 (.lst (wi ++ acc ++ [vg]))) l4 = some (.lst (wi ++ acc ++ [vg])) := upd_same
        generalize upd Hc l4 (.lst (wi ++ acc ++ [vg])) = Hd at sd hld
        have sbd := sc.trans sd
        have s7d := s7b.trans sbd
        have hrd := s7d _ _ hr7
        have hbd := s7d _ _ hb7
        have row : FrL K Hd l4 (n + m + 1) ((tab0 m n R g).r i) := by
          refine ⟨_, hld, ?_⟩
          have f1 := FrS.app (h := (tab0 m n R g).r i) ((((fwi.same s9).same sa).same sb).same sbd) ((hfa.same sb).same sbd) (fun j hj => tab0_lo hj) (fun j hj => tab0_mid hj)
          refine f1.snoc ?_
          rw [tab0_hi]
          exact frgb.same sbd
        have n41 : l4 ≠ r0 := fun z => by subst z; rw [(s7b.trans sc) _ _ hr7] at nl4; cases nl4
        have n42 : l4 ≠ b0 := fun z => by subst z; rw [(s7b.trans sc) _ _ hb7] at nl4; cases nl4
        refine ⟨r0, rs, _, rfl, rfl, hrd, small1000 (by omega), ?_⟩
        have kr : KpD r0 Hd (upd Hd r0 (.lst (rs ++ [.ref l4]))) := ⟨⟨_, hrd⟩, fun b o ne e => by rw [upd_ne ne]; exact e⟩
        have hre : (upd Hd r0 (.lst (rs ++ [.ref l4]))) r0 = some (.lst (rs ++ [.ref l4])) := upd_same
        generalize upd Hd r0 (.lst (rs ++ [.ref l4])) = He at kr hre
        have hpe := kr.2 _ _ (Ne.symm nrp) (s7d _ _ hp7)
        have hbe := kr.2 _ _ (Ne.symm nrb) hbd
        refine ⟨_, rfl, p, C, dx, _, _, rfl, hpe, T.cl, T.nB, tf_base, .inl ⟨rfl, _, SqL.of hbe⟩, ?_⟩
        refine ⟨_, rfl, p, C, dx, _, _, rfl, hpe, T.cl, T.nM, tf_many, _, rfl, _, _, rfl, rfl, b0, _, _, rfl, rfl, hbe, small1000 (by rw [baseL_len]; omega), ?_⟩
        have kb : KpD b0 He (upd He b0 (.lst (baseL i (tab0 m n R g) ++ [.int ((n : Int) + (i : Int))]))) := ⟨⟨_, hbe⟩, fun b o ne e => by rw [upd_ne ne]; exact e⟩
        have hbf : (upd He b0 (.lst (baseL i (tab0 m n R g) ++ [.int ((n : Int) + (i : Int))]))) b0 = some (.lst (baseL (i + 1) (tab0 m n R g))) := by
          rw [upd_same, baseL_succ]
          exact congrArg (fun z : Int => some (HO.lst (_ ++ [V.int z]))) (show (n : Int) + (i : Int) = ((n + i : Nat) : Int) by omega)
        generalize upd He b0 (.lst (baseL i (tab0 m n R g) ++ [.int ((n : Int) + (i : Int))])) = Hf at kb hbf
        have kall : KpP p H Hf := fun b o e ne => by
          have x1 := (k7.trans (.of s7d)) b o e ne
          have ne1 : b ≠ r0 := ne_of_none e nr0H
          have ne2 : b ≠ b0 := ne_of_none e nb0H
          exact kb.2 _ _ ne2 (kr.2 _ _ ne1 x1)
        refine ⟨kall, ⟨_, _, _, rfl⟩, kb.2 _ _ (Ne.symm nbp) hpe, hbf, _, kb.2 _ _ nrb hre, by rw [List.length_append, hrl]; rfl, fun j v e => ?_⟩
        by_cases hj : j < rs.length
        · rw [List.getElem?_append_left hj] at e
          obtain ⟨ad, e', m1, m2, fr'⟩ := hrr j v e
          exact ⟨ad, e', m1, m2, kb.frL m2 (kr.frL m1 (fr'.same s7d))⟩
        · rw [List.getElem?_append_right (by omega)] at e
          have hz : j - rs.length = 0 := by
            by_cases z : j - rs.length = 0
            · exact z
            · rw [List.getElem?_eq_none (by simp; omega)] at e
              cases e
          rw [hz] at e
          have ev : V.ref l4 = v := by simpa using e
          have ej : j = i := by omega
          subst ev ej
          exact ⟨l4, rfl, n41, n42, kb.frL n42 (kr.frL n41 row)⟩
    · rintro σ H7 ⟨k7, ⟨o1, o2, o3, rfl⟩, hp7, hb7, rs, hr7, hrl, hrr⟩
      rw [hll] at hb7 hrl
      refine k H7 b0 k7 nb0H ⟨⟨dx, r0, rs, hp7, hr7, hrl, fun i v e => ?_⟩, hb7⟩
      obtain ⟨ad, e1, _, _, e4⟩ := hrr i v e
      exact ⟨ad, e1, e4⟩
end
end K1
set_option Elab.async false
set_option linter.all false
set_option maxRecDepth 100000
namespace K1
open PySem L2 Kz Sx
abbrev sSigns : Stmt := top 19
abbrev sLed : Stmt := top 20
abbrev sFitted : Stmt := top 21
abbrev sLeast : Stmt := top 99
def sg (g : Nat → Rat) (k : Nat) : Rat := if g k < 0 then -1 else 1
theorem sg_sq (g : Nat → Rat) (k : Nat) : sg g k * sg g k = 1 := by unfold sg; split <;> grind
theorem sg_nn (g : Nat → Rat) (k : Nat) : 0 ≤ sg g k * g k := by unfold sg; split <;> grind
theorem sg_ne (g : Nat → Rat) (k : Nat) : sg g k ≠ 0 := by unfold sg; split <;> grind
theorem sg_sz (g : Nat → Rat) (k : Nat) : Sm 1 (sg g k) := by unfold sg; split <;> exact ⟨by decide, by decide⟩
theorem sg_bd {g : Nat → Rat} {k : Nat} {b : Nat} {q : Rat} (h : Bd b q) : Bd b (sg g k * q) := by
  obtain ⟨z, rfl, hz⟩ := h
  unfold sg
  split
  · exact ⟨-z, by rw [Rat.intCast_neg]; grind, by omega⟩
  · exact ⟨z, by grind, hz⟩
def R0 (R : Nat → Nat → Rat) (g : Nat → Rat) : Nat → Nat → Rat := fun i j => sg g i * R i j
def g0 (g : Nat → Rat) : Nat → Rat := fun i => sg g i * g i
def Fe (m n : Nat) (R : Nat → Nat → Rat) (g x : Nat → Rat) : Prop := (∀ j, j < n → 0 ≤ x j) ∧ ∀ k, k < m → sm n (fun j => R k j * x j) = g k
def Du (m n : Nat) (R : Nat → Nat → Rat) (c y : Nat → Rat) : Prop := ∀ j, j < n → sm m (fun k => y k * R k j) ≤ c j
abbrev T0 (m n : Nat) (R : Nat → Nat → Rat) (g : Nat → Rat) : Tb := tab0 m n (R0 R g) (g0 g)
/-- rows and numbers that are small -/
structure Sml (m n : Nat) (R : Nat → Nat → Rat) (g : Nat → Rat) : Prop where
  hm : m = 1 ∨ m = 2 ∨ m = 3
  hn : n ≤ 4
  bR : ∀ i, i < m → ∀ j, j < n → Bd Bq (R i j * 24)
  bg : ∀ i, i < m → Bd Bq (g i * 24)
section
variable {m n : Nat} {R : Nat → Nat → Rat} {g c x y : Nat → Rat}
theorem tab0_one {S : Nat → Nat → Rat} {d : Nat → Rat} {i k : Nat} (hk : k < m) : (tab0 m n S d).r i (n + k) = if i = k then 1 else 0 := tab0_mid hk
theorem gd0 (S : Sml m n R g) : Gd m n (T0 m n R g).r (T0 m n R g) where
  hm := S.hm
  hn := S.hn
  val := {
    bl := fun i hi => by show n + i < n + m; omega
    id := fun i hi k hk => tab0_one hk
    cm := fun i hi j hj => by
      rw [sm_one (k := i) m hi fun k hk ne => by rw [tab0_one hk, if_neg (fun z => ne z.symm)]; grind]
      rw [tab0_one hi, if_pos rfl]; grind
    iv := fun k hk j hj => by
      rw [sm_one (k := k) m hk fun i hi ne => by
        show (T0 m n R g).r k (n + i) * _ = 0
        rw [tab0_one hi, if_neg (fun z => ne z.symm)]; grind]
      show _ = (T0 m n R g).r k (n + k) * _
      rw [tab0_one hk, if_pos rfl]; grind }
  nn := fun i hi => by rw [tab0_hi]; exact sg_nn g i
  bd := fun k hk j hj => by
    by_cases h1 : j < n
    · rw [tab0_lo h1]
      have := sg_bd (g := g) (k := k) (S.bR k hk j h1)
      show Bd Bq (sg g k * R k j * 24)
      rw [show sg g k * R k j * 24 = sg g k * (R k j * 24) by grind]
      exact this
    · by_cases h2 : j < n + m
      · obtain ⟨l, rfl⟩ : ∃ l, j = n + l := ⟨j - n, by omega⟩
        rw [tab0_one (by omega)]
        split
        · exact ⟨24, by grind, by decide⟩
        · exact ⟨0, by grind, by decide⟩
      · have : j = n + m := by omega
        subst this
        rw [tab0_hi]
        have := sg_bd (g := g) (k := k) (S.bg k hk)
        show Bd Bq (sg g k * g k * 24)
        rw [show sg g k * g k * 24 = sg g k * (g k * 24) by grind]
        exact this
theorem feA_iff : FeA m n (T0 m n R g).r x ↔ Fe m n R g x := by
  have e : ∀ k, sm n (fun j => (T0 m n R g).r k j * x j) = sg g k * sm n (fun j => R k j * x j) := fun k => by
    rw [← sm_mul]
    exact sm_ext n fun j hj => by rw [tab0_lo hj]; show sg g k * R k j * x j = _; grind
  refine ⟨fun h => ⟨h.1, fun k hk => ?_⟩, fun h => ⟨h.1, fun k hk => ?_⟩⟩
  · have h2 := h.2 k hk
    rw [e, tab0_hi] at h2
    have h2 : sg g k * sm n (fun j => R k j * x j) = sg g k * g k := h2
    have h3 := sg_sq g k
    generalize sm n (fun j => R k j * x j) = u at *
    generalize sg g k = s at *
    grind
  · rw [e, tab0_hi, h.2 k hk]
    rfl
theorem duA_iff : DuA m n (T0 m n R g).r c y ↔ Du m n R c (fun k => sg g k * y k) := by
  have e : ∀ j, j < n → sm m (fun k => y k * (T0 m n R g).r k j) = sm m (fun k => sg g k * y k * R k j) := fun j hj =>
    sm_ext m fun k _ => by rw [tab0_lo hj]; show y k * (sg g k * R k j) = _; grind
  exact ⟨fun h j hj => by rw [← e j hj]; exact h j hj, fun h j hj => by rw [e j hj]; exact h j hj⟩
end
/-- a tuple of tuples of fractions -/
def FrMT (K : PySem.W.Frag) (H : Hp) (v : V) (m n : Nat) (R : Nat → Nat → Rat) : Prop := ∃ a ls, v = .ref a ∧ SqT K H a ls ∧ ls.length = m ∧ ∀ i u, ls[i]? = some u → FrA true K H u n (R i)
theorem FrMT.same {K : PySem.W.Frag} {H H' : Hp} {v : V} {m n : Nat} {R : Nat → Nat → Rat} (e : Same H H') (h : FrMT K H v m n R) : FrMT K H' v m n R := by
  obtain ⟨a, ls, h1, h2, h3, h4⟩ := h
  exact ⟨a, ls, h1, Same.sqT e h2, h3, fun i u hu => (h4 i u hu).same e⟩
def spSigns (K : PySem.W.Frag) : Sp := fun vs H Q _ => ∃ v m g, vs = [v] ∧ FrA true K H v m g ∧ m ≤ 10 ∧ ∀ H' a, Same H H' → FrL K H' a m (sg g) → Q (.ref a) H'
def spLed (K : PySem.W.Frag) : Sp := fun vs H Q _ => ∃ u v m n R g, vs = [u, v] ∧ FrMT K H u m n R ∧ FrA true K H v m g ∧ m ≤ 3 ∧ n ≤ 4 ∧ (∀ i, i < m → ∀ j, j < n → Sm 100 (R i j)) ∧ (∀ i, i < m → Sm 100 (g i)) ∧
  ∀ H' t la ga, Same H H' → H' t = some (.tup [.ref la, .ref ga]) → FrM K H' la m n (R0 R g) → FrL K H' ga m (g0 g) → Q (.ref t) H'
section
variable {P : Program} {w : World} {K : PySem.W.Frag} {mg : Str → Option Value} {base : Heap}
theorem scSigns : FnScope ["numbers", "number"] ["numbers"] (defScope sSigns) := ⟨rfl, rfl, rfl, by decide +kernel, rfl, by decide +kernel, by decide +kernel⟩
theorem ok_signs {f : Addr} {fd : FuncData} (F : Fun K "signs_of" "signs_of" sSigns f fd) {o : Addr} (mo : mg "ONE" = some (.ref o)) (fo : ∀ H, Fr K H (.ref o) 1) : FnOk P w K mg base CX0 1 f fd ["numbers"] (spSigns K) := by
  refine F.ok scSigns (fun vs H Q E h => ?_) (fun cdv A outer s H vs Q E hr h => ?_)
  · obtain ⟨v, m, g, rfl, _⟩ := h
    rfl
  · obtain ⟨v, m, g, rfl, ⟨a, ws, rfl, hS, hF⟩, hm, k⟩ := h
    refine ⟨_, pss_one (ps_ret (pe_lc (own := [("number", 1)]) (g := gName 1) (tt := tYes) rfl scSigns.nd (pi_tup (pv 0))
      (blkOk_by (N := ["numbers", "number"]) (sc := defScope sSigns) (by decide +kernel))
      (fun _ _ _ _ _ => pg_name (i := 1) scSigns.nd rfl (.inl rfl)) (fun _ _ _ _ _ => pts_nil)
      (fun _ _ _ _ _ => pe_ifExp (pt_cmpR op_lt (pe_ix (r := rIxT K) ix_tup (pv 1) pe_int (fun _ _ => rfl)) pe_int (nomark _)) (pe_tup (pa_cons (pe_un un_neg pe_int) (pa_cons pe_int pa_nil))) (pe_glob (v := V.ref o) (by rfl) mo rfl)))), ?_⟩
    refine ⟨_, rfl, a, rfl, ⟨_, hS⟩, fun D nD => lcF (K := K) (walk_tup (K := K) (a := a) (xs := ws)) (sg g) nD (by rw [hF.1]; omega) (fun H1 s1 => Same.sqT s1 hS) ?_ ?_⟩
    · rintro i x H1 H2 Q' hi s1 ⟨rfl, hx⟩ kk
      obtain ⟨b, rfl, hb⟩ := (hF.2 i _ hx).same s1
      refine ⟨rfl, ?_⟩
      refine ⟨_, rfl, b, _, _, _, rfl, rfl, hb, at0, _, _, rfl, rfl, _, rfl, ?_⟩
      by_cases hneg : g i < 0
      · rw [decide_eq_true (num_neg.mpr hneg)]
        refine iteT ⟨1, rfl, sz2, fun t nt => ?_⟩
        refine kk _ _ (Same.upd nt) ⟨t, rfl, SqT.of ?_⟩
        rw [upd_same]
        unfold sg
        rw [if_pos hneg]
        rfl
      · rw [decide_eq_false (fun z => hneg (num_neg.mp z))]
        refine iteF (kk _ _ (Same.refl _) ?_)
        unfold sg
        rw [if_neg hneg]
        exact fo _
    · rintro H1 acc s1 hD hf
      rw [hF.1] at hf
      exact k H1 D s1 ⟨acc, hD, hf⟩
abbrev nLed : List Str := ["rows", "numbers", "signs", "lines", "sign", "row", "one", "number"]
theorem scLed : FnScope nLed ["rows", "numbers"] (defScope sLed) := ⟨rfl, rfl, rfl, by decide +kernel, rfl, by decide +kernel, by decide +kernel⟩
theorem ok_led {f : Addr} {fd : FuncData} (F : Fun K "led_up" "led_up" sLed f fd) (DS : Df P w K mg base CX0 1 "signs_of" ["numbers"] (spSigns K)) (DT : Df P w K mg base CX0 3 "times" ["one", "other"] (spBin K (fun _ _ => True) fun p q => p * q)) (zZ : mg "zip" = none) :
    FnOk P w K mg base CX0 4 f fd ["rows", "numbers"] (spLed K) := by
  refine F.ok scLed (fun vs H Q E h => ?_) (fun cdv A outer s H vs Q E hr h => ?_)
  · obtain ⟨u, v, m, n, R, g, rfl, _⟩ := h
    rfl
  · obtain ⟨u, v, m, n, R, g, rfl, ⟨ra, ls, rfl, hS, hl, hrow⟩, ⟨na, ws, rfl, hN, hF⟩, hm, hn, zR, zg, k⟩ := h
    refine ⟨_, pss_cons (ps_set (i := 2) scLed.nd rfl (.inl rfl) (pe_callD DS hr (by decide) (by rfl) pass0 (pa_cons (pv 1) pa_nil)))
      (pss_cons (ps_setLc (own := [("sign", 4), ("row", 5)]) (i := 3) (g := gTup K 2 (gCons (gName 4) (gCons (gName 5) gNil))) (tt := tYes) rfl scLed.nd rfl rfl (sw_true rfl rfl rfl (by decide +kernel))
        (pi_zipM (by rfl) zZ (pa_cons (pv 2) (pa_cons (pv 0) pa_nil)))
        (blkOk_by (N := nLed) (sc := defScope sLed) (by decide +kernel))
        (fun _ _ _ _ _ => pg_tup rfl (pgs_cons (pg_name (i := 4) scLed.nd rfl (.inr rfl)) (pgs_cons (pg_name (i := 5) scLed.nd rfl (.inl rfl)) pgs_nil)))
        (fun _ _ _ _ _ => pts_nil)
        (fun _ _ _ _ _ => pe_lc (own := [("one", 6)]) (wi := iTup K (tVar 5)) (g := gName 6) (tt := tYes) (te := tCall (spBin K (fun _ _ => True) fun p q => p * q) [] E0 (tCons (tVar 4) (tCons (tVar 6) tNil))) rfl scLed.nd (pi_tup (pv 5))
          (blkOk_by (by rfl)) (fun _ _ _ _ _ => pg_name (i := 6) scLed.nd rfl (.inl rfl)) (fun _ _ _ _ _ => pts_nil)
          (fun _ _ _ _ _ => pe_callD DT hr (by decide) (by rfl) pass0 (pa_cons (pv 4) (pa_cons (pv 6) pa_nil)))))
      (pss_one (ps_ret (pe_tup (pa_cons (pv 3) (pa_cons
        (pe_lc (own := [("sign", 4), ("number", 7)]) (g := gTup K 2 (gCons (gName 4) (gCons (gName 7) gNil))) (tt := tYes) rfl scLed.nd
          (pi_zipM (by rfl) zZ (pa_cons (pv 2) (pa_cons (pv 1) pa_nil)))
          (blkOk_by (N := nLed) (sc := defScope sLed) (by decide +kernel))
          (fun _ _ _ _ _ => pg_tup rfl (pgs_cons (pg_name (i := 4) scLed.nd rfl (.inl rfl)) (pgs_cons (pg_name (i := 7) scLed.nd rfl (.inl rfl)) pgs_nil)))
          (fun _ _ _ _ _ => pts_nil)
          (fun _ _ _ _ _ => pe_callD DT hr (by decide) (by rfl) pass0 (pa_cons (pv 4) (pa_cons (pv 7) pa_nil)))) pa_nil)))))), ?_⟩
    refine ⟨_, rfl, _, m, g, rfl, ⟨na, ws, rfl, hN, hF⟩, by omega, fun H1 sa s1 fsg => ?_⟩
    obtain ⟨wsg, hsg, fwsg⟩ := id fsg
    refine ⟨_, rfl, _, rfl, false, true, sa, ra, wsg, ls, rfl, SqL.of hsg, Same.sqT s1 hS, fun D nD => lcR (walkM fwsg.1 hl) (fun i y Hh => ∃ ad, y = .ref ad ∧ ad ≠ D ∧ FrL K Hh ad n (R0 R g i)) (fun i y Ha Hb kp ⟨ad, e1, e2, e3⟩ => ⟨ad, e1, e2, kp.frL e2 e3⟩) nD (by omega)
      (fun H2 s2 => ⟨SqL.of (s2 _ _ hsg), Same.sqT (s1.trans s2) hS⟩) ?_ ?_⟩
    · rintro i x H2 H3 Q' hi s2 ⟨xs0, hD0⟩ ⟨t, y1, y2, rfl, nt, rfl, e1, e2⟩ kk
      have st := Same.upd (o := .tup [y1, y2]) nt
      have ht : (upd H2 t (.tup [y1, y2])) t = some (.tup [y1, y2]) := upd_same
      generalize upd H2 t (.tup [y1, y2]) = H3 at st ht
      have f1 := ((fwsg.2 i _ e1).same s2).same st
      obtain ⟨rb, wr, rfl, hwr, fwr⟩ := (((hrow i _ e2).same s1).same s2).same st
      refine ⟨t, _, rfl, SqT.of ht, rfl, _, _, rfl, _, _, rfl, rfl, rfl, ?_⟩
      refine ⟨_, rfl, rb, rfl, ⟨_, hwr⟩, fun D2 nD2 => lcF (K := K) (walk_tup (K := K) (a := rb) (xs := wr)) (R0 R g i) nD2 (by rw [fwr.1]; omega) (fun H4 s4 => Same.sqT s4 hwr) ?_ ?_⟩
      · rintro j x H4 H5 Q2 hj s4 ⟨rfl, hx⟩ kk2
        rw [fwr.1] at hj
        refine ⟨rfl, ?_⟩
        refine ⟨_, rfl, _, rfl, _, _, _, _, rfl, f1.same s4, (fwr.2 j _ hx).same s4, (sg_sz g i).mono (by decide), (zR i hi j hj).mono (by decide), True.intro, fun H6 r s6 fr => kk2 _ _ s6 fr⟩
      · rintro H4 acc s4 hD4 hf4
        rw [fwr.1] at hf4
        refine kk _ _ (st.trans s4) ⟨D2, rfl, fun z => ?_, acc, hD4, hf4⟩
        subst z
        rw [st _ _ hD0] at nD2
        cases nD2
    · rintro H2 acc s2 hD2 hlen hR2
      have hDf : FrM K H2 D m n (R0 R g) := ⟨acc, hD2, hlen, fun i v hv => let ⟨ad, e1, _, e3⟩ := hR2 i v hv; ⟨ad, e1, e3⟩⟩
      refine ⟨_, rfl, ?_⟩
      have s12 := s1.trans s2
      refine ⟨_, rfl, _, rfl, false, true, sa, na, wsg, ws, rfl, SqL.of (s2 _ _ hsg), Same.sqT s12 hN, fun D3 nD3 => lcF (K := K) (walkM fwsg.1 hF.1) (g0 g) nD3 (by omega) (fun H3 s3 => ⟨SqL.of (s3 _ _ (s2 _ _ hsg)), Same.sqT (s12.trans s3) hN⟩) ?_ ?_⟩
      · rintro i x H3 H4 Q' hi s3 ⟨t, y1, y2, rfl, nt, rfl, e1, e2⟩ kk
        have st := Same.upd (o := .tup [y1, y2]) nt
        have s4 := s3.trans st
        refine ⟨t, _, rfl, SqT.of upd_same, rfl, _, _, rfl, _, _, rfl, rfl, rfl, ?_⟩
        refine ⟨_, rfl, _, rfl, _, _, _, _, rfl, ((fwsg.2 i _ e1).same s2).same s4, ((hF.2 i _ e2).same s12).same s4, (sg_sz g i).mono (by decide), (zg i hi).mono (by decide), True.intro, fun H5 r s5 fr => kk _ _ (st.trans s5) fr⟩
      · rintro H3 acc3 s3 hD3 hf3
        refine ⟨sz2, fun t nt => ?_⟩
        have st := Same.upd (o := .tup [.ref D, .ref D3]) nt
        exact k _ t D D3 ((s12.trans s3).trans st) upd_same ((hDf.same s3).same st) ⟨acc3, st _ _ hD3, hf3.same st⟩
end
end K1
set_option Elab.async false
set_option linter.all false
set_option maxRecDepth 100000
namespace K1
open PySem L2 Kz Sx
/-! ### a class by its name -/
structure Dk (P : Program) (w : World) (K : PySem.W.Frag) (mg : Str → Option Value) (base : Heap) (C : Addr) (k : Nat) (x : Str) (ps : List Str) (sp : Sp) : Prop where
  ex : ∃ (f : Addr) (fd : FuncData), FnOk P w K mg base CX0 k f fd ps sp ∧ Mk K C f ∧ mg x = some (.ref C) ∧ Binds K fd ps []
theorem pe_makeD {X : Cx} {C : Addr} {k j : Nat} {x : Str} {ps : List Str} {sp : Sp} {e : Expr} {es : List Expr} {t : TA} {p pos : Pos} (D : Dk X.prog X.w X.K X.mg X.base C k x ps sp) (hr : Room j X.A) (hk : k + 1 ≤ j) (hg : Gl X x) (ha : PA X (e :: es) t) (hdb : (x == ("__debug__" : Str)) = false := by decide)
    (he : starEach (e :: es) X.env = (false, eval e X.env) :: starEach es X.env := by rfl) (hpl : (backTo pos (starEach es X.env)).any (·.1) = false := by rfl) : PE X (.Call (.Name x p) (e :: es) [] pos) (tMake C sp [] E0 t) := by
  obtain ⟨f, fd, F, M, hm, hb⟩ := D.ex
  exact pe_make M F (hr.mono hk) hg hm hb .nil pass0 ha hdb he hpl
theorem KpT.frT {K : PySem.W.Frag} {H H' : Hp} {p ba C dx : Addr} {fs : List (Str × V)} {bs : List V} {v : V} {k : Nat} {f : Nat → Rat} (e : KpT p ba H H') (hp : H p = some (.ins C dx fs)) (hb : H ba = some (.lst bs)) (h : FrA true K H v k f) : FrA true K H' v k f := by
  obtain ⟨a, vs, h1, h2, h3⟩ := h
  exact ⟨a, vs, h1, e.sqT hp hb h2, e.frS hp hb h3⟩
theorem sameK {H H3 H4 : Hp} {p ba : Addr} (s : Same H H3) (k : KpT p ba H3 H4) (n1 : H p = none) (n2 : H ba = none) : Same H H4 := fun b o e => k b o (s b o e) (ne_of_none e n1) (ne_of_none e n2)
theorem csz1 {m n : Nat} : CSz (n + m) (c1 m n) where
  sz := fun j _ => by unfold c1; split <;> (try split) <;> exact ⟨by decide, by decide⟩
  zr := c1_N
theorem ones {K : PySem.W.Frag} {H : Hp} {m n : Nat} {z o : Addr} (fz : Fr K H (.ref z) 0) (fo : Fr K H (.ref o) 1) : FrS K H (List.replicate n (V.ref z) ++ List.replicate m (V.ref o)) (n + m) (c1 m n) :=
  FrS.app (FrS.rep fz) (FrS.rep fo) (fun j hj => c1_lo hj) (fun j hj => c1_hi (by omega) (by omega))
theorem bd_sm {q : Rat} (h : Bd Bq (q * 24)) : Sm 100 q := by
  have := sz_of (X := Bq) (q := q) (p := q * 24) (d := 24) h ⟨24, by rfl, by decide⟩ (by grind) rfl
  exact ⟨Nat.lt_of_le_of_lt this.1 (by decide), Nat.lt_of_le_of_lt this.2 (by decide)⟩
/-- what is known of rows and numbers in the heap -/
structure Inp (K : PySem.W.Frag) (H : Hp) (u v : V) (m n : Nat) (R : Nat → Nat → Rat) (g : Nat → Rat) : Prop where
  rows : FrMT K H u m n R
  nums : FrA true K H v m g
  sml : Sml m n R g
/-- weights that bar: each column at most 0, the numbers above 0 -/
def BarR (m n : Nat) (R : Nat → Nat → Rat) (g y : Nat → Rat) : Prop := (∀ j, j < n → sm m (fun k => y k * R k j) ≤ 0) ∧ 0 < sm m (fun k => y k * g k)
theorem barA_iff {m n : Nat} {R : Nat → Nat → Rat} {g y : Nat → Rat} (h : BarA m n (T0 m n R g).r y) : BarR m n R g (fun k => sg g k * y k) := by
  refine ⟨fun j hj => ?_, ?_⟩
  · have e : sm m (fun k => y k * (T0 m n R g).r k j) = sm m (fun k => sg g k * y k * R k j) := sm_ext m fun k _ => by rw [tab0_lo hj]; show y k * (sg g k * R k j) = _; grind
    rw [← e]
    exact h.1 j hj
  · have e : sm m (fun k => y k * (T0 m n R g).r k (n + m)) = sm m (fun k => sg g k * y k * g k) := sm_ext m fun k _ => by rw [tab0_hi]; show y k * (sg g k * g k) = _; grind
    rw [← e]
    exact h.2
theorem sol_sz {m n j : Nat} {T : Tb} (S : TSz m n T) : Sm 400 (sol m (n + m) T j) := by
  have hm := S.hm
  refine (sm_Sm (s := 100) (k := m) (f := fun i => if T.b i = j then T.r i (n + m) else 0) fun i hi => ?_).mono ?_
  · by_cases e : T.b i = j
    · rw [if_pos e]; exact S.sz i hi _ (Nat.le_refl _)
    · rw [if_neg e]; exact ⟨by decide, by decide⟩
  · have : m * (100 + 1) ≤ 3 * 101 := Nat.mul_le_mul_right _ hm
    omega
def spFitted (K : PySem.W.Frag) : Sp := fun vs H Q _ => ∃ u v m n R g, vs = [u, v] ∧ Inp K H u v m n R g ∧
  (∀ H' t v y, Same H H' → H' t = some (.tup [.str "bar", v]) → FrA true K H' v m y → BarR m n R g y → (∀ k, k < m → Sm 1100 (y k)) → Q (.ref t) H') ∧
  (∀ H' t v x, Same H H' → H' t = some (.tup [.str "x", v]) → FrA true K H' v n x → Fe m n R g x → (∀ j, j < n → Sm 400 (x j)) → Q (.ref t) H')
theorem fac_sz {m n k : Nat} {c : Nat → Rat} {T : Tb} (S : TSz m n T) (Z : CSz (n + m) c) (hk : k < m) : Sm 1000 (fac m n c T k) := by
  have e : c (n + k) - line m c T (n + k) = fac m n c T k := by unfold line fac; grind
  rw [← e]
  exact ((Z.sz _ (by omega)).sub (line_sz S Z (by omega))).mono (by decide)
theorem Inp.same {K : PySem.W.Frag} {H H' : Hp} {u v : V} {m n : Nat} {R : Nat → Nat → Rat} {g : Nat → Rat} (e : Same H H') (h : Inp K H u v m n R g) : Inp K H' u v m n R g := ⟨h.rows.same e, h.nums.same e, h.sml⟩
section
variable {P : Program} {w : World} {K : PySem.W.Frag} {mg : Str → Option Value} {base : Heap}
abbrev nFit : List Str := ["rows", "numbers", "lines", "goals", "turns", "first", "sign", "one"]
theorem scFitted : FnScope nFit ["rows", "numbers"] (defScope sFitted) := ⟨rfl, rfl, rfl, by decide +kernel, rfl, by decide +kernel, by decide +kernel⟩
theorem ok_fitted {f C : Addr} {fd : FuncData} (F : Fun K "fitted" "fitted" sFitted f fd) (T : Tx K C) (DU : Df P w K mg base CX0 4 "led_up" ["rows", "numbers"] (spLed K)) (DK : Dk P w K mg base C 1 "Turns" ["self", "rows", "numbers"] (spTInit K C))
    (DI : Dm P w K mg base C 5 "improve" ["self", "costs", "most"] (spImprove K C)) (DL : Dm P w K mg base C 4 "left" ["self", "costs"] (spLeft K C)) (DA : Dm P w K mg base C 1 "amounts" ["self"] (spAmounts K C)) (DF : Dm P w K mg base C 5 "factors" ["self", "costs"] (spFactors K C))
    (DS : Df P w K mg base CX0 1 "signs_of" ["numbers"] (spSigns K)) (DT : Df P w K mg base CX0 3 "times" ["one", "other"] (spBin K (fun _ _ => True) fun p q => p * q))
    {z o : Addr} (mz : mg "ZERO" = some (.ref z)) (fz : ∀ H, Fr K H (.ref z) 0) (mo : mg "ONE" = some (.ref o)) (fo : ∀ H, Fr K H (.ref o) 1) (zN : mg "len" = none) (zZ : mg "zip" = none) (zT : mg "tuple" = none) :
    FnOk P w K mg base CX0 6 f fd ["rows", "numbers"] (spFitted K) := by
  refine F.ok scFitted (fun vs H Q E h => ?_) (fun cdv A outer s H vs Q E hr h => ?_)
  · obtain ⟨u, v, m, n, R, g, rfl, _⟩ := h
    rfl
  · obtain ⟨u, v, m, n, R, g, rfl, ⟨hR, hN, S⟩, kb, kx⟩ := h
    refine ⟨_, pss_cons (ps_if (pt_cmpR op_eq (pe_callB call_len_seq (by rfl) zN PySem.boot_len (pa_cons (pv 0) pa_nil)) pe_int (nomark _)) pss_never pss_nil)
      (pss_cons (ps_asg (pe_callD DU hr (by decide) (by rfl) pass0 (pa_cons (pv 0) (pa_cons (pv 1) pa_nil))) (pg_tup rfl (pgs_cons (pg_name (i := 2) scFitted.nd rfl (.inl rfl)) (pgs_cons (pg_name (i := 3) scFitted.nd rfl (.inl rfl)) pgs_nil))))
      (pss_cons (ps_set (i := 4) scFitted.nd rfl (.inl rfl) (pe_makeD DK hr (by decide) (by rfl) (pa_cons (pv 2) (pa_cons (pv 3) pa_nil))))
      (pss_cons (ps_set (i := 5) scFitted.nd rfl (.inl rfl) (pe_op op_cat (pe_op op_rep (pe_lst (pa_cons (pe_glob (v := V.ref z) (by rfl) mz rfl) pa_nil)) (pe_fld (pv 4) rfl)) (pe_op op_rep (pe_lst (pa_cons (pe_glob (v := V.ref o) (by rfl) mo rfl) pa_nil)) (pe_fld (pv 4) rfl))))
      (pss_cons (ps_expr (pe_methD DI T.cl hr (by decide) (pv 4) (pa_cons (pv 5) (pa_cons (pe_op op_add (pe_fld (pv 4) rfl) (pe_fld (pv 4) rfl)) pa_nil))))
      (pss_cons (ps_if (pt_cmpR op_ne (pe_ix (r := rIxT K) ix_tup (pe_ix (r := rIxL K) ix_list (pe_methD DL T.cl hr (by decide) (pv 4) (pa_cons (pv 5) pa_nil)) (pe_un un_neg pe_int) (fun _ _ => rfl)) pe_int (fun _ _ => rfl)) pe_int (nomark _))
        (pss_one (ps_ret (pe_tup (pa_cons pe_str (pa_cons (pe_callTy call_tuple_of (by rfl) zT PyProof.Rows.boot_tuple (pa_cons
          (pe_lc (own := [("sign", 6), ("one", 7)]) (g := gTup K 2 (gCons (gName 6) (gCons (gName 7) gNil))) (tt := tYes) rfl scFitted.nd
            (pi_zipM (by rfl) zZ (pa_cons (pe_callD DS hr (by decide) (by rfl) pass0 (pa_cons (pv 1) pa_nil)) (pa_cons (pe_methD DF T.cl hr (by decide) (pv 4) (pa_cons (pv 5) pa_nil)) pa_nil)))
            (blkOk_by (N := nFit) (sc := defScope sFitted) (by decide +kernel))
            (fun _ _ _ _ _ => pg_tup rfl (pgs_cons (pg_name (i := 6) scFitted.nd rfl (.inl rfl)) (pgs_cons (pg_name (i := 7) scFitted.nd rfl (.inl rfl)) pgs_nil)))
            (fun _ _ _ _ _ => pts_nil)
            (fun _ _ _ _ _ => pe_callD DT hr (by decide) (by rfl) pass0 (pa_cons (pv 6) (pa_cons (pv 7) pa_nil)))) pa_nil)) pa_nil))))) pss_nil)
      (pss_one (ps_ret (pe_tup (pa_cons pe_str (pa_cons (pe_methD0 DA T.cl hr (by decide) (pv 4)) pa_nil)))))))))), ?_⟩
    obtain ⟨ra, ls, rfl, hra, hll, hrow⟩ := id hR
    have hm3 : m ≤ 3 := by rcases S.hm with e | e | e <;> omega
    have hm0 : 0 < m := by rcases S.hm with e | e | e <;> omega
    have hn := S.hn
    refine ⟨_, rfl, ra, ls, rfl, .inr hra, rfl, _, rfl, ?_⟩
    rw [decide_eq_false (fun z => by have := V.int.inj z; omega)]
    refine iteF ?_
    refine ⟨_, rfl, _, rfl, _, _, m, n, R, g, rfl, hR, hN, hm3, hn, fun i hi j hj => bd_sm (S.bR i hi j hj), fun i hi => bd_sm (S.bg i hi), fun H1 t la ga s1 ht hla hga => ?_⟩
    refine ⟨t, _, rfl, SqT.of ht, rfl, _, _, rfl, _, _, rfl, rfl, ?_⟩
    refine ⟨_, rfl, _, rfl, fun p dx np ndx nex => ?_⟩
    have smk : Same H1 (upd (upd H1 dx (.own p)) p (.ins C dx [])) := (Same.upd ndx).trans (Same.upd (by rw [upd_ne (Ne.symm nex)]; exact np))
    refine ⟨p, dx, la, ga, m, n, R0 R g, g0 g, rfl, upd_same, hla.same smk, hga.same smk, hm0, hm3, hn, fun H2 ba kp nba hT => ⟨rfl, ?_⟩⟩
    have s12 : Same H1 H2 := Same.made np ndx kp
    have s2 := s1.trans s12
    have npH : H p = none := s1.free np
    have nbH : H ba = none := s1.free (smk.free nba)
    obtain ⟨⟨dx2, ra2, rs2, hp2, _, _, _⟩, hba2⟩ := id hT
    refine ⟨(by decide : (1 : Nat) ≤ sizeLine), fun l1 nl1 => ?_⟩
    have t1 := Same.upd (o := .lst [.ref z]) nl1
    have e1 : (upd H2 l1 (.lst [.ref z])) l1 = some (.lst [.ref z]) := upd_same
    generalize upd H2 l1 (.lst [.ref z]) = H3 at t1 e1
    refine ⟨_, rfl, p, C, dx2, _, _, rfl, t1 _ _ hp2, T.cl, T.nM, tf_many, l1, (n : Int), [.ref z], rfl, rfl, e1, by omega, by omega, (by rw [Int.toNat_natCast]; exact Nat.le_of_lt (small1000 (by show 1 * n ≤ 1000; omega))), fun q1 nq1 => ?_⟩
    rw [Int.toNat_natCast, rep1]
    have t2 := Same.upd (o := .lst (List.replicate n (V.ref z))) nq1
    have e2 : (upd H3 q1 (.lst (List.replicate n (V.ref z)))) q1 = some (.lst (List.replicate n (V.ref z))) := upd_same
    generalize upd H3 q1 (.lst (List.replicate n (V.ref z))) = H4 at t2 e2
    refine ⟨(by decide : (1 : Nat) ≤ sizeLine), fun l2 nl2 => ?_⟩
    have t3 := Same.upd (o := .lst [.ref o]) nl2
    have e3 : (upd H4 l2 (.lst [.ref o])) l2 = some (.lst [.ref o]) := upd_same
    generalize upd H4 l2 (.lst [.ref o]) = H5 at t3 e3
    refine ⟨_, rfl, p, C, dx2, _, _, rfl, ((t1.trans t2).trans t3) _ _ hp2, T.cl, T.nH, tf_high, l2, (m : Int), [.ref o], rfl, rfl, e3, by omega, by omega, (by rw [Int.toNat_natCast]; exact Nat.le_of_lt (small1000 (by show 1 * m ≤ 1000; omega))), fun q2 nq2 => ?_⟩
    rw [Int.toNat_natCast, rep1]
    have t4 := Same.upd (o := .lst (List.replicate m (V.ref o))) nq2
    have e4 : (upd H5 q2 (.lst (List.replicate m (V.ref o)))) q2 = some (.lst (List.replicate m (V.ref o))) := upd_same
    generalize upd H5 q2 (.lst (List.replicate m (V.ref o))) = H6 at t4 e4
    refine ⟨q1, q2, _, _, rfl, rfl, t4 _ _ (t3 _ _ e2), e4, Nat.le_of_lt (small1000 (by rw [List.length_replicate, List.length_replicate]; omega)), fun fa nfa => ?_⟩
    have t5 := Same.upd (o := .lst (List.replicate n (V.ref z) ++ List.replicate m (V.ref o))) nfa
    have e5 : (upd H6 fa (.lst (List.replicate n (V.ref z) ++ List.replicate m (V.ref o)))) fa = some (.lst (List.replicate n (V.ref z) ++ List.replicate m (V.ref o))) := upd_same
    generalize upd H6 fa (.lst (List.replicate n (V.ref z) ++ List.replicate m (V.ref o))) = H7 at t5 e5
    have t26 := ((t1.trans t2).trans t3).trans t4
    have t27 := t26.trans t5
    have hT7 := hT.same t27
    have hfa : FrL K H7 fa (n + m) (c1 m n) := ⟨_, e5, ones (fz _) (fo _)⟩
    have nfb : fa ≠ ba := fun y => by
      subst y
      rw [t26 _ _ hba2] at nfa
      cases nfa
    have hp7 := t27 _ _ hp2
    have hba7 := t27 _ _ hba2
    have s7 := s2.trans t27
    refine ⟨_, rfl, p, dx2, _, rfl, hp7, tf_no (by decide +kernel) (by decide +kernel) (by decide +kernel) (by decide +kernel), _, rfl, _, rfl, p, C, dx2, _, _, rfl, hp7, T.cl, T.nM, tf_many, _, rfl, p, C, dx2, _, _, rfl, hp7, T.cl, T.nH, tf_high, _, _, rfl, rfl,
      p, ba, m, n, T0 m n R g, (T0 m n R g).r, fa, c1 m n, n + m, (by rw [Int.natCast_add]; rfl), hT7, gd0 S, hfa, nfb, csz1, Nat.le_refl _, fun H8 T' kp8 hT8 G8 _ hall => ?_, fun H8 T' _ _ _ _ ⟨q, _, h1, h2⟩ => (first_ends h1 h2).elim⟩
    have s8 := sameK s7 kp8 npH nbH
    have hfa8 := kp8.frL hp7 hba7 nfb hfa
    obtain ⟨⟨dx8, ra8, rs8, hp8, _, _, _⟩, hba8⟩ := id hT8
    refine ⟨_, rfl, p, dx8, _, rfl, hp8, tf_no (by decide +kernel) (by decide +kernel) (by decide +kernel) (by decide +kernel), _, rfl, p, ba, m, n, T', _, c1 m n, rfl, hT8, G8.tsz, hfa8.toA, csz1, fun H9 la9 s89 fl9 => ?_⟩
    obtain ⟨wl, hwl, fwl⟩ := id fl9
    obtain ⟨vN, evN, ⟨aN, rfl, haN⟩⟩ := at_last fwl
    have s9 := s8.trans s89
    refine ⟨1, rfl, la9, wl, _, _, rfl, rfl, SqL.of hwl, evN, aN, _, _, _, rfl, rfl, haN, at0, rfl, _, rfl, ?_⟩
    have hp9 := s89 _ _ hp8
    by_cases h0 : line m (c1 m n) T' (n + m) = 0
    · rw [show decide (V.int (line m (c1 m n) T' (n + m)).num = V.int 0) = true from decide_eq_true (by rw [h0]; rfl)]
      refine iteF ?_
      refine ⟨_, rfl, p, dx8, _, rfl, hp9, tf_no (by decide +kernel) (by decide +kernel) (by decide +kernel) (by decide +kernel), p, ba, m, n, T', rfl, hT8.same s89, hm3, hn, fun i k hi hk e => G8.val.inj hi hk e, fun Ha r sa fr => ?_⟩
      refine ⟨sz2, fun tt ntt => ?_⟩
      exact kx _ tt r _ ((s9.trans sa).trans (Same.upd ntt)) upd_same (fr.same (Same.upd ntt)) (feA_iff.mp (G8.val.fe G8.nn (first_x G8.val G8.nn h0))) fun j _ => sol_sz G8.tsz
    · rw [show decide (V.int (line m (c1 m n) T' (n + m)).num = V.int 0) = false from decide_eq_false (fun y => h0 (Rat.num_eq_zero.mp (V.int.inj y)))]
      refine iteT ?_
      refine ⟨_, rfl, _, m, g, rfl, hN.same s9, by omega, fun Ha sa sHa fsa => ?_⟩
      have hpa := sHa _ _ hp9
      refine ⟨_, rfl, p, dx8, _, rfl, hpa, tf_no (by decide +kernel) (by decide +kernel) (by decide +kernel) (by decide +kernel), _, rfl, p, ba, m, n, T', fa, c1 m n, rfl, (hT8.same s89).same sHa, G8.tsz, (hfa8.same s89).same sHa, csz1, fun Hb r sHb fr => ?_⟩
      obtain ⟨wsg, hsg, fwsg⟩ := fsa.same sHb
      obtain ⟨ya, wy, rfl, hy, fwy⟩ := fr
      refine ⟨false, true, sa, ya, wsg, wy, rfl, SqL.of hsg, hy, fun D nD => lcF (K := K) (walkM fwsg.1 fwy.1) (fun k => sg g k * fac m n (c1 m n) T' k) nD (by omega) (fun Hc sc => ⟨SqL.of (sc _ _ hsg), Same.sqT sc hy⟩) ?_ ?_⟩
      · rintro i x Hc Hd Q' hi sc ⟨tt, y1, y2, rfl, nt, rfl, g1, g2⟩ kk
        have st := Same.upd (o := .tup [y1, y2]) nt
        refine ⟨tt, _, rfl, SqT.of upd_same, rfl, _, _, rfl, _, _, rfl, rfl, rfl, ?_⟩
        refine ⟨_, rfl, _, rfl, _, _, _, _, rfl, ((fwsg.2 i _ g1).same sc).same st, ((fwy.2 i _ g2).same sc).same st, (sg_sz g i).mono (by decide), (fac_sz G8.tsz csz1 hi).mono (by decide), True.intro, fun He r se fr => kk _ _ (st.trans se) fr⟩
      · rintro Hc acc sc hD hf
        refine ⟨D, acc, rfl, .inl ⟨SqL.of hD, fun l nl => ?_⟩⟩
        refine ⟨sz2, fun tt ntt => ?_⟩
        have st := Same.upd (o := .tup [.str "bar", .ref l]) ntt
        exact kb _ tt (.ref l) _ (((((s9.trans sHa).trans sHb).trans sc).trans (Same.upd nl)).trans st) upd_same ⟨l, acc, rfl, SqT.of (st _ _ upd_same), (hf.same (Same.upd nl)).same st⟩ (barA_iff (first_told G8.val G8.nn hall h0)) fun k hk => ((sg_sz g k).mul (fac_sz G8.tsz csz1 hk)).mono (by decide)
end
end K1
set_option Elab.async false
set_option linter.all false
set_option maxRecDepth 100000
/-! an own exception below an own exception, each __init__ saying super().__init__(..) -/
namespace KX
open PySem PySem.W PySem.Spec PyProof.Rows L2
/-- the context of a def that closes over __class__ -/
def cxS (CX : CXT) (P : Program) (w : World) (K : PySem.W.Frag) (mg : Str → Option Value) (base : Heap) (N : List Str) (qual : Str) (scope : Scope) (f : Addr) (cd : Value) (cc : Addr) (A : Around) (outer : List Env) (s : Shared) (H : Hp) (E : XK) : Cx :=
  { prog := P, w := w, K := K, mg := mg, base := base, A := A.deeper (ksEnv qual scope s.heap.objs.size f cd cc), N := N, s_0 := s, H_0 := H, env := ksEnv qual scope s.heap.objs.size f cd cc, outer := outer,
    stack := ksEnv qual scope s.heap.objs.size f cd cc :: outer, ex := [], calm := true, fn := fun _ => false, pn := [],
    xe := fun e s' => wpAny (model P w) (A.deeper (ksEnv qual scope s.heap.objs.size f cd cc)) (leaving (ksEnv qual scope s.heap.objs.size f cd cc) e) (fun _ t => CX outer H s E e t) (fun x t => CX outer H s E x t) s' }
/-- how its names stand -/
structure ScS (N ps : List Str) (sc : Scope) : Prop where
  kind : sc.kind = .function
  co : sc.isCoroutine = false
  gen : sc.isGenerator = false
  par : ∀ x ∈ ps, sc.names.lookup x = some .local
  nocell : ∀ y ∈ sc.names, y.2 ≠ .cell
  only : ∀ x, sc.names.lookup x = some .free → x = "__class__"
  pre : N = ps
section
variable {CX : CXT} {P : Program} {w : World} {K : PySem.W.Frag} {mg : Str → Option Value} {base : Heap} {N ps : List Str} {qual : Str} {scope : Scope} {f cc : Addr} {cd : Value} {A : Around} {outer : List Env} {s : Shared} {H : Hp} {E : XK}
theorem cls_look {cc : Addr} {x : Str} {c : Addr} (h : ([("__class__", cc)] : List (Str × Addr)).lookup x = some c) : x = "__class__" ∧ c = cc := by
  by_cases e : (x == ("__class__" : Str)) = true
  · simp only [List.lookup, e, Option.some.injEq] at h
    exact ⟨eq_of_beq e, h.symm⟩
  · have e' : (x == ("__class__" : Str)) = false := by simpa using e
    simp [List.lookup, e'] at h
theorem nocell_lookup {names : List (Str × NameKind)} (h : ∀ y ∈ names, y.2 ≠ .cell) (x : Str) : names.lookup x ≠ some .cell := fun e => h _ (PySem.mem_of_lookup e) rfl
theorem inv_startS {us : List Value} {vs : List V} {h0 : Heap} {tk : Nat} {D : Addr} {co : Value} {cdd : Option Addr} {csl : Array (Option Value)} (S : ScS N ps scope) (hd : A.handled = none) (e0 : Env0 P w K mg base A outer s H) (hl : vs.length = ps.length) (r : Vals vs us)
    (hns : h0.Ns s.heap.objs.size (fun x => (ps.zip us).reverse.lookup x)) (hk : ∀ b o, s.heap.get? b = some o → h0.get? b = some o)
    (hlk : ∀ (i : Nat) (x : Str) (u : Value), ps[i]? = some x → us[i]? = some u → (ps.zip us).reverse.lookup x = some u) (hc : K.lookup cc = some ⟨co, cdd, .cell (some (.ref D)), csl⟩) :
    Inv (cxS CX P w K mg base N qual scope f cd cc A outer s H E) [] (L2.start N vs) H { s with heap := h0, toks := tk } := by
  have hcb : base.get? cc = some ⟨co, cdd, .cell (some (.ref D)), csl⟩ := e0.mod.kin _ _ hc
  have nil : ∀ b : Addr, b ∉ (cxS CX P w K mg base N qual scope f cd cc A outer s H E).ex := fun b z => by cases z
  refine ⟨{
    mod := e0.mod
    kind := S.kind
    glob := rfl
    blt := rfl
    above := Nat.le_refl _
    inj := fun x y c h1 h2 => (cls_look h1).1.trans (cls_look h2).1.symm
    has := fun x hx => by
      rcases hx with hx | hx
      · exact absurd hx (nocell_lookup S.nocell x)
      · rw [S.only x hx]
        exact ⟨cc, rfl⟩
    cab := fun x c z => Bool.noConfusion z
    hd := fun _ => hd
    frames := Around.frames_deeper e0.frames
    stk := .inr ⟨rfl, rfl⟩
    exf := fun b z => absurd z (nil b)
    bs := e0.bs
    bsz := e0.bsz
    noex := fun b o _ => nil b
    exfs := fun b z => absurd z (nil b)
    funs := e0.funs
    frf := e0.frf }, rfl, e0.bare, Un.kept hk, ⟨_, hns, fun i x v h1 h2 _ => ?_⟩, fun x c h => ?_, e0.hok.fresh (Nat.le_refl _), fun x c h => ?_, fun p hp => absurd (show p ∈ ([] : List (Addr × Obj)) from hp) (List.not_mem_nil), e0.hok.kept hk, ?_⟩
  · have h2 : (L2.start N vs)[i]? = some (some v) := h2
    unfold L2.start at h2
    have hNl : N.length = vs.length := by rw [S.pre, hl]
    rw [show N.length - vs.length = 0 by omega, List.replicate_zero, List.append_nil, List.getElem?_map] at h2
    cases e : vs[i]? with
    | none => rw [e] at h2; cases h2
    | some v' =>
      rw [e] at h2
      obtain rfl : v' = v := Option.some.inj (Option.some.inj h2)
      obtain ⟨u, hu, ru⟩ := r.get e
      have h1 : N[i]? = some x := h1
      rw [S.pre] at h1
      exact ⟨u, ru, .inl ⟨S.par x (List.mem_of_getElem? h1), hlk i x u h1 hu⟩⟩
  · obtain ⟨_, rfl⟩ := cls_look h
    exact ⟨_, _, hk _ _ (e0.bs _ _ hcb).1, rfl⟩
  · obtain ⟨_, rfl⟩ := cls_look h
    exact (e0.bs _ _ hcb).2
  · show (L2.start N vs).length = N.length
    unfold L2.start
    rw [List.length_append, List.length_map, List.length_replicate, S.pre]
    omega
end
/-- a def of the text that closes over __class__, by its body -/
theorem fn_ofS {CX : CXT} {P : Program} {w : World} {K : PySem.W.Frag} {mg : Str → Option Value} {base : Heap} {k : Nat} {f cc D : Addr} {name qual : Str} {params : Arguments} {body : List Stmt} {scope : Scope} {dV kV doc pm cdv ct oc co : Value} {an od cdd : Option Addr} {osl csl : Array (Option Value)}
    {N ps : List Str} {sp : Sp} (lk : K.lookup f = some ⟨oc, od, .func (ksFn name qual params body scope dV kV doc pm an cdv ct cc), osl⟩) (hcd : codeIn K cdv qual = true) (hc : K.lookup cc = some ⟨co, cdd, .cell (some (.ref D)), csl⟩) (S : ScS N ps scope)
    (hlk : ∀ us : List Value, us.length = ps.length → ∀ (i : Nat) (x : Str) (u : Value), ps[i]? = some x → us[i]? = some u → (ps.zip us).reverse.lookup x = some u) (len : ∀ vs H Q E, sp vs H Q E → vs.length = ps.length)
    (hbody : ∀ (A : Around) (outer : List Env) (s s1 : Shared) (H : Hp) (vs : List V) (Q : VK) (E : XK), Room k (A.deeper (ksEnv qual scope s.heap.objs.size f cdv cc)) → sp vs H Q E → Inv (cxS CX P w K mg base N qual scope f cdv cc A outer s H E) [] (L2.start N vs) H s1 →
      PySem.wpAt (model P w) (A.deeper (ksEnv qual scope s.heap.objs.size f cdv cc)) (.func body (ksEnv qual scope s.heap.objs.size f cdv cc)) (execs body (ksEnv qual scope s.heap.objs.size f cdv cc))
        (SP (cxS CX P w K mg base N qual scope f cdv cc A outer s H E) [] { nx := fun _ H' => Q .non H', rt := Q }) (cxS CX P w K mg base N qual scope f cdv cc A outer s H E).xe s1) :
    FnOk P w K mg base CX (k + 1) f (ksFn name qual params body scope dV kV doc pm an cdv ct cc) ps sp := by
  refine ⟨len, fun A outer s H args us vs Q E hr e0 hb r hsp => ?_⟩
  have hl := len _ _ _ _ hsp
  have hul : us.length = ps.length := by rw [← hl, r.length]
  have up : ∀ b o, base.get? b = some o → s.heap.get? b = some o := fun b o e => (e0.bs b o e).1
  have KX := e0.mod.kin.keeps up
  refine ks_codeAny_call_defAt (fd := ksFn name qual params body scope dV kV doc pm an cdv ct cc) (body := body) hr.depth (KX _ _ lk) rfl (e0.mod.nolimit.keeps up) (codeRec_of KX hcd) rfl hb (fun y hy => S.nocell y hy)
    (fun y hy => S.par y.1 (List.of_mem_zip hy).1) (fun h0 hns hk => ?_) S.co S.gen S.kind
  have I := inv_startS (CX := CX) (qual := qual) (f := f) (cd := cdv) (E := E) (tk := s.toks + (ps.zip us).length) S hr.hd e0 hl r hns hk (hlk us hul) hc
  refine ks_wpAt_mono (hbody A outer s _ H vs Q E (hr.deeper _) hsp I) (fun fl s' hs => ?_) fun e s' hs => hs
  have fin : ∀ {σ' : L2.St} {H' : Hp} {v : V} {u : Value}, Inv (cxS CX P w K mg base N qual scope f cdv cc A outer s H E) [] σ' H' s' → RelV v u → Q v H' → CE outer P w H s Q u s' :=
    fun {σ' H' v u} J rv q => ⟨v, H', J.os, J.bare, J.base, J.hok, rv, q⟩
  cases fl with
  | next =>
    obtain ⟨σ', H', J, q⟩ := hs
    exact fin (v := V.non) (u := Value.none) J rfl q
  | ret u =>
    obtain ⟨v, σ', H', J, rv, q⟩ := hs
    exact fin J rv q
  | brk => obtain ⟨_, _, _, q⟩ := hs; exact q.elim
  | cont => obtain ⟨_, _, _, q⟩ := hs; exact q.elim
/-! ### super() in such a def -/
/-- what the text and the written part say of a def of the class at D, made for objects of the class at C -/
structure Sup (X : Cx) (f cc D C : Addr) (sf : Str) : Prop where
  sup : X.env.kindOf "super" = some .globalImplicit
  cls : X.env.kindOf "__class__" = some .free
  cel : X.env.cells.lookup ("__class__" : Str) = some cc
  fu : X.env.func = some f
  fk : ∃ (oc : Value) (od : Option Addr) (fd : FuncData) (osl : Array (Option Value)) (ar : Arg), X.K.lookup f = some ⟨oc, od, .func fd, osl⟩ ∧ (fd.params.posonlyargs ++ fd.params.args).head? = some ar ∧ ar.arg = sf
  co : ∃ (cda : Addr) (ccl : Value) (cdd : Option Addr) (vs : Array Value) (ccs : Array (Option Value)) (file : Str) (tf : Tok), X.env.code = .ref cda ∧ X.K.lookup cda = some ⟨ccl, cdd, .fields vs, ccs⟩ ∧ vs[2]? = some (.str file tf) ∧ ((X.prog.main.file : Str) == file) = true
  ck : ∃ (cl : Value) (cld : Option Addr) (csl : Array (Option Value)), X.K.lookup cc = some ⟨cl, cld, .cell (some (.ref D)), csl⟩
  dk : ∃ cdD, clsIn X.K D = some cdD
  sub : mroIn X.K C (.ref D) = some true
  ms : X.mg "super" = none
  tp : (X.prog.main.scope.names.lookup ("super" : Str)).isSome = false
  n0 : X.N[0]? = some sf
  l0 : X.env.scope.names.lookup sf = some .local
section
variable {X : Cx} {pins : List (Addr × Obj)} {σ : L2.St} {H : Hp} {s : Shared} {f cc D C x : Addr} {sf : Str}
theorem ld_super {E : Value → Shared → Prop} {Q : Value → Shared → Prop} (I : Inv X pins σ H s) (hg : X.env.kindOf "super" = some .globalImplicit) (hm : X.mg "super" = none) (h : Q (.type "super") s) : wpAny (model X.prog X.w) X.A (loadName X.env "super") Q E s := by
  obtain ⟨mb, b1, b2⟩ := I.mod.blt
  exact ks_loadName_global I.ok.kind hg (Calls.loadGlobal_builtin (by rw [I.ok.glob]; exact I.mod.glob.keeps I.bk) hm (by rw [I.ok.blt]; exact b1.keeps I.bk) ((b2 _ (by decide +kernel)).trans Boot.«super») h)
theorem super_at {body : List Stmt} {attr : Str} {p0 p1 : Pos} {whole : Sem Value} (T : Sup X f cc D C sf) (I : Inv X pins σ H s) (h0 : σ[0]? = some (some (.ref x))) (hx : H x = some (exo x C none)) (hat : (attr == ("__class__" : Str)) = false) :
    PySem.wpAt (model X.prog X.w) X.A (.func body X.env) (attributeBase (.Call (.Name "super" p0) [] [] p1) attr X.env whole)
      (fun v s' => ∃ so, v = .ref so ∧ Inv X pins σ H s' ∧ s'.heap.get? so = some (ks_superObj D x C)) X.xe s := by
  obtain ⟨oc, od, fd, osl, ar, fk, hp, har⟩ := T.fk
  obtain ⟨cda, ccl, cdd, vs, ccs, file, tf, hco, hcda, hvs, hfile⟩ := T.co
  obtain ⟨cl, cld, csl, hcc⟩ := T.ck
  obtain ⟨cdD, hD⟩ := T.dk
  have KI := I.kIn
  obtain ⟨t1, ho⟩ := exo_at I.hok hx
  obtain ⟨oD, hD1, hD2⟩ : ∃ oD, s.heap.get? D = some oD ∧ oD.data = .cls cdD := by
    unfold clsIn at hD
    split at hD
    · rename_i c d cd' sl ho
      cases hD
      exact ⟨_, KI _ _ ho, rfl⟩
    · cases hD
  refine ks_wpAt_super_base T.sup T.cls hat T.fu (KI _ _ fk) rfl hp hco (KI _ _ hcda) rfl hvs hfile T.tp ?_
  refine ld_super I T.sup T.ms ⟨rfl, wpAny_loadName_free I.ok.kind T.cls T.cel ⟨_, KI _ _ hcc, rfl⟩ ?_⟩
  obtain ⟨m, hn, hl⟩ := I.loc
  obtain ⟨u, ru, lk⟩ := hl 0 sf (.ref x) T.n0 h0 (.inl T.l0)
  obtain rfl : u = Value.ref x := ru
  have lk' : m ar.arg = some (.ref x) := by
    rw [har]
    rcases lk with ⟨_, z⟩ | ⟨z, _⟩
    · exact z
    · have hz : X.env.scope.names.lookup sf = some .cell ∨ X.env.scope.names.lookup sf = some .free := z
      rw [T.l0] at hz
      rcases hz with hz | hz <;> cases hz
  refine wpAny_loadName_local I.ok.kind (by show X.env.scope.names.lookup ar.arg = _; rw [har]; exact T.l0) hn lk' ?_
  obtain ⟨hh, g, d, t, os⟩ := s
  refine ks_wpAny_isType_cls hD1 hD2 ⟨rfl, ks_wpAny_call_super hD1 hD2 ho rfl (fun c z => by cases z) (looks_mroIn KI T.sub) fun h' e k => ?_⟩
  exact ⟨_, rfl, I.kept (t' := t) k, e⟩
/-- the built-in __init__, bound to the object, called -/
theorem call_mw {A : Around} {E : Value → Shared → Prop} {u : Addr} {us : List Value} {Q : Value → Shared → Prop} (T : OexC X.K C) (I : Inv X pins σ H s) (hx : H x = some (exo x C none)) (hu : s.heap.get? u = some (kxs_mw "ValueError.__init__" x)) (hl : us.length ≤ sizeLine)
    (h : ∀ s', Inv X pins σ H s' → Q .none s') : wpAny (model X.prog X.w) A (call (.ref u) us) Q E s := by
  obtain ⟨nm, q, N, bs, bm, sn, sub, ab, col, dd, k0, k1, k2, k3, k5, hC, hbm⟩ := T.cls
  obtain ⟨t1, ho⟩ := exo_at I.hok hx
  have hC' := I.kIn _ _ hC
  obtain ⟨hh, g, d, tk, os⟩ := s
  refine wpAny_call (codeAny_of_tree (show wpAny _ A.in1 (callAny (.ref u) ⟨us, []⟩) _ _ _ from ?_))
  simp only [callAny]
  refine wpAny_bind (wpAny_load hu ?_)
  have z1 : (Value.type "method-wrapper" == Value.type "method" || Value.type "method-wrapper" == Value.type "builtin_function_or_method" || Value.type "method-wrapper" == Value.type "method-wrapper") = true := by decide
  simp only [kxs_mw, z1, if_true]
  refine KFB.if_so (by decide) (wpAny_bind (check_bound_init F.excBase_ValueError.toExcCallFacts hC' ho rfl ?_))
  refine wpAny_bind (wpAny_pure (wpAny_pure ⟨plainId_quiet F.excBase_ValueError.init.plain _, codeAny_builtin F.excBase_ValueError.initEntry ?_⟩))
  refine exc_init_tree (cls := .ref C) (t0 := t1) (dv := none) (c2 := .none) (c3 := .none) (b4 := .bool false) ho hl fun h' kk hx' _ => ?_
  have J := I.write (t' := tk) (x := x) (e := x) (o := exo x C none) (by rw [hx]; exact True.intro) (.inl rfl) kk ⟨_, hx'⟩ (exo_ok hx')
  have eu : upd H x (exo x C none) = H := by
    funext b
    by_cases hb : b = x
    · rw [hb, upd_same, hx]
    · rw [upd_ne hb]
  rw [eu] at J
  exact h _ J
/-- a new record of ours stands while the arguments are worked out -/
theorem pin1 {u : Addr} {o : Obj} (I : Inv X pins σ H s) (hu : s.heap.get? u = some o) (hn : H u = none) (hl : u ≠ X.env.locals) (hf : u ∉ X.fs) (hc : ∀ v, o.data ≠ .cell v) : Inv X ((u, o) :: pins) σ H s :=
  I.pins_of fun p hp => by
    rcases List.mem_cons.mp hp with rfl | hp
    · exact ⟨hu, hn, hl, hf, hc⟩
    · exact I.pin p (List.mem_append_right _ hp)
theorem unpin1 {u : Addr} {o : Obj} (I : Inv X ((u, o) :: pins) σ H s) : s.heap.get? u = some o ∧ Inv X pins σ H s :=
  ⟨(I.pin (u, o) (List.mem_append_right _ (List.mem_cons_self ..))).1, I.pins_of fun p hp => I.pin p (List.mem_append_right _ (List.mem_cons_of_mem _ hp))⟩
variable {body : List Stmt} {e : Expr} {es : List Expr} {ta : TA} {p0 p1 p2 p3 p4 : Pos} {Dn : Ends}
/-- super().__init__(e, ..), the built-in one -/
theorem sup_builtin {pl : Sem Bool} (T : Sup X f cc D C sf) (O : OexC X.K C) (hst : nsIn X.K cStatics "thirdparty.any" = some none) (hm : ks_superIn X.K C D "__init__" = some (some (.builtin "ValueError.__init__"))) (hB : subIn X.K (.ref C) (.type "ValueError") = some true)
    (I : Inv X pins σ H s) (h0 : σ[0]? = some (some (.ref x))) (hx : H x = some (exo x C none)) (ha : PA X (e :: es) ta) (h : ta σ H fun vs H1 => H1 x = some (exo x C none) ∧ vs.length ≤ 1000 ∧ Dn.nx σ H1)
    (he : eval (.Call (.Attribute (.Call (.Name "super" p0) [] [] p1) "__init__" p2) (e :: es) [] p3) X.env = (do
      let ov ← attributeBase (.Call (.Name "super" p0) [] [] p1) "__init__" X.env (eval (.Call (.Name "super" p0) [] [] p1) X.env)
      standAt p2.atName
      let (f, first) ← holding [ov] (getMethod ov "__init__" pl)
      callWith p3 f first (backTo p3 (starEach (e :: es) X.env)) []) := by rfl)
    (hsw : swapsWith (.Call (.Attribute (.Call (.Name "super" p0) [] [] p1) "__init__" p2) (e :: es) [] p3) none p4.line X.env = pure false := by rfl)
    (hsa : starEach (e :: es) X.env = (false, eval e X.env) :: starEach es X.env := by rfl) (hpl : (backTo p3 (starEach es X.env)).any (·.1) = false := by rfl) :
    PySem.wpAt (model X.prog X.w) X.A (.func body X.env) (exec (.Expr (.Call (.Attribute (.Call (.Name "super" p0) [] [] p1) "__init__" p2) (e :: es) [] p3) p4) X.env) (SP X pins Dn) X.xe s := by
  refine ks_wpAt_Expr_any (ks_wpAt_MethodCall (pl := pl) (ks_wpAt_mono (super_at T I h0 hx (by decide)) (fun v s1 h1 => ?_) fun _ _ z => z) he) I.quiet hsw
  obtain ⟨so, rfl, I1, hso⟩ := h1
  have K1 := I1.kIn
  obtain ⟨t1, hob⟩ := exo_at I1.hok hx
  have IA : InstAt s1.heap x { cls := .ref C, dict := none, data := .fields #[.ref t1, .none, .none, .none, .bool false, .none] } C none := ⟨hob, rfl, rfl, trivial⟩
  have hI : Looks (model X.prog X.w) s1.heap (isInstance (.ref x) (.type "ValueError")) true := IA.type.andThen (looks_subIn K1 hB)
  cases hc : clsIn X.K C with
  | none => unfold ks_superIn at hm; rw [hc] at hm; cases hm
  | some cd =>
    unfold ks_superIn at hm
    rw [hc] at hm
    have hC : Looks (model X.prog X.w) s1.heap (mroOf (.ref C)) cd.mro := fun A Q E s k q => wpAny_bind ((looks_clsIn K1 hc) A _ E s k (wpAny_pure q))
    obtain ⟨hh, g, d, t, os⟩ := s1
    refine kxs_getMethod kxs_ValueError hso (looks_opaque K1 hst) hC rfl K1 hm hI (ks_ne K1 IA hc) (by decide) ?_
    have I2 : Inv X pins σ H ⟨hh.push (kxs_mw "ValueError.__init__" x), g, d, t + 1, os⟩ := I1.kept (t' := t + 1) fun b o e => Heap.get?_push_of_some _ e
    have hu : (hh.push (kxs_mw "ValueError.__init__" x)).get? hh.objs.size = some (kxs_mw "ValueError.__init__" x) := Heap.get?_push_at rfl rfl
    have I3 := pin1 I2 hu (I1.hok.fresh (Nat.le_refl _)) (Nat.ne_of_gt I1.lt) (I1.nofs (Nat.le_refl _)) (fun v z => by cases z)
    refine kxs_callWith (i := "ValueError.__init__") (x := x) (by rw [hsa]; show (false || (backTo p3 (starEach es X.env)).any (·.1)) = false; rw [hpl]; rfl) ?_
    rw [hsa]
    refine PySem.Calls.evalArgs_plain ?_
    have hrun := ha.run p3 _ _ σ H _ I3 h
    rw [hsa] at hrun
    refine wpAny_mono hrun (fun us s4 ⟨vs, H4, I4, r4, hx4, hl4, q4⟩ => ?_) fun _ _ z => z
    obtain ⟨hu4, I5⟩ := unpin1 I4
    refine ⟨hu4, call_mw O I5 hx4 hu4 ?_ fun s6 I6 => ⟨σ, H4, I6, q4⟩⟩
    show ([] ++ us : List Value).length ≤ sizeLine
    rw [List.nil_append, ← r4.length]
    exact Nat.le_of_lt (small1000 hl4)
/-- super().__init__(e, ..), one of the text -/
theorem sup_own {pl : Sem Bool} {k : Nat} {g : Addr} {fd : FuncData} {ps : List Str} {sp : Sp} (T : Sup X f cc D C sf) (hst : nsIn X.K cStatics "thirdparty.any" = some none) (hm : ks_superIn X.K C D "__init__" = some (some (.ref g))) (hgt : typeIn X.K (.ref g) = some (.type "function")) (hgf : fnIn X.K g = true)
    (F : FnOk X.prog X.w X.K X.mg X.base CX0 k g fd ps sp) (hr : Room k X.A) (hb : Binds X.K fd ps [])
    (I : Inv X pins σ H s) (h0 : σ[0]? = some (some (.ref x))) (hx : H x = some (exo x C none)) (ha : PA X (e :: es) ta) (h : ta σ H fun vs H1 => sp (.ref x :: vs) H1 (fun _ H2 => Dn.nx σ H2) E0)
    (he : eval (.Call (.Attribute (.Call (.Name "super" p0) [] [] p1) "__init__" p2) (e :: es) [] p3) X.env = (do
      let ov ← attributeBase (.Call (.Name "super" p0) [] [] p1) "__init__" X.env (eval (.Call (.Name "super" p0) [] [] p1) X.env)
      standAt p2.atName
      let (f, first) ← holding [ov] (getMethod ov "__init__" pl)
      callWith p3 f first (backTo p3 (starEach (e :: es) X.env)) []) := by rfl)
    (hsw : swapsWith (.Call (.Attribute (.Call (.Name "super" p0) [] [] p1) "__init__" p2) (e :: es) [] p3) none p4.line X.env = pure false := by rfl)
    (hsa : starEach (e :: es) X.env = (false, eval e X.env) :: starEach es X.env := by rfl) (hpl : (backTo p3 (starEach es X.env)).any (·.1) = false := by rfl) :
    PySem.wpAt (model X.prog X.w) X.A (.func body X.env) (exec (.Expr (.Call (.Attribute (.Call (.Name "super" p0) [] [] p1) "__init__" p2) (e :: es) [] p3) p4) X.env) (SP X pins Dn) X.xe s := by
  refine ks_wpAt_Expr_any (ks_wpAt_MethodCall (pl := pl) (ks_wpAt_mono (super_at T I h0 hx (by decide)) (fun v s1 h1 => ?_) fun _ _ z => z) he) I.quiet hsw
  obtain ⟨so, rfl, I1, hso⟩ := h1
  have K1 := I1.kIn
  obtain ⟨t1, hob⟩ := exo_at I1.hok hx
  have IA : InstAt s1.heap x { cls := .ref C, dict := none, data := .fields #[.ref t1, .none, .none, .none, .bool false, .none] } C none := ⟨hob, rfl, rfl, trivial⟩
  obtain ⟨og, hog, hogc⟩ : ∃ o, s1.heap.get? g = some o ∧ o.cls = .type "function" := by
    have z : (X.K.lookup g).map (·.cls) = some (.type "function") := hgt
    cases y : X.K.lookup g with
    | none => rw [y] at z; cases z
    | some o => rw [y] at z; exact ⟨o, K1 _ _ y, Option.some.inj z⟩
  cases hc : clsIn X.K C with
  | none => unfold ks_superIn at hm; rw [hc] at hm; cases hm
  | some cd =>
    unfold ks_superIn at hm
    rw [hc] at hm
    have hC : Looks (model X.prog X.w) s1.heap (mroOf (.ref C)) cd.mro := fun A Q E s k q => wpAny_bind ((looks_clsIn K1 hc) A _ E s k (wpAny_pure q))
    obtain ⟨hh, gg, d, t, os⟩ := s1
    refine ks_wpAny_getMethod_super hso (looks_opaque K1 hst) hC rfl K1 hm hog hogc (ks_ne K1 IA hc) (by decide) ?_
    have I2 : Inv X pins σ H ⟨hh.push (methodObj (.ref g) (.ref x)), gg, d, t + 1, os⟩ := I1.kept (t' := t + 1) fun b o e => Heap.get?_push_of_some _ e
    have hu : (hh.push (methodObj (.ref g) (.ref x))).get? hh.objs.size = some (methodObj (.ref g) (.ref x)) := Heap.get?_push_at rfl rfl
    have I3 := pin1 I2 hu (I1.hok.fresh (Nat.le_refl _)) (Nat.ne_of_gt I1.lt) (I1.nofs (Nat.le_refl _)) (fun v z => by cases z)
    refine callWith_of (by rw [hsa]; show ((false || (backTo p3 (starEach es X.env)).any (·.1)) || false) = false; rw [hpl]; rfl) (keeps_M (q := hh.objs.size) (self := .ref x) hgf) ?_
    rw [hsa]
    refine PySem.Calls.evalArgs_plain ?_
    have hrun := ha.run p3 _ _ σ H _ I3 h
    rw [hsa] at hrun
    refine wpAny_mono hrun (fun us s4 ⟨vs, H4, I4, r4, q4⟩ => ?_) fun _ _ z => z
    obtain ⟨hu4, I5⟩ := unpin1 I4
    refine ⟨⟨hu4, I5.kIn⟩, ?_⟩
    have r5 : Vals (.ref x :: vs) (.ref x :: us) := .cons rfl r4
    have hl : (Value.ref x :: us ++ []).length = ps.length := by
      rw [List.append_nil, ← r5.length]
      exact F.len _ _ _ _ q4
    have hbd := hb s4 (.ref x :: us) I5.kIn hl
    rw [List.append_nil] at hbd
    refine wpAny_call (ks_codeAny_call_bound hu4 (codeAny_mono (F.run X.A X.stack s4 H4 _ (.ref x :: us) _ _ E0 hr I5.env0 hbd r5 q4) fun r s' hq => ?_))
    cases r with
    | error er => exact False.elim hq
    | ok fl =>
      cases fl with
      | ret u =>
        obtain ⟨v, H6, I6, _, q6⟩ := I5.after hq
        exact ⟨σ, H6, I6, q6⟩
      | next => exact False.elim hq
      | brk => exact False.elim hq
      | cont => exact False.elim hq
end
/-! ### C(), C's own __init__ keeping sp -/
def tMk0 (C : Addr) (sp : Sp) : L2.St → Hp → XK → Prop := fun _ H Q => ∀ a, H a = none → sp [.ref a] (upd H a (exo a C none))
  (fun v H2 => v = .non ∧ ∃ (d : Addr) (fs : List (Str × V)), H2 a = some (exo a C (some d)) ∧ H2 d = some (exd d fs) ∧ H d = none ∧ Q (.ref C) (some d) (upd (del H2 a) d (.xd fs))) E0
theorem pmk_new0 {X : Cx} {nmX : Str} {C fI : Addr} {k : Nat} {fd : FuncData} {ps : List Str} {sp : Sp} {p pos : Pos} (T : OexC X.K C) (iC : findIn X.K (.ref C) "__init__" = some (some (.ref fI))) (tI : typeIn X.K (.ref fI) = some (.type "function"))
    (F1 : FnOk X.prog X.w X.K X.mg X.base CX0 k fI fd ps sp) (hr : Room (k + 1) X.A) (hb : Binds X.K fd ps []) (hg : Gl X nmX) (hm : X.mg nmX = some (.ref C)) (hdb : (nmX == ("__debug__" : Str)) = false := by decide) :
    PMk X (.Call (.Name nmX p) [] [] pos) (tMk0 C sp) := fun pins s σ H Q I h => by
  obtain ⟨nm, q, N, bs, bm, sn, sub, ab, col, dd, k0, k1, k2, k3, k5, hC, hbm⟩ := T.cls
  refine wpAny_Call_Name_kw (ld_glob I hg hm (callWith_K0 I.kIn T.kC ?_) hdb)
  obtain ⟨hp, g, dr, tk, os⟩ := s
  have sz1 : hp.objs.size ≤ hp.objs.size + 1 := Nat.le_succ _
  have q0 := h (hp.objs.size + 1) (I.hok.fresh sz1)
  have stay : ∀ b o, hp.get? b = some o → ((hp.push (kdv_tup [])).push (PySem.HandSPX.excO C hp.objs.size)).get? b = some o := fun b o z => Heap.get?_push_of_some _ (Heap.get?_push_of_some _ z)
  have made : ((hp.push (kdv_tup [])).push (PySem.HandSPX.excO C hp.objs.size)).get? (hp.objs.size + 1) = some (PySem.HandSPX.excO C hp.objs.size) := by heap_get
  have J : Inv X pins σ (upd H (hp.objs.size + 1) (exo (hp.objs.size + 1) C none)) ⟨(hp.push (kdv_tup [])).push (PySem.HandSPX.excO C hp.objs.size), g, dr, tk, os⟩ :=
    I.laid (t' := tk) (o := exo (hp.objs.size + 1) C none) stay sz1 (exo_ok made)
  have rv : Vals [V.ref (hp.objs.size + 1)] [Value.ref (hp.objs.size + 1)] := .cons rfl .nil
  have len1 : ([Value.ref (hp.objs.size + 1)] ++ [] : List Value).length = ps.length := (F1.len _ _ _ _ q0 :)
  have bd := hb _ [Value.ref (hp.objs.size + 1)] J.kIn len1
  refine wpAny_call (PySem.HandSPX.call_own F.excBase_ValueError (fun Y => PySem.HandSPX.refsVE_contains Y bm hbm) (I.kIn _ _ hC) (looks_findIn I.kIn iC) (fun sf => bind_fn I.kIn sf tI) (Nat.zero_le _)
    (codeAny_mono (F1.run _ X.stack _ _ ⟨[Value.ref (hp.objs.size + 1)], []⟩ [Value.ref (hp.objs.size + 1)] _ _ E0 (hr.make C [] []) (J.env0.make C [] []) bd rv q0) fun r s' hq => ?_))
  match r, hq with
  | .error er, hq => exact False.elim hq
  | .ok .next, hq => exact False.elim hq
  | .ok .brk, hq => exact False.elim hq
  | .ok .cont, hq => exact False.elim hq
  | .ok (.ret u), hq =>
    obtain ⟨v, H2, os2, bare2, un2, hok2, ru, ev, d, fs, ea, ed, hd1, q2⟩ := hq
    subst ev
    obtain ⟨h2, g2, d2, t2, os'⟩ := s'
    exact ⟨ru, mk_end (raises_own T.exC T.tyC) I sz1 stay un2 hok2 os2 bare2 ea ed hd1 q2⟩
end KX
set_option Elab.async false
set_option linter.all false
set_option maxRecDepth 100000
namespace K1
open PySem L2 KX
abbrev sVInit : Stmt := inClass (top 2) 0
abbrev sNInit : Stmt := inClass (top 3) 0
/-- an __init__ of the text that closes over __class__ -/
structure InitF (P : Program) (K : PySem.W.Frag) (mg : Str → Option Value) (qual : Str) (st : Stmt) (f D : Addr) (fd : FuncData) : Prop where
  ex : ∃ (oc : Value) (od : Option Addr) (kV doc pm : Value) (an : Option Addr) (cda : Addr) (ct : Value) (osl : Array (Option Value)) (cc : Addr), fd = PySem.W.ksFn "__init__" qual (defArgs st) (defBody st) (defScope st) .none kV doc pm an (.ref cda) ct cc ∧
    K.lookup f = some ⟨oc, od, .func fd, osl⟩ ∧ PySem.W.codeIn K (.ref cda) qual = true ∧
    (∃ (ccl : Value) (cdd : Option Addr) (vs : Array Value) (ccs : Array (Option Value)) (file : Str) (tf : Tok), K.lookup cda = some ⟨ccl, cdd, .fields vs, ccs⟩ ∧ vs[2]? = some (.str file tf) ∧ ((P.main.file : Str) == file) = true) ∧
    ∃ (cl : Value) (cld : Option Addr) (csl : Array (Option Value)), K.lookup cc = some ⟨cl, cld, .cell (some (.ref D)), csl⟩
  dk : ∃ cdD, PySem.W.clsIn K D = some cdD
  ms : mg "super" = none
  tp : (P.main.scope.names.lookup ("super" : Str)).isSome = false
/-- the classes: CV the one above, CN the one below -/
structure ErrF (P : Program) (K : PySem.W.Frag) (CV CN fV fN : Addr) : Prop where
  O : OexC K CN
  wd : PySem.W.findIn K (.ref CN) "word" = some none
  st : PySem.W.nsIn K PySem.cStatics "thirdparty.any" = some none
  mV : PySem.W.mroIn K CN (.ref CV) = some true
  mN : PySem.W.mroIn K CN (.ref CN) = some true
  sV : PySem.W.ks_superIn K CN CV "__init__" = some (some (.builtin "ValueError.__init__"))
  sN : PySem.W.ks_superIn K CN CN "__init__" = some (some (.ref fV))
  vE : PySem.W.subIn K (.ref CN) (.type "ValueError") = some true
  tV : PySem.W.typeIn K (.ref fV) = some (.type "function")
  fnV : PySem.W.fnIn K fV = true
  iN : PySem.W.findIn K (.ref CN) "__init__" = some (some (.ref fN))
  tN : PySem.W.typeIn K (.ref fN) = some (.type "function")
def spVInit (CN : Addr) : Sp := fun vs H Q _ => ∃ x wd, vs = [.ref x, .str wd] ∧ H x = some (exo x CN none) ∧ ∀ d, H d = none → d ≠ x → Q .non (upd (upd H d (exd d [("word", .str wd)])) x (exo x CN (some d)))
def spNInit (CN : Addr) : Sp := fun vs H Q _ => ∃ x, vs = [.ref x] ∧ H x = some (exo x CN none) ∧ ∀ d, H d = none → d ≠ x → Q .non (upd (upd H d (exd d [("word", .str "nofraction")])) x (exo x CN (some d)))
section
variable {P : Program} {w : World} {K : PySem.W.Frag} {mg : Str → Option Value} {base : Heap} {CV CN fV fN : Addr} {fd fd2 : FuncData}
theorem lk2 (us : List Value) (h : us.length = 2) : ∀ (i : Nat) (x : Str) (u : Value), (["self", "word"] : List Str)[i]? = some x → us[i]? = some u → ((["self", "word"] : List Str).zip us).reverse.lookup x = some u := by
  match us, h with
  | [a, b], _ =>
    intro i x u h1 h2
    have n1 : (("self" : Str) == "word") = false := by decide +kernel
    match i with
    | 0 =>
      cases h1; cases h2
      show ([("word", b), ("self", a)] : List (Str × Value)).lookup ("self" : Str) = some a
      simp [List.lookup, n1]
    | 1 =>
      cases h1; cases h2
      show ([("word", b), ("self", a)] : List (Str × Value)).lookup ("word" : Str) = some b
      simp [List.lookup]
    | i + 2 => simp at h1
theorem lk1 (us : List Value) (h : us.length = 1) : ∀ (i : Nat) (x : Str) (u : Value), (["self"] : List Str)[i]? = some x → us[i]? = some u → ((["self"] : List Str).zip us).reverse.lookup x = some u := by
  match us, h with
  | [a], _ =>
    intro i x u h1 h2
    match i with
    | 0 =>
      cases h1; cases h2
      show ([("self", a)] : List (Str × Value)).lookup ("self" : Str) = some a
      simp [List.lookup]
    | i + 1 => simp at h1
theorem only_cls {names : List (Str × NameKind)} (h : names.all (fun y => y.2 != .free || y.1 == "__class__") = true) (x : Str) (e : names.lookup x = some .free) : x = "__class__" := by
  have := List.all_eq_true.mp h _ (PySem.mem_of_lookup e)
  simpa using this
theorem scVInit : ScS ["self", "word"] ["self", "word"] (defScope sVInit) := ⟨rfl, rfl, rfl, by decide +kernel, by decide +kernel, only_cls (by decide +kernel), rfl⟩
theorem scNInit : ScS ["self"] ["self"] (defScope sNInit) := ⟨rfl, rfl, rfl, by decide +kernel, by decide +kernel, only_cls (by decide +kernel), rfl⟩
theorem ok_vinit (IF : InitF P K mg "VerdictError.__init__" sVInit fV CV fd) (EF : ErrF P K CV CN fV fN) : FnOk P w K mg base CX0 1 fV fd ["self", "word"] (spVInit CN) := by
  obtain ⟨oc, od, kV, doc, pm, an, cda, ct, osl, cc, rfl, lk, hcd, ⟨ccl, cdd, vs0, ccs, file, tf, kc, h2, hfile⟩, cl, cld, csl, hcc⟩ := IF.ex
  refine fn_ofS lk hcd hcc scVInit lk2 (fun vs H Q E h => ?_) fun A outer s s1 H vs Q E hr h I => ?_
  · obtain ⟨x, wd, rfl, _⟩ := h
    rfl
  · obtain ⟨x, wd, rfl, hx, k⟩ := h
    have TS : Sup (cxS CX0 P w K mg base ["self", "word"] "VerdictError.__init__" (defScope sVInit) fV (.ref cda) cc A outer s H E) fV cc CV CN "self" :=
      ⟨rfl, rfl, by rfl, rfl, ⟨_, _, _, _, _, lk, rfl, rfl⟩, ⟨cda, ccl, cdd, vs0, ccs, file, tf, rfl, kc, h2, hfile⟩, ⟨cl, cld, csl, hcc⟩, IF.dk, EF.mV, IF.ms, IF.tp, rfl, rfl⟩
    refine ks_wpAt_execs_cons (ks_wpAt_mono (sup_builtin (x := x) (Dn := { nx := fun σ' H' => tOst K "word" (tVar 0) (tVar 1) { nx := fun _ H' => Q .non H', rt := Q } σ' H', rt := fun _ _ => False }) TS EF.O EF.st EF.sV EF.vE I rfl hx (pa_cons (pv 1) pa_nil) ?_) (fun fl s' hs => ?_) fun _ _ z => z)
    · refine ⟨_, rfl, hx, (by show 1 ≤ 1000; decide), ?_⟩
      refine ⟨_, rfl, _, rfl, x, CN, rfl, EF.O, EF.wd, .inl ⟨hx, fun d nd ne => ?_⟩⟩
      exact k d nd ne
    · cases fl with
      | next =>
        obtain ⟨σ', H', I', q⟩ := hs
        exact PySem.wpAt_of_wpAny ((pss_one (ps_ost (f := "word") (pv 0) (pv 1))).run [] s' σ' H' { nx := fun _ H' => Q .non H', rt := Q } I' q)
      | ret v => obtain ⟨_, _, _, _, _, q⟩ := hs; exact q.elim
      | brk => obtain ⟨_, _, _, q⟩ := hs; exact q.elim
      | cont => obtain ⟨_, _, _, q⟩ := hs; exact q.elim
theorem ok_ninit (IF : InitF P K mg "NoFraction.__init__" sNInit fN CN fd2) (EF : ErrF P K CV CN fV fN) (FV : FnOk P w K mg base CX0 1 fV fd ["self", "word"] (spVInit CN)) (hb : Binds K fd ["self", "word"] []) : FnOk P w K mg base CX0 2 fN fd2 ["self"] (spNInit CN) := by
  obtain ⟨oc, od, kV, doc, pm, an, cda, ct, osl, cc, rfl, lk, hcd, ⟨ccl, cdd, vs0, ccs, file, tf, kc, h2, hfile⟩, cl, cld, csl, hcc⟩ := IF.ex
  refine fn_ofS lk hcd hcc scNInit lk1 (fun vs H Q E h => ?_) fun A outer s s1 H vs Q E hr h I => ?_
  · obtain ⟨x, rfl, _⟩ := h
    rfl
  · obtain ⟨x, rfl, hx, k⟩ := h
    have TS : Sup (cxS CX0 P w K mg base ["self"] "NoFraction.__init__" (defScope sNInit) fN (.ref cda) cc A outer s H E) fN cc CN CN "self" :=
      ⟨rfl, rfl, by rfl, rfl, ⟨_, _, _, _, _, lk, rfl, rfl⟩, ⟨cda, ccl, cdd, vs0, ccs, file, tf, rfl, kc, h2, hfile⟩, ⟨cl, cld, csl, hcc⟩, IF.dk, EF.mN, IF.ms, IF.tp, rfl, rfl⟩
    refine ks_wpAt_execs_cons (ks_wpAt_mono (sup_own (x := x) (Dn := { nx := fun _ H' => Q .non H', rt := fun _ _ => False }) TS EF.st EF.sN EF.tV EF.fnV FV hr hb I rfl hx (pa_cons pe_str pa_nil) ?_) (fun fl s' hs => ?_) fun _ _ z => z)
    · exact ⟨x, _, rfl, hx, fun d nd ne => k d nd ne⟩
    · cases fl with
      | next =>
        obtain ⟨σ', H', I', q⟩ := hs
        exact PySem.wpAt_of_wpAny (pss_nil.run [] s' σ' H' { nx := fun _ H' => Q .non H', rt := Q } I' q)
      | ret v => obtain ⟨_, _, _, _, _, q⟩ := hs; exact q.elim
      | brk => obtain ⟨_, _, _, q⟩ := hs; exact q.elim
      | cont => obtain ⟨_, _, _, q⟩ := hs; exact q.elim
end
end K1
set_option Elab.async false
set_option linter.all false
set_option maxRecDepth 100000
set_option maxHeartbeats 4000000
namespace K1
open PySem L2 Kz Sx KX
def spFracZ (CN : Addr) : Sp := fun vs H _ E => ∃ t, vs = [.int t, .int 0] ∧ ∀ H' d, Same H H' → H' d = some (.xd [("word", .str "nofraction")]) → E (.ref CN) (some d) H'
section
variable {P : Program} {w : World} {K : PySem.W.Frag} {mg : Str → Option Value} {base : Heap}
theorem ok_fracz {f CV CN fV fN : Addr} {fd fdN : FuncData} (F : Fun K "fraction" "fraction" sFraction f fd) (D : Df P w K mg base CX0 1 "common_divisor" ["one", "other"] spCommon)
    (EF : ErrF P K CV CN fV fN) (FN : FnOk P w K mg base CX0 2 fN fdN ["self"] (spNInit CN)) (bN : Binds K fdN ["self"] []) (mN : mg "NoFraction" = some (.ref CN)) : FnOk P w K mg base (L2.CX P w) 4 f fd ["top", "bottom"] (spFracZ CN) := by
  refine F.okX scFraction (fun vs H Q E h => ?_) (fun cdv A outer s H vs Q E hr h => ?_)
  · obtain ⟨t, rfl, _⟩ := h
    rfl
  · obtain ⟨t, rfl, k⟩ := h
    refine ⟨_, pss_cons (ps_if (pt_cmpR op_eq (pv 1) pe_int (nomark _)) (pss_one (ps_raise rfl (takes_of rfl rfl rfl rfl) (pmk_new0 EF.O EF.iN EF.tN FN (hr.mono (by decide)) bN (by rfl) mN))) pss_nil)
      (pss_cons (ps_if (pt_cmpR op_lt (pv 1) pe_int (nomark _)) (pss_one (ps_par (i := 0) (j := 1) rfl scFraction.nd rfl rfl (by decide) rfl rfl (pa_cons (pe_un un_neg (pv 0)) (pa_cons (pe_un un_neg (pv 1)) pa_nil)) rfl)) pss_nil)
      (pss_cons (ps_set (i := 2) scFraction.nd rfl (.inl rfl) (pe_callD D hr (by decide) (by rfl) pass0 (pa_cons (pv 0) (pa_cons (pv 1) pa_nil))))
      (pss_one (ps_ret (pe_tup (pa_cons (pe_op op_fdivW (pv 0) (pv 2)) (pa_cons (pe_op op_fdivW (pv 1) (pv 2)) pa_nil))))))), ?_⟩
    refine ⟨_, rfl, rfl, _, rfl, ?_⟩
    rw [show decide (V.int 0 = V.int 0) = true from decide_eq_true rfl]
    refine iteT ?_
    intro a na
    refine ⟨a, rfl, upd_same, fun d nd ne => ⟨rfl, d, [("word", .str "nofraction")], upd_same, (by rw [upd_ne ne]; exact upd_same), ?_, ?_⟩⟩
    · rw [upd_ne ne] at nd
      exact nd
    · have nd' : H d = none := by rw [upd_ne ne] at nd; exact nd
      refine k _ d (fun b o e => ?_) upd_same
      have n1 : b ≠ a := ne_of_none e na
      have n2 : b ≠ d := ne_of_none e nd'
      rw [upd_ne n2, del_ne n1, upd_ne n1, upd_ne n2, upd_ne n1]
      exact e
end
end K1
set_option Elab.async false
set_option linter.all false
set_option maxRecDepth 100000
set_option maxHeartbeats 4000000
namespace K1
open PySem L2 Kz Sx KX
def spOverZ (K : PySem.W.Frag) (CN : Addr) : Sp := fun vs H _ E => ∃ u v p, vs = [u, v] ∧ Fr K H u p ∧ Fr K H v 0 ∧ Sm 3000 p ∧ ∀ H' d, Same H H' → H' d = some (.xd [("word", .str "nofraction")]) → E (.ref CN) (some d) H'
section
variable {P : Program} {w : World} {K : PySem.W.Frag} {mg : Str → Option Value} {base : Heap}
theorem ok_overz {f CN : Addr} {fd : FuncData} (F : Fun K "over" "over" sOver f fd) (D : Df P w K mg base (L2.CX P w) 4 "fraction" ["top", "bottom"] (spFracZ CN)) : FnOk P w K mg base (L2.CX P w) 5 f fd ["one", "other"] (spOverZ K CN) := by
  refine F.okX scOver (fun vs H Q E h => ?_) (fun cdv A outer s H vs Q E hr h => ?_)
  · obtain ⟨u, v, p, rfl, _⟩ := h
    rfl
  · obtain ⟨u, v, p, rfl, ⟨a, rfl, ha⟩, ⟨b, rfl, hb⟩, sp, k⟩ := h
    refine ⟨_, pss_one (ps_ret (pe_callD (E := E) D hr (by decide) (by rfl) (passes_call (W := fun cls d _ H => E cls d H) (takes_of rfl rfl rfl rfl) fun _ _ _ _ h => h)
      (pa_cons (pe_op op_mulW (pe_ix ix_tup (pv 0) pe_int (fun _ _ => rfl)) (pe_ix ix_tup (pv 1) pe_int (fun _ _ => rfl)))
      (pa_cons (pe_op op_mulW (pe_ix ix_tup (pv 0) pe_int (fun _ _ => rfl)) (pe_ix ix_tup (pv 1) pe_int (fun _ _ => rfl))) pa_nil)))), ?_⟩
    refine ⟨_, rfl, a, _, _, _, rfl, rfl, ha, at0, _, rfl, b, _, _, _, rfl, rfl, hb, at1, _, _, rfl, rfl, mw sp.1 (by decide),
      _, rfl, a, _, _, _, rfl, rfl, ha, at1, _, rfl, b, _, _, _, rfl, rfl, hb, at0, _, _, rfl, rfl, mw sp.d (by decide), p.num * ((0 : Rat).den : Int), ?_, k⟩
    show [V.int (p.num * ((0 : Rat).den : Int)), V.int ((p.den : Int) * 0)] = _
    rw [Int.mul_zero]
end
end K1
set_option Elab.async false
set_option linter.all false
set_option maxRecDepth 100000
set_option maxHeartbeats 1000000
namespace E0
open PySem L2 Dl
/-- a fraction, fractions in a row, as data -/
def fr (q : Rat) : D := .tup [.int q.num, .int (q.den : Int)]
def frs (k : Nat) (f : Nat → Rat) : List D := (List.range k).map fun j => fr (f j)
def frm (m n : Nat) (R : Nat → Nat → Rat) : List D := (List.range m).map fun i => .tup (frs n (R i))
theorem frs_get {k : Nat} {f : Nat → Rat} {j : Nat} (h : j < k) : (frs k f)[j]? = some (fr (f j)) := by simp [frs, h]
theorem frs_len {k : Nat} {f : Nat → Rat} : (frs k f).length = k := by simp [frs]
theorem frm_get {m n : Nat} {R : Nat → Nat → Rat} {i : Nat} (h : i < m) : (frm m n R)[i]? = some (.tup (frs n (R i))) := by simp [frm, h]
theorem frm_len {m n : Nat} {R : Nat → Nat → Rat} : (frm m n R).length = m := by simp [frm]
def grT (F H : Hp) : Hp := fun b => match H b with
  | some (.tup xs) => some (.tup xs)
  | some (.frz o u) => some (.frz o u)
  | _ => F b
section
variable {K : PySem.W.Frag} {o : Option Hd} {F H H' : Hp} {v : V} {q : Rat}
theorem stp_of (s : Same F H) (e : Same H H') : Stp o F H (grT F H') H' where
  fs := fun b u h => by
    have h' := e _ _ (s _ _ h)
    unfold grT
    rw [h']
    cases u <;> first | rfl | exact h
  sm := fun b u h => by
    unfold grT at h
    cases z : H' b with
    | none => rw [z] at h; have := e _ _ (s _ _ h); rw [z] at this; cases this
    | some y =>
      rw [z] at h
      cases y <;> first | exact h | (have := e _ _ (s _ _ h); rw [z] at this; exact this)
  ex := .of e
  fr := fun b u h1 h2 m => by
    unfold grT
    rw [e _ _ h2]
    cases u <;> first | exact h1 | exact m.elim
theorem sqT_gr {a : Addr} {xs : List V} (h : SqT K H' a xs) : SqT K (grT F H') a xs := by
  rcases h with (h | ⟨o, h⟩) | h
  · exact .inl (.inl (by unfold grT; rw [h]))
  · exact .inl (.inr ⟨o, by unfold grT; rw [h]⟩)
  · exact .inr h
theorem rp_fr (h : K1.Fr K H' v q) : Rp K o (grT F H') v (fr q) := by
  obtain ⟨a, rfl, h⟩ := h
  exact .tup (sqT_gr h) (.cons (.int _) (.one (.int _)))
theorem fr_rp (h : Rp K o F v (fr q)) : K1.Fr K F v q := by
  obtain ⟨a, xs, rfl, h1, h2⟩ := h.inv_tup
  obtain ⟨u, w, rfl, r1, r2⟩ := h2.inv2
  obtain rfl := r1.inv_int
  obtain rfl := r2.inv_int
  exact ⟨a, rfl, h1⟩
theorem rpA_of {vs : List V} {ds : List D} (hl : vs.length = ds.length) (h : ∀ (i : Nat) (v : V) (d : D), vs[i]? = some v → ds[i]? = some d → Rp K o F v d) : RpA K o F vs ds := by
  induction vs generalizing ds with
  | nil => cases ds with
    | nil => exact .nil
    | cons d ds => cases hl
  | cons v vs ih => cases ds with
    | nil => cases hl
    | cons d ds => exact .cons (h 0 v d rfl rfl) (ih (by simpa using hl) fun i v d e1 e2 => h (i + 1) v d (by simpa using e1) (by simpa using e2))
theorem rpA_frs {vs : List V} {k : Nat} {f : Nat → Rat} (h : K1.FrS K H' vs k f) : RpA K o (grT F H') vs (frs k f) := rpA_of (by rw [frs_len]; exact h.1) fun i v d e1 e2 => by
  have hi : i < k := by have := (List.getElem?_eq_some_iff.mp e1).1; rw [h.1] at this; exact this
  rw [frs_get hi] at e2
  cases e2
  exact rp_fr (h.2 i v e1)
theorem rp_frA {k : Nat} {f : Nat → Rat} (h : K1.FrA true K H' v k f) : Rp K o (grT F H') v (.tup (frs k f)) := by
  obtain ⟨a, vs, rfl, h1, h2⟩ := h
  exact .tup (sqT_gr h1) (rpA_frs h2)
theorem frS_rp {vs : List V} {k : Nat} {f : Nat → Rat} (h : RpA K o F vs (frs k f)) : K1.FrS K F vs k f := ⟨by rw [h.length, frs_len], fun j v e => by
  obtain ⟨d, h1, h2⟩ := h.get e
  have hj : j < k := by have := (List.getElem?_eq_some_iff.mp h1).1; rw [frs_len] at this; exact this
  rw [frs_get hj] at h1
  cases h1
  exact fr_rp h2⟩
theorem frA_rp {k : Nat} {f : Nat → Rat} (h : Rp K o F v (.tup (frs k f))) : K1.FrA true K F v k f := by
  obtain ⟨a, xs, rfl, h1, h2⟩ := h.inv_tup
  exact ⟨a, xs, rfl, h1, frS_rp h2⟩
theorem frM_rp {m n : Nat} {R : Nat → Nat → Rat} (h : Rp K o F v (.tup (frm m n R))) : K1.FrMT K F v m n R := by
  obtain ⟨a, xs, rfl, h1, h2⟩ := h.inv_tup
  refine ⟨a, xs, rfl, h1, by rw [h2.length, frm_len], fun i u e => ?_⟩
  obtain ⟨d, e1, e2⟩ := h2.get e
  have hi : i < m := by have := (List.getElem?_eq_some_iff.mp e1).1; rw [frm_len] at this; exact this
  rw [frm_get hi] at e1
  cases e1
  exact frA_rp e2
end
section
variable {P : Program} {w : World} {K : PySem.W.Frag} {mg : Str → Option Value} {base : Heap} {k : Nat} {x : Str} {ps : List Str}
theorem toX {f : Addr} {fd : FuncData} {sp : Sp} (F : FnOk P w K mg base CX0 k f fd ps sp) : FnOk P w K mg base (L2.CX P w) k f fd ps sp := ⟨F.len, fun A outer s H args us vs Q E hr e0 hb hv h => codeAny_mono (F.run A outer s H args us vs Q E hr e0 hb hv h) fun r s' q => by
  cases r with
  | error e => exact False.elim q
  | ok fl => cases fl <;> exact q⟩
/-- a def of K1, told of data -/
theorem ofK {CX : CXT} {sp : Sp} {wp : WP} (h : K1.Df P w K mg base CX k x ps sp) (m : MW wp) (hc : CX = CX0 ∨ CX = L2.CX P w) (l : ∀ vs H Q E, spD K ps.length wp vs H Q E → sp vs H Q E) : Dl.Df P w K mg base k x ps wp := by
  obtain ⟨f, fd, F, h1, h2, h3⟩ := h.ex
  rcases hc with rfl | rfl
  · exact ⟨⟨f, fd, (toX F).imp l, h1, h2, h3⟩, m⟩
  · exact ⟨⟨f, fd, F.imp l, h1, h2, h3⟩, m⟩
/-- two promises of one def -/
theorem orK {f : Addr} {fd : FuncData} {sp1 sp2 sp : Sp} (F1 : FnOk P w K mg base (L2.CX P w) k f fd ps sp1) (F2 : FnOk P w K mg base (L2.CX P w) k f fd ps sp2) (l : ∀ vs H Q E, sp vs H Q E → sp1 vs H Q E ∨ sp2 vs H Q E) : FnOk P w K mg base (L2.CX P w) k f fd ps sp :=
  ⟨fun vs H Q E h => (l vs H Q E h).elim (F1.len vs H Q E) (F2.len vs H Q E), fun A outer s H args us vs Q E hr e0 hb hv h => (l vs H Q E h).elim (F1.run A outer s H args us vs Q E hr e0 hb hv) (F2.run A outer s H args us vs Q E hr e0 hb hv)⟩
/-! ### what the fractions' defs do, of data -/
def wp_common : WP := fun ds Q _ => ∃ a b : Int, ds = [.int a, .int b] ∧ Q (.int (Int.gcd a b : Nat))
theorem mw_common : MW wp_common := ⟨fun h _ ⟨a, b, e, q⟩ => ⟨a, b, e, h _ q⟩⟩
def wp_fraction (CN : Addr) : WP := fun ds Q Z => ∃ t b : Int, ds = [.int t, .int b] ∧ (b ≠ 0 → t.natAbs < 2 ^ 8000 ∧ b.natAbs < 2 ^ 8000 ∧ Q (fr (Rat.divInt t b))) ∧ (b = 0 → Z CN [("word", .str "nofraction")])
theorem mw_fraction {CN : Addr} : MW (wp_fraction CN) := ⟨fun h z ⟨t, b, e, q1, q2⟩ => ⟨t, b, e, fun n => ⟨(q1 n).1, (q1 n).2.1, h _ (q1 n).2.2⟩, fun n => z _ _ (q2 n)⟩⟩
def wp_bin (g : Rat → Rat → Rat) : WP := fun ds Q _ => ∃ p q, ds = [fr p, fr q] ∧ K1.Sm 3000 p ∧ K1.Sm 3000 q ∧ Q (fr (g p q))
theorem mw_bin {g : Rat → Rat → Rat} : MW (wp_bin g) := ⟨fun h _ ⟨p, q, e, s1, s2, r⟩ => ⟨p, q, e, s1, s2, h _ r⟩⟩
def wp_over (CN : Addr) : WP := fun ds Q Z => ∃ p q, ds = [fr p, fr q] ∧ K1.Sm 3000 p ∧ K1.Sm 3000 q ∧ (q ≠ 0 → Q (fr (p / q))) ∧ (q = 0 → Z CN [("word", .str "nofraction")])
theorem mw_over {CN : Addr} : MW (wp_over CN) := ⟨fun h z ⟨p, q, e, s1, s2, q1, q2⟩ => ⟨p, q, e, s1, s2, fun n => h _ (q1 n), fun n => z _ _ (q2 n)⟩⟩
def wp_less : WP := fun ds Q _ => ∃ p q, ds = [fr p, fr q] ∧ K1.Sm 3000 p ∧ K1.Sm 3000 q ∧ Q (.bl (decide (p < q)))
theorem mw_less : MW wp_less := ⟨fun h _ ⟨p, q, e, s1, s2, r⟩ => ⟨p, q, e, s1, s2, h _ r⟩⟩
def wp_scalar : WP := fun ds Q _ => ∃ k f g, ds = [.tup (frs k f), .tup (frs k g)] ∧ k ≤ 5 ∧ (∀ j, j < k → K1.Sm 100 (f j)) ∧ (∀ j, j < k → K1.Sm 400 (g j)) ∧ Q (fr (Sx.sm k fun j => f j * g j))
theorem mw_scalar : MW wp_scalar := ⟨fun h _ ⟨k, f, g, e, s0, s1, s2, r⟩ => ⟨k, f, g, e, s0, s1, s2, h _ r⟩⟩
def wp_fitted : WP := fun ds Q _ => ∃ m n R g, ds = [.tup (frm m n R), .tup (frs m g)] ∧ K1.Sml m n R g ∧
  (∀ y, K1.BarR m n R g y → (∀ k, k < m → K1.Sm 1100 (y k)) → Q (.tup [.str "bar", .tup (frs m y)])) ∧ (∀ x, K1.Fe m n R g x → (∀ j, j < n → K1.Sm 400 (x j)) → Q (.tup [.str "x", .tup (frs n x)]))
theorem mw_fitted : MW wp_fitted := ⟨fun h _ ⟨m, n, R, g, e, s, q1, q2⟩ => ⟨m, n, R, g, e, s, fun y a b => h _ (q1 y a b), fun x a b => h _ (q2 x a b)⟩⟩
theorem dd_common (h : K1.Df P w K mg base CX0 k x ["one", "other"] K1.spCommon) : Dl.Df P w K mg base k x ["one", "other"] wp_common := ofK h mw_common (.inl rfl) fun vs H Q E ⟨_, o, F, ds, ok, ra, a, b, e, q⟩ => by
  subst e
  obtain ⟨u, v, rfl, r1, r2⟩ := ra.inv2
  obtain rfl := r1.inv_int
  obtain rfl := r2.inv_int
  exact ⟨a, b, rfl, q F H _ (Stp.refl ok.sm) (.int _)⟩
theorem dd_bin {g : Rat → Rat → Rat} (h : K1.Df P w K mg base CX0 k x ["one", "other"] (K1.spBin K (fun _ _ => True) g)) : Dl.Df P w K mg base k x ["one", "other"] (wp_bin g) := ofK h mw_bin (.inl rfl) fun vs H Q E ⟨_, o, F, ds, ok, ra, p, q, e, s1, s2, r⟩ => by
  subst e
  obtain ⟨u, v, rfl, r1, r2⟩ := ra.inv2
  exact ⟨u, v, p, q, rfl, (fr_rp r1).same ok.sm, (fr_rp r2).same ok.sm, s1, s2, trivial, fun H' r' s f => r _ _ _ (stp_of ok.sm s) (rp_fr f)⟩
theorem dd_less (h : K1.Df P w K mg base CX0 k x ["one", "other"] (K1.spLess K)) : Dl.Df P w K mg base k x ["one", "other"] wp_less := ofK h mw_less (.inl rfl) fun vs H Q E ⟨_, o, F, ds, ok, ra, p, q, e, s1, s2, r⟩ => by
  subst e
  obtain ⟨u, v, rfl, r1, r2⟩ := ra.inv2
  exact ⟨u, v, p, q, rfl, (fr_rp r1).same ok.sm, (fr_rp r2).same ok.sm, s1, s2, r _ _ _ (Stp.refl ok.sm) (.bl _)⟩
theorem dd_scalar (h : K1.Df P w K mg base CX0 k x ["one", "other"] (K1.spScalar K)) : Dl.Df P w K mg base k x ["one", "other"] wp_scalar := ofK h mw_scalar (.inl rfl) fun vs H Q E ⟨_, o, F, ds, ok, ra, n, f, g, e, s0, s1, s2, r⟩ => by
  subst e
  obtain ⟨u, v, rfl, r1, r2⟩ := ra.inv2
  exact ⟨u, v, n, f, g, true, true, rfl, (frA_rp r1).same ok.sm, (frA_rp r2).same ok.sm, s0, s1, s2, fun H' r' s f => r _ _ _ (stp_of ok.sm s) (rp_fr f)⟩
theorem dd_fitted (h : K1.Df P w K mg base CX0 k x ["rows", "numbers"] (K1.spFitted K)) : Dl.Df P w K mg base k x ["rows", "numbers"] wp_fitted := ofK h mw_fitted (.inl rfl) fun vs H Q E ⟨_, o, F, ds, ok, ra, m, n, R, g, e, s, q1, q2⟩ => by
  subst e
  obtain ⟨u, v, rfl, r1, r2⟩ := ra.inv2
  refine ⟨u, v, m, n, R, g, rfl, ⟨(frM_rp r1).same ok.sm, (frA_rp r2).same ok.sm, s⟩, fun H' t v y s1 ht hf hb hs => ?_, fun H' t v x s1 ht hf hx hs => ?_⟩
  · exact q1 y hb hs _ _ _ (stp_of ok.sm s1) (.tup (sqT_gr (SqT.of ht)) (.cons (.str _) (.one (rp_frA hf))))
  · exact q2 x hx hs _ _ _ (stp_of ok.sm s1) (.tup (sqT_gr (SqT.of ht)) (.cons (.str _) (.one (rp_frA hf))))
/-- a new exception's dict stands -/
theorem stp_x {o : Option Hd} {F H H' : Hp} (s : Same F H) (e : Same H H') : Stp o F H F H' := Stp.grow s e
theorem dd_fraction {f CN : Addr} {fd : FuncData} (F1 : FnOk P w K mg base CX0 2 f fd ["top", "bottom"] (K1.spFraction K)) (F2 : FnOk P w K mg base (L2.CX P w) 4 f fd ["top", "bottom"] (K1.spFracZ CN)) (hm : mg x = some (.ref f)) (hk : PySem.W.keepIn K (.ref f) = true) (hb : Binds K fd ["top", "bottom"] []) :
    Dl.Df P w K mg base 4 x ["top", "bottom"] (wp_fraction CN) := ⟨⟨f, fd, orK ((toX F1).mono (by decide)) F2 fun vs H Q E ⟨_, o, F, ds, ok, ra, t, b, e, q1, q2⟩ => by
  subst e
  obtain ⟨u, v, rfl, r1, r2⟩ := ra.inv2
  obtain rfl := r1.inv_int
  obtain rfl := r2.inv_int
  by_cases z : b = 0
  · subst z
    exact .inr ⟨t, rfl, fun H' d s hd => q2 rfl F H' d _ (stp_x ok.sm s) hd ⟨rfl, .one (.str _)⟩⟩
  · obtain ⟨h1, h2, q⟩ := q1 z
    exact .inl ⟨t, b, rfl, z, h1, h2, fun H' r s f => q _ _ _ (stp_of ok.sm s) (rp_fr f)⟩, hm, hk, hb⟩, mw_fraction⟩
theorem dd_over {f CN : Addr} {fd : FuncData} (F1 : FnOk P w K mg base CX0 3 f fd ["one", "other"] (K1.spBin K (fun _ q => q ≠ 0) fun p q => p / q)) (F2 : FnOk P w K mg base (L2.CX P w) 5 f fd ["one", "other"] (K1.spOverZ K CN)) (hm : mg x = some (.ref f)) (hk : PySem.W.keepIn K (.ref f) = true) (hb : Binds K fd ["one", "other"] []) :
    Dl.Df P w K mg base 5 x ["one", "other"] (wp_over CN) := ⟨⟨f, fd, orK ((toX F1).mono (by decide)) F2 fun vs H Q E ⟨_, o, F, ds, ok, ra, p, q, e, s1, s2, q1, q2⟩ => by
  subst e
  obtain ⟨u, v, rfl, r1, r2⟩ := ra.inv2
  by_cases z : q = 0
  · subst z
    exact .inr ⟨u, v, p, rfl, (fr_rp r1).same ok.sm, (fr_rp r2).same ok.sm, s1, fun H' d s hd => q2 rfl F H' d _ (stp_x ok.sm s) hd ⟨rfl, .one (.str _)⟩⟩
  · exact .inl ⟨u, v, p, q, rfl, (fr_rp r1).same ok.sm, (fr_rp r2).same ok.sm, s1, s2, z, fun H' r s f => q1 z _ _ _ (stp_of ok.sm s) (rp_fr f)⟩, hm, hk, hb⟩, mw_over⟩
end
end E0
set_option Elab.async false
set_option linter.all false
set_option maxRecDepth 100000
set_option maxHeartbeats 8000000
namespace Eh
open PySem L2 Dl Dh
abbrev sLHand : Stmt := PySem.Challenge.pw_oneverdict_k00_whole_fractions_and_what.main.body.getD 23 (.Pass ⟨0, 0, 0, 0⟩)
abbrev sLDraw : Stmt := PySem.Challenge.pw_oneverdict_k00_whole_fractions_and_what.main.body.getD 24 (.Pass ⟨0, 0, 0, 0⟩)
section
variable {P : Program} {w : World} {K : PySem.W.Frag} {mg : Str → Option Value} {base : Heap}
theorem scLHand : FnScope ["script", "cells", "cell"] ["script"] (defScope sLHand) := ⟨rfl, rfl, rfl, by decide +kernel, rfl, by decide +kernel, by decide +kernel⟩
theorem ok_lhand {f : Addr} {fd : FuncData} (F : Fun K "_law_hand" "_law_hand" sLHand f fd) (zA : mg "abs" = none) (zI : mg "int" = none) (zN : mg "len" = none) : FnOk P w K mg base CX0 1 f fd ["script"] (spHand K) := by
  refine F.ok scLHand (fun vs H Q E h => ?_) (fun cdv A outer s H vs Q E hr h => ?_)
  · obtain ⟨a, ns, rfl, _⟩ := h
    rfl
  · obtain ⟨a, ns, rfl, hS, hl, k⟩ := h
    refine ⟨_, pss_cons (ps_setLc (own := [("cell", 2)]) (i := 1) (g := gName 2) (tt := tYes) rfl scLHand.nd rfl rfl (sw_true rfl rfl rfl (by decide +kernel)) (pi_list (pe_slice sl_list (pv 0) po_none (po_some pe_int)))
        (blkOk_by (N := ["script", "cells", "cell"]) (sc := defScope sLHand) (by decide +kernel))
        (fun _ _ _ _ _ => pg_name (i := 2) scLHand.nd rfl (.inl rfl)) (fun _ _ _ _ _ => pts_nil)
        (fun _ _ _ _ _ => pe_op op_mod (pe_callTy call_int1 (by rfl) zI PyProof.Rows.boot_int (pa_cons (pe_callB call_abs (by rfl) zA PyProof.Rows.boot_abs (pa_cons (pe_callTy call_int1 (by rfl) zI PyProof.Rows.boot_int (pa_cons (pv 2) pa_nil)) pa_nil)) pa_nil)) (pe_op op_pow pe_int pe_int)))
      (pss_one (ps_ret (pe_lst (pa_cons (pv 1) (pa_cons pe_int (pa_cons pe_int (pa_cons (pe_op op_add (pe_op op_mul pe_int (pe_callB call_len_seq (by rfl) zN PySem.boot_len (pa_cons (pv 1) pa_nil))) pe_int) (pa_cons pe_int pa_nil)))))))), ?_⟩
    refine ⟨_, rfl, 63, rfl, a, _, rfl, hS, fun p np => ?_⟩
    have s1 := Same.upd (o := .lst (cutV (ns.map V.int) none (some 63))) np
    have hp : (upd H p (.lst (cutV (ns.map V.int) none (some 63)))) p = some (.lst (cutV (ns.map V.int) none (some 63))) := upd_same
    have cl := cutV_length (ns.map V.int) none (some 63)
    rw [List.length_map] at cl
    have ci : ∀ (i : Nat) (v : V), (cutV (ns.map V.int) none (some 63))[i]? = some v → ∃ z, v = .int z := fun i v hv => by
      unfold cutV at hv
      rw [← List.map_drop, ← List.map_take, List.getElem?_map] at hv
      cases e : (List.take (HT.sIx (List.map V.int ns).length (List.map V.int ns).length (some 63) - HT.sIx (List.map V.int ns).length 0 none) (List.drop (HT.sIx (List.map V.int ns).length 0 none) ns))[i]? with
      | none => rw [e] at hv; cases hv
      | some z => rw [e] at hv; exact ⟨z, (Option.some.inj hv).symm⟩
    generalize cutV (ns.map V.int) none (some 63) = cv at s1 hp cl ci
    generalize upd H p (.lst cv) = H1 at s1 hp
    refine ⟨p, rfl, ⟨_, SqL.of hp⟩, fun D nD => lcR (walk_list (K := K) (a := p) (xs := cv)) (fun i y _ => ∃ z, y = .int z ∧ True) (fun _ _ _ _ _ e => e) nD (by omega) (fun H2 s2 => SqL.of (s2 _ _ hp)) ?_ ?_⟩
    · rintro i x H2 H3 Q' hi s2 _ ⟨rfl, hx⟩ kk
      obtain ⟨z, rfl⟩ := ci i x hx
      refine ⟨rfl, _, rfl, .inl ⟨z, rfl, _, rfl, .inl ⟨_, rfl, _, _, rfl, rfl, ⟨by decide, by decide, by decide⟩, _, _, rfl, rfl, (by show (0 : Int) < 10 ^ 36; decide), kk _ _ (Same.refl _) ⟨_, rfl, True.intro⟩⟩⟩⟩
    · rintro H2 acc s2 hD hlen hr
      obtain ⟨zs, rfl, _⟩ := ints_of hr
      have hz : zs.length ≤ 63 := by rw [List.length_map] at hlen; omega
      refine ⟨_, rfl, _, rfl, D, _, rfl, .inl (SqL.of hD), _, _, rfl, rfl, .inl ⟨by decide, by decide⟩, _, _, rfl, rfl, (by decide : (5 : Nat) ≤ sizeLine), fun q nq => ?_⟩
      exact k _ q D zs ((s1.trans s2).trans (Same.upd nq)) ((s1.trans s2).free nq) ⟨⟨0, 0, _, 0, upd_same, by decide⟩, (Same.upd nq) _ _ hD, ne_of_none hD nq, hz⟩
theorem scLDraw : FnScope ["hand", "below", "cell", "digit", "mixed"] ["hand", "below"] (defScope sLDraw) := ⟨rfl, rfl, rfl, by decide +kernel, rfl, by decide +kernel, by decide +kernel⟩
theorem ok_ldraw {f : Addr} {fd : FuncData} (F : Fun K "_law_draw" "_law_draw" sLDraw f fd) (zI : mg "int" = none) (zN : mg "len" = none) : FnOk P w K mg base CX0 1 f fd ["hand", "below"] spDraw := by
  refine F.ok scLDraw (fun vs H Q E h => ?_) (fun cdv A outer s H vs Q E hr h => ?_)
  · obtain ⟨ha, ca, ns, b, rfl, _⟩ := h
    rfl
  · obtain ⟨ha, ca, ns, b, rfl, hh, hb, hb1, k⟩ := h
    refine ⟨_, pss_cons (ps_if (PW.pt (pw_and (pt_cmpR op_eq (pe_ix (r := rIxL K) ix_list (pv 0) pe_int (fun _ _ => rfl)) pe_int (nomark _)) (pw_and1 (pt_cmpR op_lt (pe_ix (r := rIxL K) ix_list (pv 0) pe_int (fun _ _ => rfl)) (pe_callB call_len_seq (by rfl) zN PySem.boot_len (pa_cons (pe_ix (r := rIxL K) ix_list (pv 0) pe_int (fun _ _ => rfl)) pa_nil)) (nomark _)))))
        (pss_cons (ps_set (i := 2) scLDraw.nd rfl (.inl rfl) (pe_ix (r := rIxL K) ix_list (pe_ix (r := rIxL K) ix_list (pv 0) pe_int (fun _ _ => rfl)) (pe_ix (r := rIxL K) ix_list (pv 0) pe_int (fun _ _ => rfl)) (fun _ _ => rfl)))
        (pss_cons (ps_asg (pe_op op_add (pe_ix (r := rIxL K) ix_list (pv 0) pe_int (fun _ _ => rfl)) pe_int) (pg_sub (pv 0) pe_int set_list))
        (pss_cons (ps_asg (pe_op op_mod (pe_callTy call_int1 (by rfl) zI PyProof.Rows.boot_int (pa_cons (pe_op op_add (pe_op op_add (pe_op op_mul (pe_ix (r := rIxL K) ix_list (pv 0) pe_int (fun _ _ => rfl)) pe_int) (pe_op op_mul (pv 2) pe_int)) pe_int) pa_nil)) pe_int) (pg_sub (pv 0) pe_int set_list))
        (pss_one (ps_if (pt_cmpR op_ge (pv 2) (pe_op op_pow pe_int pe_int) (nomark _)) (pss_one (ps_asg (pv 2) (pg_sub (pv 0) pe_int set_list))) pss_nil))))) pss_nil)
      (pss_cons (ps_if (pt_cmpR op_gt (pe_ix (r := rIxL K) ix_list (pv 0) pe_int (fun _ _ => rfl)) pe_int (nomark _))
        (pss_cons (ps_set (i := 3) scLDraw.nd rfl (.inl rfl) (pe_op op_mod (pe_callTy call_int1 (by rfl) zI PyProof.Rows.boot_int (pa_cons (pe_ix (r := rIxL K) ix_list (pv 0) pe_int (fun _ _ => rfl)) pa_nil)) (pv 1)))
        (pss_cons (ps_asg (pe_op op_fdiv (pe_ix (r := rIxL K) ix_list (pv 0) pe_int (fun _ _ => rfl)) (pv 1)) (pg_sub (pv 0) pe_int set_list))
        (pss_one (ps_ret (pv 3))))) pss_nil)
      (pss_cons (ps_asg (pe_op op_add (pe_ix (r := rIxL K) ix_list (pv 0) pe_int (fun _ _ => rfl)) pe_int) (pg_sub (pv 0) pe_int set_list))
      (pss_cons (ps_set (i := 4) scLDraw.nd rfl (.inl rfl) (pe_op op_mod (pe_callTy call_int1 (by rfl) zI PyProof.Rows.boot_int (pa_cons (pe_op op_mul (pe_callTy call_int1 (by rfl) zI PyProof.Rows.boot_int (pa_cons (pe_op op_add (pe_ix (r := rIxL K) ix_list (pv 0) pe_int (fun _ _ => rfl)) (pe_op op_mul pe_int (pe_ix (r := rIxL K) ix_list (pv 0) pe_int (fun _ _ => rfl)))) pa_nil)) pe_int) pa_nil)) pe_int))
      (pss_cons (ps_set (i := 4) scLDraw.nd rfl (.inl rfl) (pe_op op_mod (pe_callTy call_int1 (by rfl) zI PyProof.Rows.boot_int (pa_cons (pe_op op_mul (pv 4) (pe_op op_add (pe_op op_fdiv (pv 4) pe_int) pe_int)) pa_nil)) pe_int))
      (pss_cons (ps_set (i := 4) scLDraw.nd rfl (.inl rfl) (pe_op op_mod (pe_callTy call_int1 (by rfl) zI PyProof.Rows.boot_int (pa_cons (pe_op op_mul (pv 4) (pe_op op_add (pe_op op_fdiv (pv 4) pe_int) pe_int)) pa_nil)) pe_int))
      (pss_one (ps_ret (pe_op op_mod (pe_callTy call_int1 (by rfl) zI PyProof.Rows.boot_int (pa_cons (pe_op op_fdiv (pv 4) pe_int) pa_nil)) (pv 1))))))))), ?_⟩
    obtain ⟨i0, d0, s0, e0, h0, hi0⟩ := hh.ex
    have hcs := hh.cs
    have up1 : ∀ {o : HO}, KpH ha H (upd H ha o) := fun {o} b u n e => by rw [upd_ne n]; exact e
    have len5 : ∀ (a b c d e : V), ([a, b, c, d, e] : List V).length = 5 := fun _ _ _ _ _ => rfl
    refine ⟨_, rfl, ha, _, _, _, rfl, rfl, SqL.of h0, (rfl : atI [V.ref ca, .int i0, .int d0, .int s0, .int e0] (2 : Int) = some (.int d0)), rfl, _, rfl, ?_⟩
    have go : ∀ (c : Bool), True := fun _ => True.intro
    by_cases hd : d0 = 0
    · rw [decide_eq_true (by rw [hd])]
      refine iteT ?_
      refine ⟨_, rfl, ha, _, _, _, rfl, rfl, SqL.of h0, (rfl : atI [V.ref ca, .int i0, .int d0, .int s0, .int e0] (1 : Int) = some (.int i0)), _, rfl, ha, _, _, _, rfl, rfl, SqL.of h0, (rfl : atI [V.ref ca, .int i0, .int d0, .int s0, .int e0] (0 : Int) = some (.ref ca)), ca, _, rfl, .inl (SqL.of hcs), _, _, rfl, rfl, _, rfl, ?_⟩
      rw [List.length_map]
      by_cases hi : i0 < (ns.length : Int)
      · rw [decide_eq_true hi]
        refine iteT ?_
        obtain ⟨j, rfl⟩ := Int.eq_ofNat_of_zero_le hi0
        have hj : j < ns.length := by omega
        have hcell : (ns.map V.int)[j]? = some (.int ns[j]) := by rw [List.getElem?_map, List.getElem?_eq_getElem hj]; rfl
        refine ⟨_, rfl, ha, _, _, _, rfl, rfl, SqL.of h0, (rfl : atI [V.ref ca, .int (j : Int), .int d0, .int s0, .int e0] (0 : Int) = some (.ref ca)), _, rfl, ha, _, _, _, rfl, rfl, SqL.of h0, (rfl : atI [V.ref ca, .int (j : Int), .int d0, .int s0, .int e0] (1 : Int) = some (.int (j : Int))), ca, _, _, _, rfl, rfl, SqL.of hcs, atI_nat hcell, ?_⟩
        generalize ns[j] = cell
        refine ⟨_, rfl, ha, _, _, _, rfl, rfl, SqL.of h0, (rfl : atI [V.ref ca, .int (j : Int), .int d0, .int s0, .int e0] (1 : Int) = some (.int (j : Int))), _, _, rfl, rfl, _, rfl, ha, _, 1, 1, rfl, rfl, h0, rfl, ?_⟩
        have h1 : (upd H ha (.lst [V.ref ca, .int ((j : Int) + 1), .int d0, .int s0, .int e0])) ha = some (.lst [V.ref ca, .int ((j : Int) + 1), .int d0, .int s0, .int e0]) := upd_same
        refine ⟨_, rfl, ha, _, _, _, rfl, rfl, SqL.of h1, (rfl : atI [V.ref ca, .int ((j : Int) + 1), .int d0, .int s0, .int e0] (3 : Int) = some (.int s0)), _, _, rfl, rfl, .inr ⟨by decide, by decide⟩, _, rfl, _, _, rfl, rfl, .inr ⟨by decide, by decide⟩, _, _, rfl, rfl, _, _, rfl, rfl, .inl ⟨_, rfl, _, _, rfl, rfl, (by show (0 : Int) < 2147483629; decide), _, rfl, ha, _, 3, 3, rfl, rfl, h1, rfl, ?_⟩⟩
        rw [upd_upd]
        refine ⟨_, rfl, _, _, rfl, rfl, ⟨by decide, by decide, by decide⟩, _, _, rfl, rfl, _, rfl, ite2 (fun hc => ?_) fun hc => ?_⟩
        · refine ⟨_, rfl, _, rfl, ha, _, 2, 2, rfl, rfl, upd_same, rfl, ?_⟩
          rw [upd_upd]
          have hx : ∃ i d s e : Int, (upd H ha (.lst ([V.ref ca, .int ((j : Int) + 1), .int d0, .int ((s0 * 69621 + cell * 40692 + 37) % 2147483629), .int e0].set 2 (.int cell)))) ha = some (.lst [.ref ca, .int i, .int d, .int s, .int e]) ∧ 0 ≤ i := ⟨_, _, _, _, upd_same, by omega⟩
          have kx := up1 (o := .lst ([V.ref ca, .int ((j : Int) + 1), .int d0, .int ((s0 * 69621 + cell * 40692 + 37) % 2147483629), .int e0].set 2 (.int cell)))
          change tSeq _ _ _ _ (upd H ha (.lst ([V.ref ca, .int ((j : Int) + 1), .int d0, .int ((s0 * 69621 + cell * 40692 + 37) % 2147483629), .int e0].set 2 (.int cell))))
          generalize upd H ha (.lst ([V.ref ca, .int ((j : Int) + 1), .int d0, .int ((s0 * 69621 + cell * 40692 + 37) % 2147483629), .int e0].set 2 (.int cell))) = H1 at hx kx
          obtain ⟨i1, d1, s1, e1, h1, hi1⟩ := hx
          have hcs1 : H1 ca = some (.lst (ns.map V.int)) := kx _ _ hh.ne hcs
          have up2 : ∀ {o : HO}, KpH ha H (upd H1 ha o) := fun {o} b u n e => by rw [upd_ne n]; exact kx b u n e
          have hnd : ∀ {i d s e : Int}, 0 ≤ i → HandAt (upd H1 ha (.lst [.ref ca, .int i, .int d, .int s, .int e])) ha ca ns := fun {i d s e} h => ⟨⟨i, d, s, e, upd_same, h⟩, by rw [upd_ne hh.ne]; exact hcs1, hh.ne, hh.len⟩
          refine ⟨_, rfl, ha, _, _, _, rfl, rfl, SqL.of h1, (rfl : atI [V.ref ca, .int i1, .int d1, .int s1, .int e1] (2 : Int) = some (.int d1)), _, _, rfl, rfl, _, rfl, ite2 (fun hp => ?_) fun hp => ?_⟩
          · refine ⟨_, rfl, ha, _, _, _, rfl, rfl, SqL.of h1, (rfl : atI [V.ref ca, .int i1, .int d1, .int s1, .int e1] (2 : Int) = some (.int d1)), .inl ⟨d1, rfl, _, rfl, _, _, rfl, rfl, hb, ?_⟩⟩
            refine ⟨_, rfl, ha, _, _, _, rfl, rfl, SqL.of h1, (rfl : atI [V.ref ca, .int i1, .int d1, .int s1, .int e1] (2 : Int) = some (.int d1)), _, rfl, _, _, rfl, rfl, ⟨hb, by omega⟩, _, rfl, ha, _, 2, 2, rfl, rfl, h1, rfl, ?_⟩
            exact ⟨_, rfl, k _ _ up2 (hnd hi1) (Int.emod_nonneg _ (by omega)) (Int.emod_lt_of_pos _ hb)⟩
          · refine ⟨_, rfl, ha, _, _, _, rfl, rfl, SqL.of h1, (rfl : atI [V.ref ca, .int i1, .int d1, .int s1, .int e1] (4 : Int) = some (.int e1)), _, _, rfl, rfl, _, rfl, ha, _, 4, 4, rfl, rfl, h1, rfl, ?_⟩
            have h2 : (upd H1 ha (.lst [V.ref ca, .int i1, .int d1, .int s1, .int (e1 + 1)])) ha = some (.lst [V.ref ca, .int i1, .int d1, .int s1, .int (e1 + 1)]) := upd_same
            refine ⟨_, rfl, ha, _, _, _, rfl, rfl, SqL.of h2, (rfl : atI [V.ref ca, .int i1, .int d1, .int s1, .int (e1 + 1)] (3 : Int) = some (.int s1)), _, rfl, ha, _, _, _, rfl, rfl, SqL.of h2, (rfl : atI [V.ref ca, .int i1, .int d1, .int s1, .int (e1 + 1)] (4 : Int) = some (.int (e1 + 1))), _, _, rfl, rfl, .inl ⟨by decide, by decide⟩, _, _, rfl, rfl, .inl ⟨_, rfl, _, _, rfl, rfl, .inr ⟨by decide, by decide⟩, .inl ⟨_, rfl, _, _, rfl, rfl, (by show (0 : Int) < 2147483647; decide), ?_⟩⟩⟩
            have mr : ∀ (x q : Int), 0 < q → q < 4294967296 → CMul (x % q) (x % q / 1) ∨ True := fun _ _ _ _ => .inr True.intro
            have mb : ∀ (x y q : Int), 0 < q → q < 4294967296 → CMul (x % q) y := fun x y q h1 h2 => .inl ⟨by have := Int.emod_nonneg x (show q ≠ 0 by omega); omega, by have := Int.emod_lt_of_pos x h1; omega⟩
            refine ⟨_, rfl, _, rfl, _, _, rfl, rfl, ⟨by decide, by decide⟩, _, _, rfl, rfl, _, _, rfl, rfl, mb _ _ _ (by decide) (by decide), .inl ⟨_, rfl, _, _, rfl, rfl, (by show (0 : Int) < 2147483647; decide), ?_⟩⟩
            refine ⟨_, rfl, _, rfl, _, _, rfl, rfl, ⟨by decide, by decide⟩, _, _, rfl, rfl, _, _, rfl, rfl, mb _ _ _ (by decide) (by decide), .inl ⟨_, rfl, _, _, rfl, rfl, (by show (0 : Int) < 2147483563; decide), ?_⟩⟩
            refine ⟨_, rfl, _, _, rfl, rfl, ⟨by decide, by decide⟩, .inl ⟨_, rfl, _, rfl, _, _, rfl, rfl, hb, ?_⟩⟩
            exact k _ _ up2 (hnd hi1) (Int.emod_nonneg _ (by omega)) (Int.emod_lt_of_pos _ hb)
        · have hx : ∃ i d s e : Int, (upd H ha (.lst [V.ref ca, .int ((j : Int) + 1), .int d0, .int ((s0 * 69621 + cell * 40692 + 37) % 2147483629), .int e0])) ha = some (.lst [.ref ca, .int i, .int d, .int s, .int e]) ∧ 0 ≤ i := ⟨_, _, _, _, upd_same, by omega⟩
          have kx := up1 (o := .lst [V.ref ca, .int ((j : Int) + 1), .int d0, .int ((s0 * 69621 + cell * 40692 + 37) % 2147483629), .int e0])
          change tSeq _ _ _ _ (upd H ha (.lst [V.ref ca, .int ((j : Int) + 1), .int d0, .int ((s0 * 69621 + cell * 40692 + 37) % 2147483629), .int e0]))
          generalize upd H ha (.lst [V.ref ca, .int ((j : Int) + 1), .int d0, .int ((s0 * 69621 + cell * 40692 + 37) % 2147483629), .int e0]) = H1 at hx kx
          obtain ⟨i1, d1, s1, e1, h1, hi1⟩ := hx
          have hcs1 : H1 ca = some (.lst (ns.map V.int)) := kx _ _ hh.ne hcs
          have up2 : ∀ {o : HO}, KpH ha H (upd H1 ha o) := fun {o} b u n e => by rw [upd_ne n]; exact kx b u n e
          have hnd : ∀ {i d s e : Int}, 0 ≤ i → HandAt (upd H1 ha (.lst [.ref ca, .int i, .int d, .int s, .int e])) ha ca ns := fun {i d s e} h => ⟨⟨i, d, s, e, upd_same, h⟩, by rw [upd_ne hh.ne]; exact hcs1, hh.ne, hh.len⟩
          refine ⟨_, rfl, ha, _, _, _, rfl, rfl, SqL.of h1, (rfl : atI [V.ref ca, .int i1, .int d1, .int s1, .int e1] (2 : Int) = some (.int d1)), _, _, rfl, rfl, _, rfl, ite2 (fun hp => ?_) fun hp => ?_⟩
          · refine ⟨_, rfl, ha, _, _, _, rfl, rfl, SqL.of h1, (rfl : atI [V.ref ca, .int i1, .int d1, .int s1, .int e1] (2 : Int) = some (.int d1)), .inl ⟨d1, rfl, _, rfl, _, _, rfl, rfl, hb, ?_⟩⟩
            refine ⟨_, rfl, ha, _, _, _, rfl, rfl, SqL.of h1, (rfl : atI [V.ref ca, .int i1, .int d1, .int s1, .int e1] (2 : Int) = some (.int d1)), _, rfl, _, _, rfl, rfl, ⟨hb, by omega⟩, _, rfl, ha, _, 2, 2, rfl, rfl, h1, rfl, ?_⟩
            exact ⟨_, rfl, k _ _ up2 (hnd hi1) (Int.emod_nonneg _ (by omega)) (Int.emod_lt_of_pos _ hb)⟩
          · refine ⟨_, rfl, ha, _, _, _, rfl, rfl, SqL.of h1, (rfl : atI [V.ref ca, .int i1, .int d1, .int s1, .int e1] (4 : Int) = some (.int e1)), _, _, rfl, rfl, _, rfl, ha, _, 4, 4, rfl, rfl, h1, rfl, ?_⟩
            have h2 : (upd H1 ha (.lst [V.ref ca, .int i1, .int d1, .int s1, .int (e1 + 1)])) ha = some (.lst [V.ref ca, .int i1, .int d1, .int s1, .int (e1 + 1)]) := upd_same
            refine ⟨_, rfl, ha, _, _, _, rfl, rfl, SqL.of h2, (rfl : atI [V.ref ca, .int i1, .int d1, .int s1, .int (e1 + 1)] (3 : Int) = some (.int s1)), _, rfl, ha, _, _, _, rfl, rfl, SqL.of h2, (rfl : atI [V.ref ca, .int i1, .int d1, .int s1, .int (e1 + 1)] (4 : Int) = some (.int (e1 + 1))), _, _, rfl, rfl, .inl ⟨by decide, by decide⟩, _, _, rfl, rfl, .inl ⟨_, rfl, _, _, rfl, rfl, .inr ⟨by decide, by decide⟩, .inl ⟨_, rfl, _, _, rfl, rfl, (by show (0 : Int) < 2147483647; decide), ?_⟩⟩⟩
            have mr : ∀ (x q : Int), 0 < q → q < 4294967296 → CMul (x % q) (x % q / 1) ∨ True := fun _ _ _ _ => .inr True.intro
            have mb : ∀ (x y q : Int), 0 < q → q < 4294967296 → CMul (x % q) y := fun x y q h1 h2 => .inl ⟨by have := Int.emod_nonneg x (show q ≠ 0 by omega); omega, by have := Int.emod_lt_of_pos x h1; omega⟩
            refine ⟨_, rfl, _, rfl, _, _, rfl, rfl, ⟨by decide, by decide⟩, _, _, rfl, rfl, _, _, rfl, rfl, mb _ _ _ (by decide) (by decide), .inl ⟨_, rfl, _, _, rfl, rfl, (by show (0 : Int) < 2147483647; decide), ?_⟩⟩
            refine ⟨_, rfl, _, rfl, _, _, rfl, rfl, ⟨by decide, by decide⟩, _, _, rfl, rfl, _, _, rfl, rfl, mb _ _ _ (by decide) (by decide), .inl ⟨_, rfl, _, _, rfl, rfl, (by show (0 : Int) < 2147483563; decide), ?_⟩⟩
            refine ⟨_, rfl, _, _, rfl, rfl, ⟨by decide, by decide⟩, .inl ⟨_, rfl, _, rfl, _, _, rfl, rfl, hb, ?_⟩⟩
            exact k _ _ up2 (hnd hi1) (Int.emod_nonneg _ (by omega)) (Int.emod_lt_of_pos _ hb)
      · rw [decide_eq_false hi]
        refine iteF ?_
        have hx : ∃ i d s e : Int, H ha = some (.lst [.ref ca, .int i, .int d, .int s, .int e]) ∧ 0 ≤ i := ⟨_, _, _, _, h0, hi0⟩
        obtain ⟨H1, hH1⟩ : ∃ H1, H1 = H := ⟨H, rfl⟩
        have kx : KpH ha H H1 := by rw [hH1]; exact fun _ _ _ e => e
        rw [← hH1] at hx
        rw [← hH1]
        obtain ⟨i1, d1, s1, e1, h1, hi1⟩ := hx
        have hcs1 : H1 ca = some (.lst (ns.map V.int)) := kx _ _ hh.ne hcs
        have up2 : ∀ {o : HO}, KpH ha H (upd H1 ha o) := fun {o} b u n e => by rw [upd_ne n]; exact kx b u n e
        have hnd : ∀ {i d s e : Int}, 0 ≤ i → HandAt (upd H1 ha (.lst [.ref ca, .int i, .int d, .int s, .int e])) ha ca ns := fun {i d s e} h => ⟨⟨i, d, s, e, upd_same, h⟩, by rw [upd_ne hh.ne]; exact hcs1, hh.ne, hh.len⟩
        refine ⟨_, rfl, ha, _, _, _, rfl, rfl, SqL.of h1, (rfl : atI [V.ref ca, .int i1, .int d1, .int s1, .int e1] (2 : Int) = some (.int d1)), _, _, rfl, rfl, _, rfl, ite2 (fun hp => ?_) fun hp => ?_⟩
        · refine ⟨_, rfl, ha, _, _, _, rfl, rfl, SqL.of h1, (rfl : atI [V.ref ca, .int i1, .int d1, .int s1, .int e1] (2 : Int) = some (.int d1)), .inl ⟨d1, rfl, _, rfl, _, _, rfl, rfl, hb, ?_⟩⟩
          refine ⟨_, rfl, ha, _, _, _, rfl, rfl, SqL.of h1, (rfl : atI [V.ref ca, .int i1, .int d1, .int s1, .int e1] (2 : Int) = some (.int d1)), _, rfl, _, _, rfl, rfl, ⟨hb, by omega⟩, _, rfl, ha, _, 2, 2, rfl, rfl, h1, rfl, ?_⟩
          exact ⟨_, rfl, k _ _ up2 (hnd hi1) (Int.emod_nonneg _ (by omega)) (Int.emod_lt_of_pos _ hb)⟩
        · refine ⟨_, rfl, ha, _, _, _, rfl, rfl, SqL.of h1, (rfl : atI [V.ref ca, .int i1, .int d1, .int s1, .int e1] (4 : Int) = some (.int e1)), _, _, rfl, rfl, _, rfl, ha, _, 4, 4, rfl, rfl, h1, rfl, ?_⟩
          have h2 : (upd H1 ha (.lst [V.ref ca, .int i1, .int d1, .int s1, .int (e1 + 1)])) ha = some (.lst [V.ref ca, .int i1, .int d1, .int s1, .int (e1 + 1)]) := upd_same
          refine ⟨_, rfl, ha, _, _, _, rfl, rfl, SqL.of h2, (rfl : atI [V.ref ca, .int i1, .int d1, .int s1, .int (e1 + 1)] (3 : Int) = some (.int s1)), _, rfl, ha, _, _, _, rfl, rfl, SqL.of h2, (rfl : atI [V.ref ca, .int i1, .int d1, .int s1, .int (e1 + 1)] (4 : Int) = some (.int (e1 + 1))), _, _, rfl, rfl, .inl ⟨by decide, by decide⟩, _, _, rfl, rfl, .inl ⟨_, rfl, _, _, rfl, rfl, .inr ⟨by decide, by decide⟩, .inl ⟨_, rfl, _, _, rfl, rfl, (by show (0 : Int) < 2147483647; decide), ?_⟩⟩⟩
          have mr : ∀ (x q : Int), 0 < q → q < 4294967296 → CMul (x % q) (x % q / 1) ∨ True := fun _ _ _ _ => .inr True.intro
          have mb : ∀ (x y q : Int), 0 < q → q < 4294967296 → CMul (x % q) y := fun x y q h1 h2 => .inl ⟨by have := Int.emod_nonneg x (show q ≠ 0 by omega); omega, by have := Int.emod_lt_of_pos x h1; omega⟩
          refine ⟨_, rfl, _, rfl, _, _, rfl, rfl, ⟨by decide, by decide⟩, _, _, rfl, rfl, _, _, rfl, rfl, mb _ _ _ (by decide) (by decide), .inl ⟨_, rfl, _, _, rfl, rfl, (by show (0 : Int) < 2147483647; decide), ?_⟩⟩
          refine ⟨_, rfl, _, rfl, _, _, rfl, rfl, ⟨by decide, by decide⟩, _, _, rfl, rfl, _, _, rfl, rfl, mb _ _ _ (by decide) (by decide), .inl ⟨_, rfl, _, _, rfl, rfl, (by show (0 : Int) < 2147483563; decide), ?_⟩⟩
          refine ⟨_, rfl, _, _, rfl, rfl, ⟨by decide, by decide⟩, .inl ⟨_, rfl, _, rfl, _, _, rfl, rfl, hb, ?_⟩⟩
          exact k _ _ up2 (hnd hi1) (Int.emod_nonneg _ (by omega)) (Int.emod_lt_of_pos _ hb)
    · rw [decide_eq_false (fun z => hd (V.int.inj z))]
      refine iteF (iteF ?_)
      have hx : ∃ i d s e : Int, H ha = some (.lst [.ref ca, .int i, .int d, .int s, .int e]) ∧ 0 ≤ i := ⟨_, _, _, _, h0, hi0⟩
      obtain ⟨H1, hH1⟩ : ∃ H1, H1 = H := ⟨H, rfl⟩
      have kx : KpH ha H H1 := by rw [hH1]; exact fun _ _ _ e => e
      rw [← hH1] at hx
      rw [← hH1]
      obtain ⟨i1, d1, s1, e1, h1, hi1⟩ := hx
      have hcs1 : H1 ca = some (.lst (ns.map V.int)) := kx _ _ hh.ne hcs
      have up2 : ∀ {o : HO}, KpH ha H (upd H1 ha o) := fun {o} b u n e => by rw [upd_ne n]; exact kx b u n e
      have hnd : ∀ {i d s e : Int}, 0 ≤ i → HandAt (upd H1 ha (.lst [.ref ca, .int i, .int d, .int s, .int e])) ha ca ns := fun {i d s e} h => ⟨⟨i, d, s, e, upd_same, h⟩, by rw [upd_ne hh.ne]; exact hcs1, hh.ne, hh.len⟩
      refine ⟨_, rfl, ha, _, _, _, rfl, rfl, SqL.of h1, (rfl : atI [V.ref ca, .int i1, .int d1, .int s1, .int e1] (2 : Int) = some (.int d1)), _, _, rfl, rfl, _, rfl, ite2 (fun hp => ?_) fun hp => ?_⟩
      · refine ⟨_, rfl, ha, _, _, _, rfl, rfl, SqL.of h1, (rfl : atI [V.ref ca, .int i1, .int d1, .int s1, .int e1] (2 : Int) = some (.int d1)), .inl ⟨d1, rfl, _, rfl, _, _, rfl, rfl, hb, ?_⟩⟩
        refine ⟨_, rfl, ha, _, _, _, rfl, rfl, SqL.of h1, (rfl : atI [V.ref ca, .int i1, .int d1, .int s1, .int e1] (2 : Int) = some (.int d1)), _, rfl, _, _, rfl, rfl, ⟨hb, by omega⟩, _, rfl, ha, _, 2, 2, rfl, rfl, h1, rfl, ?_⟩
        exact ⟨_, rfl, k _ _ up2 (hnd hi1) (Int.emod_nonneg _ (by omega)) (Int.emod_lt_of_pos _ hb)⟩
      · refine ⟨_, rfl, ha, _, _, _, rfl, rfl, SqL.of h1, (rfl : atI [V.ref ca, .int i1, .int d1, .int s1, .int e1] (4 : Int) = some (.int e1)), _, _, rfl, rfl, _, rfl, ha, _, 4, 4, rfl, rfl, h1, rfl, ?_⟩
        have h2 : (upd H1 ha (.lst [V.ref ca, .int i1, .int d1, .int s1, .int (e1 + 1)])) ha = some (.lst [V.ref ca, .int i1, .int d1, .int s1, .int (e1 + 1)]) := upd_same
        refine ⟨_, rfl, ha, _, _, _, rfl, rfl, SqL.of h2, (rfl : atI [V.ref ca, .int i1, .int d1, .int s1, .int (e1 + 1)] (3 : Int) = some (.int s1)), _, rfl, ha, _, _, _, rfl, rfl, SqL.of h2, (rfl : atI [V.ref ca, .int i1, .int d1, .int s1, .int (e1 + 1)] (4 : Int) = some (.int (e1 + 1))), _, _, rfl, rfl, .inl ⟨by decide, by decide⟩, _, _, rfl, rfl, .inl ⟨_, rfl, _, _, rfl, rfl, .inr ⟨by decide, by decide⟩, .inl ⟨_, rfl, _, _, rfl, rfl, (by show (0 : Int) < 2147483647; decide), ?_⟩⟩⟩
        have mr : ∀ (x q : Int), 0 < q → q < 4294967296 → CMul (x % q) (x % q / 1) ∨ True := fun _ _ _ _ => .inr True.intro
        have mb : ∀ (x y q : Int), 0 < q → q < 4294967296 → CMul (x % q) y := fun x y q h1 h2 => .inl ⟨by have := Int.emod_nonneg x (show q ≠ 0 by omega); omega, by have := Int.emod_lt_of_pos x h1; omega⟩
        refine ⟨_, rfl, _, rfl, _, _, rfl, rfl, ⟨by decide, by decide⟩, _, _, rfl, rfl, _, _, rfl, rfl, mb _ _ _ (by decide) (by decide), .inl ⟨_, rfl, _, _, rfl, rfl, (by show (0 : Int) < 2147483647; decide), ?_⟩⟩
        refine ⟨_, rfl, _, rfl, _, _, rfl, rfl, ⟨by decide, by decide⟩, _, _, rfl, rfl, _, _, rfl, rfl, mb _ _ _ (by decide) (by decide), .inl ⟨_, rfl, _, _, rfl, rfl, (by show (0 : Int) < 2147483563; decide), ?_⟩⟩
        refine ⟨_, rfl, _, _, rfl, rfl, ⟨by decide, by decide⟩, .inl ⟨_, rfl, _, rfl, _, _, rfl, rfl, hb, ?_⟩⟩
        exact k _ _ up2 (hnd hi1) (Int.emod_nonneg _ (by omega)) (Int.emod_lt_of_pos _ hb)
end
end Eh
set_option Elab.async false
set_option linter.all false
set_option maxRecDepth 100000
set_option maxHeartbeats 1000000
namespace E0
open PySem L2 Dl Dh
abbrev top (i : Nat) : Stmt := K1.top i
local macro_rules | `(tactic| trivial) => `(tactic| refine ⟨by decide, ?_⟩)
local macro_rules | `(tactic| trivial) => `(tactic| refine ⟨rfl, ?_⟩)
local macro_rules | `(tactic| trivial) => `(tactic| refine ⟨_, _, _, rfl, rfl, rfl, ?_⟩)
local macro_rules | `(tactic| trivial) => `(tactic| refine ⟨_, _, rfl, rfl, True.intro, ?_⟩)
local macro_rules | `(tactic| trivial) => `(tactic| refine ⟨_, rfl, ?_⟩)
/-- levels -/
abbrev L_common_divisor := 1
abbrev L_is_integer := 1
abbrev L_is_fraction := 2
abbrev L_plus := 3
abbrev L_total := 4
abbrev L__law_common := 1
abbrev L__law_low := 2
abbrev L__law_plus := 3
abbrev L__law_times := 3
abbrev L__law_draw := 1
abbrev L__law_fraction := 3
abbrev L__law_scalar := 4
abbrev L__law_is_fraction := 2
abbrev wp_common_divisor := wp_common
abbrev wp__law_common := wp_common
abbrev wp_plus := wp_bin fun p q => p + q
abbrev wp__law_draw := wp_draw
def isInt : D → Bool
  | .int _ => true
  | _ => false
def isFr : D → Bool
  | .tup [.int a, .int b] => decide (0 < b) && decide (Int.gcd a b = 1)
  | _ => false
def wp_is_integer : WP := fun ds Q _ => ∃ d, ds = [d] ∧ D.isP d = true ∧ Q (.bl (isInt d))
theorem mw_is_integer : MW wp_is_integer := ⟨fun h _ ⟨d, e, p, q⟩ => ⟨d, e, p, h _ q⟩⟩
def wp_is_fraction : WP := fun ds Q _ => ∃ d, ds = [d] ∧ D.isP d = true ∧ Q (.bl (isFr d))
theorem mw_is_fraction : MW wp_is_fraction := ⟨fun h _ ⟨d, e, p, q⟩ => ⟨d, e, p, h _ q⟩⟩
abbrev wp__law_is_fraction := wp_is_fraction
def wp_total : WP := fun ds Q _ => ∃ k f, ds = [.tup (frs k f)] ∧ k ≤ 5 ∧ (∀ j, j < k → K1.Sm 500 (f j)) ∧ Q (fr (Sx.sm k f))
theorem mw_total : MW wp_total := ⟨fun h _ ⟨k, f, e, a, b, q⟩ => ⟨k, f, e, a, b, h _ q⟩⟩
def wp__law_low : WP := fun ds Q _ => ∃ t b : Int, ds = [.int t, .int b] ∧ b ≠ 0 ∧ b.natAbs < 2 ^ 8900 ∧ Q (fr (Rat.divInt t b))
theorem mw__law_low : MW wp__law_low := ⟨fun h _ ⟨t, b, e, a1, a2, q⟩ => ⟨t, b, e, a1, a2, h _ q⟩⟩
def wp_lbin (g : Rat → Rat → Rat) : WP := fun ds Q _ => ∃ p q, ds = [fr p, fr q] ∧ K1.Sm 4400 p ∧ K1.Sm 4400 q ∧ Q (fr (g p q))
theorem mw_lbin {g : Rat → Rat → Rat} : MW (wp_lbin g) := ⟨fun h _ ⟨p, q, e, s1, s2, r⟩ => ⟨p, q, e, s1, s2, h _ r⟩⟩
abbrev wp__law_plus := wp_lbin fun p q => p + q
abbrev wp__law_times := wp_lbin fun p q => p * q
/-- the fractions that are drawn -/
def Drawn (q : Rat) : Prop := Sx.Bd 72 (q * 12)
theorem Drawn.bd {q : Rat} (h : Drawn q) : Sx.Bd 144 (q * 24) := by
  obtain ⟨z, e, l⟩ := h
  exact ⟨z * 2, by rw [Rat.intCast_mul, ← e]; show q * 24 = q * 12 * 2; grind, by omega⟩
theorem Drawn.sm {q : Rat} (h : Drawn q) : K1.Sm 100 q := K1.bd_sm (h.bd.mono (by decide))
def wp__law_fraction : WP := fun ds Q _ => ds = [.hand] ∧ ∀ q, Drawn q → Q (fr q)
theorem mw__law_fraction : MW wp__law_fraction := ⟨fun h _ ⟨e, q⟩ => ⟨e, fun r d => h _ (q r d)⟩⟩
def wp__law_scalar : WP := fun ds Q _ => ∃ x y k f g, ∃ a b : Nat, ds = [x, y] ∧ SqD x (frs k f) ∧ SqD y (frs k g) ∧ 1 + k * (a + b + 1) ≤ 4400 ∧ (∀ j, j < k → K1.Sm a (f j)) ∧ (∀ j, j < k → K1.Sm b (g j)) ∧ Q (fr (Sx.sm k fun j => f j * g j))
theorem mw__law_scalar : MW wp__law_scalar := ⟨fun h _ ⟨x, y, k, f, g, a, b, e, s1, s2, s3, s4, s5, q⟩ => ⟨x, y, k, f, g, a, b, e, s1, s2, s3, s4, s5, h _ q⟩⟩
theorem s0 : 0 < sizeLine := by decide
theorem s1 : 1 < sizeLine := by decide
theorem z2 : 2 ≤ sizeLine := by decide
theorem kit1 : kitB "NoneType" "int" = some false ∧ kitB "bool" "int" = some true ∧ kitB "int" "int" = some true ∧ kitB "str" "int" = some false ∧ kitB "list" "int" = some false ∧ kitB "tuple" "int" = some false := by decide +kernel
theorem kit2 : kitB "NoneType" "bool" = some false ∧ kitB "bool" "bool" = some true ∧ kitB "int" "bool" = some false ∧ kitB "str" "bool" = some false ∧ kitB "list" "bool" = some false ∧ kitB "tuple" "bool" = some false := by decide +kernel
theorem kit3 : kitB "NoneType" "tuple" = some false ∧ kitB "bool" "tuple" = some false ∧ kitB "int" "tuple" = some false ∧ kitB "str" "tuple" = some false ∧ kitB "list" "tuple" = some false ∧ kitB "tuple" "tuple" = some true := by decide +kernel
section
variable {P : Program} {w : World} {K : PySem.W.Frag} {mg : Str → Option Value} {base : Heap}
abbrev s_is_integer : Stmt := top 7
abbrev N_is_integer : List Str := ["thing"]
theorem sc_is_integer : FnScope N_is_integer ["thing"] (defScope s_is_integer) := ⟨rfl, rfl, rfl, by decide +kernel, rfl, by decide +kernel, by decide +kernel⟩
theorem ok_is_integer {f : Addr} {fd : FuncData} (F : Fun K "is_integer" "is_integer" s_is_integer f fd) (z_bool : mg "bool" = none) (z_int : mg "int" = none) (z_isinstance : mg "isinstance" = none) : FnOk P w K mg base (L2.CX P w) (L_is_integer) f fd ["thing"] (spD K 1 wp_is_integer) := by
  refine okD F sc_is_integer fun cdv A outer s H E o pb W hr tk => ⟨_, (dss_one (ds_ret (de_and (de_isi (by rfl) z_isinstance (da_cons (dv 0) (da_cons (de_bltn (pe_bltn (v := V.ty "int") (by rfl) z_int PyProof.Rows.boot_int rfl)) da_nil))) (de_one (de_not (de_isi (by rfl) z_isinstance (da_cons (dv 0) (da_cons (de_bltn (pe_bltn (v := V.ty "bool") (by rfl) z_bool PyProof.Rows.boot_bool rfl)) da_nil)))))))), fun ds Q Z hl h => ?_⟩
  obtain ⟨d, rfl, hp, h⟩ := h
  cases d with
  | non => exact ⟨_, rfl, _, _, _, _, rfl, rfl, kit1.1, false, rfl, h⟩
  | bl b => exact ⟨_, rfl, _, _, _, _, rfl, rfl, kit1.2.1, true, rfl, _, rfl, _, _, _, _, rfl, rfl, kit2.2.1, _, rfl, h⟩
  | int i => exact ⟨_, rfl, _, _, _, _, rfl, rfl, kit1.2.2.1, true, rfl, _, rfl, _, _, _, _, rfl, rfl, kit2.2.2.1, _, rfl, h⟩
  | str s => exact ⟨_, rfl, _, _, _, _, rfl, rfl, kit1.2.2.2.1, false, rfl, h⟩
  | lst xs => exact ⟨_, rfl, _, _, _, _, rfl, rfl, kit1.2.2.2.2.1, false, rfl, h⟩
  | tup xs => exact ⟨_, rfl, _, _, _, _, rfl, rfl, kit1.2.2.2.2.2, false, rfl, h⟩
  | hand => cases hp
  | ty => cases hp
  | adr => cases hp
abbrev s_is_fraction : Stmt := top 10
abbrev N_is_fraction : List Str := ["thing", "one"]
theorem sc_is_fraction : FnScope N_is_fraction ["thing"] (defScope s_is_fraction) := ⟨rfl, rfl, rfl, by decide +kernel, rfl, by decide +kernel, by decide +kernel⟩
theorem ok_is_fraction {f : Addr} {fd : FuncData} (F : Fun K "is_fraction" "is_fraction" s_is_fraction f fd) (D_common_divisor : Df P w K mg base L_common_divisor "common_divisor" ["one", "other"] wp_common_divisor) (D_is_integer : Df P w K mg base L_is_integer "is_integer" ["thing"] wp_is_integer) (z_all : mg "all" = none) (z_isinstance : mg "isinstance" = none) (z_len : mg "len" = none) (z_tuple : mg "tuple" = none) : FnOk P w K mg base (L2.CX P w) (L_is_fraction) f fd ["thing"] (spD K 1 wp_is_fraction) := by
  refine okD F sc_is_fraction fun cdv A outer s H E o pb W hr tk => ⟨_, (dss_cons (ds_if (DW.t (dw_or (dt_not (dt_val (de_isi (by rfl) z_isinstance (da_cons (dv 0) (da_cons (de_bltn (pe_bltn (v := V.ty "tuple") (by rfl) z_tuple PyProof.Rows.boot_tuple rfl)) da_nil))))) (dw_or (dt_ne hr.units (de_len (by rfl) z_len (da_cons (dv 0) da_nil)) de_int) (dw_or1 (dt_not (dt_val (de_all rfl (by rfl) z_all (da_cons (de_lc (own := [("one", 1)]) rfl sc_is_fraction.nd (di_tup (dv 0)) (blkOk_by (N := N_is_fraction) (sc := defScope s_is_fraction) (by decide +kernel)) (fun _ _ _ _ _ => pg_name (i := 1) sc_is_fraction.nd rfl (by first | exact .inl rfl | exact .inr rfl)) (tgN (i := 1) (vs := [1])) mgN (fun _ _ _ _ _ => dts_nil) (fun _ _ _ _ _ => (de_call D_is_integer hr (by decide) (by rfl) takes0 (da_cons (dv 1) da_nil)))) da_nil)))))))) (dss_one (ds_ret de_bl)) dss_nil)
      (dss_one (ds_ret (de_and (de_gt (de_ixT (dv 0) de_int) de_int) (de_one (de_eq hr.units (de_call D_common_divisor hr (by decide) (by rfl) tk (da_cons (de_ixT (dv 0) de_int) (da_cons (de_ixT (dv 0) de_int) da_nil))) de_int)))))), fun ds Q Z hl h => ?_⟩
  obtain ⟨d, rfl, hp, h⟩ := h
  cases d with
  | non => exact ⟨_, rfl, _, _, _, _, rfl, rfl, kit3.1, _, rfl, h⟩
  | bl b => exact ⟨_, rfl, _, _, _, _, rfl, rfl, kit3.2.1, _, rfl, h⟩
  | int i => exact ⟨_, rfl, _, _, _, _, rfl, rfl, kit3.2.2.1, _, rfl, h⟩
  | str s => exact ⟨_, rfl, _, _, _, _, rfl, rfl, kit3.2.2.2.1, _, rfl, h⟩
  | lst xs => exact ⟨_, rfl, _, _, _, _, rfl, rfl, kit3.2.2.2.2.1, _, rfl, h⟩
  | tup xs =>
    refine ⟨_, rfl, _, _, _, _, rfl, rfl, kit3.2.2.2.2.2, _, rfl, ?_⟩
    refine ⟨_, rfl, _, _, rfl, .tup xs, rfl, rfl, _, rfl, ?_⟩
    match xs, hp, h with
    | [], hp, h => exact h
    | [x], hp, h =>
      rw [show isFr (.tup [x]) = false by cases x <;> rfl] at h
      exact h
    | x :: y :: z :: r, hp, h =>
      have e : (D.int ((x :: y :: z :: r).length : Nat)).eqv (.int 2) = false := by
        show (((x :: y :: z :: r).length : Int) == 2) = false
        rw [beq_eq_false_iff_ne]
        simp
        omega
      rw [e]
      rw [show isFr (.tup (x :: y :: z :: r)) = false by cases x <;> first | rfl | (cases y <;> rfl)] at h
      exact h
    | [x, y], hp, h =>
      have hx : D.isP x = true := by simp [D.isP, D.isPs] at hp; exact hp.1
      have hy : D.isP y = true := by simp [D.isP, D.isPs] at hp; exact hp.2
      refine ⟨_, rfl, _, rfl, _, rfl, rfl, x, rfl, hx, s0, _, rfl, rfl, y, rfl, hy, s1, [isInt x, isInt y], rfl, _, rfl, ?_⟩
      show (if (!([isInt x, isInt y].all id)) = true then _ else _)
      match x, y, h with
      | .int a, .int b, h =>
        refine ⟨_, rfl, _, _, _, rfl, rfl, rfl, _, _, rfl, rfl, True.intro, _, rfl, ?_⟩
        by_cases c : 0 < b
        · rw [decide_eq_true c]
          refine iteT ?_
          refine ⟨_, rfl, _, _, _, rfl, rfl, rfl, _, rfl, _, _, _, rfl, rfl, rfl, rfl, a, b, rfl, rfl, rfl, ?_⟩
          have e : isFr (.tup [.int a, .int b]) = D.eqv (.int (Int.gcd a b : Nat)) (.int 1) := by
            show (decide (0 < b) && decide (Int.gcd a b = 1)) = (((Int.gcd a b : Nat) : Int) == 1)
            rw [decide_eq_true c, Bool.true_and, Bool.eq_iff_iff, decide_eq_true_eq, beq_iff_eq]
            omega
          rw [← e]
          exact h
        · rw [decide_eq_false c]
          have e : isFr (.tup [.int a, .int b]) = false := by
            show (decide (0 < b) && decide (Int.gcd a b = 1)) = false
            rw [decide_eq_false c, Bool.false_and]
          rw [e] at h
          exact h
      | .non, _, h | .bl _, _, h | .str _, _, h | .lst _, _, h | .tup _, _, h | .hand, _, h | .ty _, _, h | .adr _, _, h => exact h
      | .int _, .non, h | .int _, .bl _, h | .int _, .str _, h | .int _, .lst _, h | .int _, .tup _, h | .int _, .hand, h | .int _, .ty _, h | .int _, .adr _, h => exact h
  | hand => cases hp
  | ty => cases hp
  | adr => cases hp
abbrev s__law_low : Stmt := top 26
abbrev N__law_low : List Str := ["top", "bottom", "by"]
theorem sc__law_low : FnScope N__law_low ["top", "bottom"] (defScope s__law_low) := ⟨rfl, rfl, rfl, by decide +kernel, rfl, by decide +kernel, by decide +kernel⟩
theorem ok__law_low {f : Addr} {fd : FuncData} (F : Fun K "_law_low" "_law_low" s__law_low f fd) (D__law_common : Df P w K mg base L__law_common "_law_common" ["one", "other"] wp__law_common) : FnOk P w K mg base (L2.CX P w) (L__law_low) f fd ["top", "bottom"] (spD K 2 wp__law_low) := by
  refine okD F sc__law_low fun cdv A outer s H E o pb W hr tk => ⟨_, (dss_cons (ds_set (i := 2) sc__law_low.nd rfl (by first | exact .inl rfl | exact .inr rfl) (de_call D__law_common hr (by decide) (by rfl) tk (da_cons (dv 0) (da_cons (dv 1) da_nil))))
      (dss_one (ds_ret (de_if (dt_gt (dv 1) de_int) (de_tup (da_cons (de_fdiv (dv 0) (dv 2)) (da_cons (de_fdiv (dv 1) (dv 2)) da_nil))) (de_tup (da_cons (de_sub de_int (de_fdiv (dv 0) (dv 2))) (da_cons (de_sub de_int (de_fdiv (dv 1) (dv 2))) da_nil))))))), fun ds Q Z hl h => ?_⟩
  obtain ⟨a, b, rfl, h0, hb, h⟩ := h
  have dv : ∀ i, CDivW i (Int.gcd a b : Nat) := fun i => by
    have h3 := Int.gcd_pos_of_ne_zero_right a (b := b) h0
    have h4 : Int.gcd a b ≤ b.natAbs := Nat.le_of_dvd (by omega) (Int.gcd_dvd_natAbs_right a b)
    exact wide_div (b := 8900) (by omega) (Nat.lt_of_le_of_lt h4 hb) (by decide) (by decide)
  repeat trivial
  refine ⟨a, b, rfl, ?_⟩
  repeat trivial
  refine ite2 (fun hc => ?_) fun hc => ?_
  · have c : 0 < b := of_decide_eq_true hc
    obtain ⟨e1, e2⟩ := K1.frac_num c (t := a) (g := (Int.gcd a b : Nat)) rfl
    refine ⟨_, rfl, _, rfl, _, _, rfl, rfl, dv _, _, rfl, _, rfl, _, _, rfl, rfl, dv _, z2, ?_⟩
    show Q (.tup [.int (a / ((Int.gcd a b : Nat) : Int)), .int (b / ((Int.gcd a b : Nat) : Int))])
    rw [e1, e2]
    exact h
  · have c : b < 0 := by
      have : ¬ 0 < b := fun z => hc (decide_eq_true z)
      omega
    obtain ⟨e1, e2⟩ := K1.frac_num (b := -b) (by omega) (t := -a) (g := (Int.gcd a b : Nat)) (by rw [Int.gcd_neg, Int.neg_gcd])
    refine ⟨_, rfl, _, rfl, _, _, rfl, rfl, dv _, _, _, rfl, rfl, True.intro, _, rfl, _, rfl, _, _, rfl, rfl, dv _, _, _, rfl, rfl, True.intro, z2, ?_⟩
    have f1 : 0 - a / ((Int.gcd a b : Nat) : Int) = (Rat.divInt a b).num := by
      rw [← Rat.neg_divInt_neg, ← e1, Int.neg_ediv_of_dvd (Int.gcd_dvd_left ..)]
      omega
    have f2 : 0 - b / ((Int.gcd a b : Nat) : Int) = ((Rat.divInt a b).den : Int) := by
      rw [← Rat.neg_divInt_neg, ← e2, Int.neg_ediv_of_dvd (Int.gcd_dvd_right ..)]
      omega
    show Q (.tup [.int (0 - a / ((Int.gcd a b : Nat) : Int)), .int (0 - b / ((Int.gcd a b : Nat) : Int))])
    rw [f1, f2]
    exact h
abbrev s__law_plus : Stmt := top 27
abbrev N__law_plus : List Str := ["one", "other"]
theorem sc__law_plus : FnScope N__law_plus ["one", "other"] (defScope s__law_plus) := ⟨rfl, rfl, rfl, by decide +kernel, rfl, by decide +kernel, by decide +kernel⟩
theorem ok__law_plus {f : Addr} {fd : FuncData} (F : Fun K "_law_plus" "_law_plus" s__law_plus f fd) (D__law_low : Df P w K mg base L__law_low "_law_low" ["top", "bottom"] wp__law_low) : FnOk P w K mg base (L2.CX P w) (L__law_plus) f fd ["one", "other"] (spD K 2 wp__law_plus) := by
  refine okD F sc__law_plus fun cdv A outer s H E o pb W hr tk => ⟨_, (dss_one (ds_ret (de_call D__law_low hr (by decide) (by rfl) tk (da_cons (de_add (de_mul (de_ixT (dv 0) de_int) (de_ixT (dv 1) de_int)) (de_mul (de_ixT (dv 1) de_int) (de_ixT (dv 0) de_int))) (da_cons (de_mul (de_ixT (dv 0) de_int) (de_ixT (dv 1) de_int)) da_nil))))), fun ds Q Z hl h => ?_⟩
  obtain ⟨p, q, rfl, s1, s2, h⟩ := h
  have mv : ∀ {i j : Int}, i.natAbs < 2 ^ 4400 → j.natAbs < 2 ^ 4400 → CMulW i j := fun h k => wide_mul h k (by decide) (by decide) (by decide)
  refine ⟨_, rfl, _, _, _, rfl, rfl, rfl, _, rfl, _, _, _, rfl, rfl, rfl, _, _, rfl, rfl, mv s1.1 s2.d, _, rfl, _, _, _, rfl, rfl, rfl, _, rfl, _, _, _, rfl, rfl, rfl, _, _, rfl, rfl, mv s2.1 s1.d, _, _, rfl, rfl, True.intro, _, rfl, _, _, _, rfl, rfl, rfl, _, rfl, _, _, _, rfl, rfl, rfl, _, _, rfl, rfl, mv s1.d s2.d, rfl, _, _, rfl, K1.den_dd p q, ?_, ?_⟩
  · exact Nat.lt_of_lt_of_le (K1.mulI s1.d s2.d) (K1.two_le (by decide))
  · rw [← K1.add_eq]; exact h
abbrev s__law_times : Stmt := top 28
abbrev N__law_times : List Str := ["one", "other"]
theorem sc__law_times : FnScope N__law_times ["one", "other"] (defScope s__law_times) := ⟨rfl, rfl, rfl, by decide +kernel, rfl, by decide +kernel, by decide +kernel⟩
theorem ok__law_times {f : Addr} {fd : FuncData} (F : Fun K "_law_times" "_law_times" s__law_times f fd) (D__law_low : Df P w K mg base L__law_low "_law_low" ["top", "bottom"] wp__law_low) : FnOk P w K mg base (L2.CX P w) (L__law_times) f fd ["one", "other"] (spD K 2 wp__law_times) := by
  refine okD F sc__law_times fun cdv A outer s H E o pb W hr tk => ⟨_, (dss_one (ds_ret (de_call D__law_low hr (by decide) (by rfl) tk (da_cons (de_mul (de_ixT (dv 0) de_int) (de_ixT (dv 1) de_int)) (da_cons (de_mul (de_ixT (dv 0) de_int) (de_ixT (dv 1) de_int)) da_nil))))), fun ds Q Z hl h => ?_⟩
  obtain ⟨p, q, rfl, s1, s2, h⟩ := h
  have mv : ∀ {i j : Int}, i.natAbs < 2 ^ 4400 → j.natAbs < 2 ^ 4400 → CMulW i j := fun h k => wide_mul h k (by decide) (by decide) (by decide)
  refine ⟨_, rfl, _, _, _, rfl, rfl, rfl, _, rfl, _, _, _, rfl, rfl, rfl, _, _, rfl, rfl, mv s1.1 s2.1, _, rfl, _, _, _, rfl, rfl, rfl, _, rfl, _, _, _, rfl, rfl, rfl, _, _, rfl, rfl, mv s1.d s2.d, rfl, _, _, rfl, K1.den_dd p q, ?_, ?_⟩
  · exact Nat.lt_of_lt_of_le (K1.mulI s1.d s2.d) (K1.two_le (by decide))
  · rw [← K1.mul_eq]; exact h
abbrev s__law_fraction : Stmt := top 29
abbrev N__law_fraction : List Str := ["hand"]
theorem sc__law_fraction : FnScope N__law_fraction ["hand"] (defScope s__law_fraction) := ⟨rfl, rfl, rfl, by decide +kernel, rfl, by decide +kernel, by decide +kernel⟩
theorem ok__law_fraction {f : Addr} {fd : FuncData} (F : Fun K "_law_fraction" "_law_fraction" s__law_fraction f fd) (D__law_draw : Df P w K mg base L__law_draw "_law_draw" ["hand", "below"] wp__law_draw) (D__law_low : Df P w K mg base L__law_low "_law_low" ["top", "bottom"] wp__law_low) : FnOk P w K mg base (L2.CX P w) (L__law_fraction) f fd ["hand"] (spD K 1 wp__law_fraction) := by
  refine okD F sc__law_fraction fun cdv A outer s H E o pb W hr tk => ⟨_, (dss_one (ds_ret (de_call D__law_low hr (by decide) (by rfl) tk (da_cons (de_sub (de_call D__law_draw hr (by decide) (by rfl) tk (da_cons (dv 0) (da_cons de_int da_nil))) de_int) (da_cons (de_add de_int (de_call D__law_draw hr (by decide) (by rfl) tk (da_cons (dv 0) (da_cons de_int da_nil)))) da_nil))))), fun ds Q Z hl h => ?_⟩
  obtain ⟨rfl, h⟩ := h
  refine ⟨_, rfl, rfl, 13, rfl, by decide, by decide, fun a a0 a1 => ⟨_, _, rfl, rfl, True.intro, _, rfl, rfl, 4, rfl, by decide, by decide, fun b b0 b1 => ⟨_, _, rfl, rfl, True.intro, rfl, a - 6, 1 + b, rfl, by omega, ?_, h _ ?_⟩⟩⟩
  · have : (1 + b).natAbs < 2 ^ 3 := by omega
    exact Nat.lt_of_lt_of_le this (K1.two_le (by decide))
  · have hb : b = 0 ∨ b = 1 ∨ b = 2 ∨ b = 3 := by omega
    rcases hb with rfl | rfl | rfl | rfl
    · exact ⟨(a - 6) * 12, by rw [Rat.divInt_eq_div]; push_cast; grind, by omega⟩
    · exact ⟨(a - 6) * 6, by rw [Rat.divInt_eq_div]; push_cast; grind, by omega⟩
    · exact ⟨(a - 6) * 4, by rw [Rat.divInt_eq_div]; push_cast; grind, by omega⟩
    · exact ⟨(a - 6) * 3, by rw [Rat.divInt_eq_div]; push_cast; grind, by omega⟩
abbrev s__law_scalar : Stmt := top 30
abbrev N__law_scalar : List Str := ["one", "other", "found", "a", "b"]
theorem sc__law_scalar : FnScope N__law_scalar ["one", "other"] (defScope s__law_scalar) := ⟨rfl, rfl, rfl, by decide +kernel, rfl, by decide +kernel, by decide +kernel⟩
theorem ok__law_scalar {f : Addr} {fd : FuncData} (F : Fun K "_law_scalar" "_law_scalar" s__law_scalar f fd) (D__law_plus : Df P w K mg base L__law_plus "_law_plus" ["one", "other"] wp__law_plus) (D__law_times : Df P w K mg base L__law_times "_law_times" ["one", "other"] wp__law_times) (z_zip : mg "zip" = none) : FnOk P w K mg base (L2.CX P w) (L__law_scalar) f fd ["one", "other"] (spD K 2 wp__law_scalar) := by
  refine okD F sc__law_scalar fun cdv A outer s H E o pb W hr tk => ⟨_, (dss_cons (ds_set (i := 2) sc__law_scalar.nd rfl (by first | exact .inl rfl | exact .inr rfl) (de_tup (da_cons de_int (da_cons de_int da_nil))))
      (dss_cons (ds_for (passes_of rfl) rfl (di_zip (by rfl) z_zip (da_cons (dv 0) (da_cons (dv 1) da_nil))) (pg_tup rfl (pgs_cons (pg_name (i := 3) sc__law_scalar.nd rfl (by first | exact .inl rfl | exact .inr rfl)) (pgs_cons (pg_name (i := 4) sc__law_scalar.nd rfl (by first | exact .inl rfl | exact .inr rfl)) pgs_nil))) (tgT2 (i := 3) (j := 4) (vs := [3, 4])) mgT2 (dss_one (ds_set (i := 2) sc__law_scalar.nd rfl (by first | exact .inl rfl | exact .inr rfl) (de_call D__law_plus hr (by decide) (by rfl) tk (da_cons (dv 2) (da_cons (de_call D__law_times hr (by decide) (by rfl) tk (da_cons (dv 3) (da_cons (dv 4) da_nil))) da_nil))))))
      (dss_one (ds_ret (dv 2))))), fun ds Q Z hl h => ?_⟩
  obtain ⟨x, y, k, f, g, a, b, rfl, hx, hy, hk, sf, sg, h⟩ := h
  refine ⟨by decide, _, rfl, _, rfl, _, _, _, _, rfl, hx, hy, by rw [frs_len, frs_len], ?_⟩
  have zl : (zipD (frs k f) (frs k g)).length = k := by simp [zipD, frs_len]
  have sz : ∀ i, i ≤ k → K1.Sm 4400 (Sx.sm i fun j => f j * g j) := fun i hi => (K1.sm_Sm (s := a + b) fun j hj => (sf j (by omega)).mul (sg j (by omega))).mono (by
    have : i * (a + b + 1) ≤ k * (a + b + 1) := Nat.mul_le_mul_right _ hi
    omega)
  have one : ∀ i, i < k → a + b + 1 ≤ 4400 := fun i hi => by
    have : 1 * (a + b + 1) ≤ k * (a + b + 1) := Nat.mul_le_mul_right _ (by omega)
    omega
  refine ⟨fun i ρ => i ≤ k ∧ ∃ u v, ρ = [.dat x, .dat y, .dat (fr (Sx.sm i fun j => f j * g j)), u, v], ⟨Nat.zero_le _, _, _, rfl⟩, ?_, ?_⟩
  · rintro i d ρ e ⟨_, u, v, rfl⟩
    have hi : i < k := by have := (List.getElem?_eq_some_iff.mp e).1; omega
    have hd : d = .tup [fr (f i), fr (g i)] := by
      simp only [zipD, List.getElem?_map, Option.map_eq_some_iff] at e
      obtain ⟨⟨u1, u2⟩, z1, rfl⟩ := e
      rw [List.getElem?_zip_eq_some, frs_get hi, frs_get hi] at z1
      obtain ⟨z1, z2⟩ := z1
      cases z1; cases z2
      rfl
    subst hd
    have := one i hi
    refine ⟨_, _, rfl, _, rfl, _, rfl, _, rfl, rfl, f i, g i, rfl, (sf i hi).mono (by omega), (sg i hi).mono (by omega), rfl, _, _, rfl, sz i (by omega), ((sf i hi).mul (sg i hi)).mono (by omega), hi, _, _, rfl⟩
  · rintro ρ ⟨_, u, v, rfl⟩
    rw [zl]
    exact ⟨_, rfl, h⟩
end
end E0
set_option Elab.async false
set_option linter.all false
set_option maxRecDepth 100000
set_option maxHeartbeats 1000000
namespace E0
open PySem L2 Dl Dh
local macro_rules | `(tactic| trivial) => `(tactic| refine ⟨by decide, ?_⟩)
local macro_rules | `(tactic| trivial) => `(tactic| refine ⟨rfl, ?_⟩)
local macro_rules | `(tactic| trivial) => `(tactic| refine ⟨_, _, _, rfl, rfl, rfl, ?_⟩)
local macro_rules | `(tactic| trivial) => `(tactic| refine ⟨_, _, rfl, rfl, True.intro, ?_⟩)
local macro_rules | `(tactic| trivial) => `(tactic| refine ⟨_, rfl, ?_⟩)
abbrev L__law_rows := 5
abbrev L__law_is_fit := 5
theorem blT {K : D → Prop} {b : Bool} (e : b = true) (k : K (.bl true)) : K (.bl b) := by subst e; exact k
theorem blF {K : D → Prop} {b : Bool} (e : b = false) (k : K (.bl false)) : K (.bl b) := by subst e; exact k
theorem pickF {A B : Prop} {b : Bool} (e : b = false) (h : B) : if b = true then A else B := by subst e; exact h
theorem pickT {A B : Prop} {b : Bool} (e : b = true) (h : A) : if b = true then A else B := by subst e; exact h
theorem len_lt {n : Nat} (h : n ≤ 100) : n < sizeLine := small1000 (by omega)
theorem all_rep {n : Nat} {f : Nat → Bool} (h : ∀ i, i < n → f i = true) : ((List.range n).map f).all id = true := by simp [List.all_eq_true]; exact h
theorem any_rep {n : Nat} {f : Nat → Bool} (h : ∀ i, i < n → f i = false) : ((List.range n).map f).any id = false := by simp [List.any_eq_false]; exact h
theorem map_bl {n : Nat} (f : Nat → Bool) : (List.range n).map (fun i => D.bl (f i)) = ((List.range n).map f).map D.bl := by rw [List.map_map]; rfl
theorem isP_frs (k : Nat) (f : Nat → Rat) : D.isPs (frs k f) = true := by
  have : ∀ l : List Nat, D.isPs (l.map fun j => fr (f j)) = true := fun l => by
    induction l with
    | nil => rfl
    | cons a l ih => show (D.isP (fr (f a)) && D.isPs (l.map fun j => fr (f j))) = true; rw [ih]; rfl
  exact this _
theorem lay_frs (k : Nat) (f : Nat → Rat) : PyData.canLayAll0 (D.toPs (frs k f)) = true ∧ PyData.depthAll (D.toPs (frs k f)) ≤ 1 := by
  have : ∀ l : List Nat, PyData.canLayAll0 (D.toPs (l.map fun j => fr (f j))) = true ∧ PyData.depthAll (D.toPs (l.map fun j => fr (f j))) ≤ 1 := fun l => by
    induction l with
    | nil => exact ⟨rfl, by simp [D.toPs, PyData.depthAll]⟩
    | cons a l ih =>
      have e : PyData.depth (D.toP (fr (f a))) = 1 := by simp [fr, D.toP, D.toPs, PyData.depth, PyData.depthAll]
      constructor
      · simp only [List.map_cons, D.toPs, PyData.canLayAll0, ih.1, Bool.and_true]
        simp [fr, D.toP, D.toPs, PyData.canLay0, PyData.canLayAll0]
      · simp only [List.map_cons, D.toPs, PyData.depthAll, e]
        have := ih.2
        omega
  exact this _
theorem eqOk_lfrs (k : Nat) (f : Nat → Rat) : (D.lst (frs k f)).eqOk = true := by
  obtain ⟨h1, h2⟩ := lay_frs k f
  have e : PyData.depth (.list (D.toPs (frs k f))) = PyData.depthAll (D.toPs (frs k f)) + 1 := by simp [PyData.depth]
  show (D.isPs (frs k f) && (PyData.canLay0 (.list (D.toPs (frs k f))) && decide (PyData.depth (.list (D.toPs (frs k f))) ≤ 64))) = true
  rw [isP_frs, e, decide_eq_true (by omega)]
  simp [PyData.canLay0, h1]
/-- rows that are drawn: small, of one item at least -/
structure Rws (m n : Nat) (R : Nat → Nat → Rat) (g : Nat → Rat) : Prop where
  sml : K1.Sml m n R g
  n0 : 0 < n
  sR : ∀ i, i < m → ∀ j, j < n → K1.Sm 100 (R i j)
  sg : ∀ i, i < m → K1.Sm 100 (g i)
def wp__law_rows : WP := fun ds Q _ => ds = [.hand] ∧ ∀ m n R g, Rws m n R g → ((∃ x, K1.Fe m n R g x) → Q (.tup [.tup (frm m n R), .tup (frs m g), .bl true])) ∧ Q (.tup [.tup (frm m n R), .tup (frs m g), .bl false])
theorem mw__law_rows : MW wp__law_rows := ⟨fun h _ ⟨e, q⟩ => ⟨e, fun m n R g r => ⟨fun x => h _ ((q m n R g r).1 x), h _ (q m n R g r).2⟩⟩⟩
/-- what fitted tells -/
def Fits (m n : Nat) (R : Nat → Nat → Rat) (g : Nat → Rat) (d : D) : Prop :=
  (∃ y, K1.BarR m n R g y ∧ (∀ k, k < m → K1.Sm 1100 (y k)) ∧ d = .tup [.str "bar", .tup (frs m y)]) ∨ (∃ x, K1.Fe m n R g x ∧ (∀ j, j < n → K1.Sm 400 (x j)) ∧ d = .tup [.str "x", .tup (frs n x)])
def wp__law_is_fit : WP := fun ds Q _ => ∃ m n R g d, ds = [.tup (frm m n R), .tup (frs m g), d] ∧ Rws m n R g ∧ Fits m n R g d ∧ Q (.bl true)
theorem mw__law_is_fit : MW wp__law_is_fit := ⟨fun h _ ⟨m, n, R, g, d, e, r, f, q⟩ => ⟨m, n, R, g, d, e, r, f, h _ q⟩⟩
section
variable {P : Program} {w : World} {K : PySem.W.Frag} {mg : Str → Option Value} {base : Heap}
theorem de_globFr {X : Cx} {c : Dc} {x : Str} {z : Addr} {q : Rat} {pos : Pos} (hg : Gl X x) (hm : X.mg x = some (.ref z)) (fz : ∀ H, K1.Fr c.K H (.ref z) q) (hd : (x == ("__debug__" : Str)) = false := by decide) : DE X c (.Name x pos) (gC (fr q)) := deC (pe_glob (v := V.ref z) hg hm rfl hd) fun F => by
  obtain ⟨a, e, h⟩ := fz F
  cases e
  exact .tup h (.cons (.int _) (.one (.int _)))
abbrev s__law_is_fraction : Stmt := top 31
abbrev N__law_is_fraction : List Str := ["thing", "one"]
theorem sc__law_is_fraction : FnScope N__law_is_fraction ["thing"] (defScope s__law_is_fraction) := ⟨rfl, rfl, rfl, by decide +kernel, rfl, by decide +kernel, by decide +kernel⟩
theorem ok__law_is_fraction {f : Addr} {fd : FuncData} (F : Fun K "_law_is_fraction" "_law_is_fraction" s__law_is_fraction f fd) (D__law_common : Df P w K mg base L__law_common "_law_common" ["one", "other"] wp__law_common) (z_all : mg "all" = none) (z_bool : mg "bool" = none) (z_int : mg "int" = none) (z_isinstance : mg "isinstance" = none) (z_len : mg "len" = none) (z_tuple : mg "tuple" = none) : FnOk P w K mg base (L2.CX P w) (L__law_is_fraction) f fd ["thing"] (spD K 1 wp__law_is_fraction) := by
  refine okD F sc__law_is_fraction fun cdv A outer s H E o pb W hr tk => ⟨_, (dss_cons (ds_if (DW.t (dw_or (dt_not (dt_val (de_isi (by rfl) z_isinstance (da_cons (dv 0) (da_cons (de_bltn (pe_bltn (v := V.ty "tuple") (by rfl) z_tuple PyProof.Rows.boot_tuple rfl)) da_nil))))) (dw_or1 (dt_ne hr.units (de_len (by rfl) z_len (da_cons (dv 0) da_nil)) de_int)))) (dss_one (ds_ret de_bl)) dss_nil)
      (dss_cons (ds_if (dt_not (dt_val (de_all rfl (by rfl) z_all (da_cons (de_lc (own := [("one", 1)]) rfl sc__law_is_fraction.nd (di_tup (dv 0)) (blkOk_by (N := N__law_is_fraction) (sc := defScope s__law_is_fraction) (by decide +kernel)) (fun _ _ _ _ _ => pg_name (i := 1) sc__law_is_fraction.nd rfl (by first | exact .inl rfl | exact .inr rfl)) (tgN (i := 1) (vs := [1])) mgN (fun _ _ _ _ _ => dts_nil) (fun _ _ _ _ _ => (de_and (de_isi (by rfl) z_isinstance (da_cons (dv 1) (da_cons (de_bltn (pe_bltn (v := V.ty "int") (by rfl) z_int PyProof.Rows.boot_int rfl)) da_nil))) (de_one (de_not (de_isi (by rfl) z_isinstance (da_cons (dv 1) (da_cons (de_bltn (pe_bltn (v := V.ty "bool") (by rfl) z_bool PyProof.Rows.boot_bool rfl)) da_nil)))))))) da_nil)))) (dss_one (ds_ret de_bl)) dss_nil)
      (dss_one (ds_ret (de_and (de_gt (de_ixT (dv 0) de_int) de_int) (de_one (de_eq hr.units (de_call D__law_common hr (by decide) (by rfl) tk (da_cons (de_ixT (dv 0) de_int) (da_cons (de_ixT (dv 0) de_int) da_nil))) de_int))))))), fun ds Q Z hl h => ?_⟩
  obtain ⟨d, rfl, hp, h⟩ := h
  cases d with
  | non => exact ⟨_, rfl, _, _, _, _, rfl, rfl, kit3.1, _, rfl, h⟩
  | bl b => exact ⟨_, rfl, _, _, _, _, rfl, rfl, kit3.2.1, _, rfl, h⟩
  | int i => exact ⟨_, rfl, _, _, _, _, rfl, rfl, kit3.2.2.1, _, rfl, h⟩
  | str s => exact ⟨_, rfl, _, _, _, _, rfl, rfl, kit3.2.2.2.1, _, rfl, h⟩
  | lst xs => exact ⟨_, rfl, _, _, _, _, rfl, rfl, kit3.2.2.2.2.1, _, rfl, h⟩
  | tup xs =>
    refine ⟨_, rfl, _, _, _, _, rfl, rfl, kit3.2.2.2.2.2, _, rfl, ?_⟩
    refine ⟨_, rfl, _, _, rfl, .tup xs, rfl, rfl, _, rfl, ?_⟩
    match xs, hp, h with
    | [], hp, h => exact h
    | [x], hp, h =>
      rw [show isFr (.tup [x]) = false by cases x <;> rfl] at h
      exact h
    | x :: y :: z :: r, hp, h =>
      have e : (D.int ((x :: y :: z :: r).length : Nat)).eqv (.int 2) = false := by
        show (((x :: y :: z :: r).length : Int) == 2) = false
        rw [beq_eq_false_iff_ne]
        simp
        omega
      rw [e]
      rw [show isFr (.tup (x :: y :: z :: r)) = false by cases x <;> first | rfl | (cases y <;> rfl)] at h
      exact h
    | [x, y], hp, h =>
      have hx : D.isP x = true := by simp [D.isP, D.isPs] at hp; exact hp.1
      have hy : D.isP y = true := by simp [D.isP, D.isPs] at hp; exact hp.2
      have el : ∀ (u : D) (v0 v1 : DV) (K' : D → Prop) (Z' : XD), D.isP u = true → K' (.bl (isInt u)) → (gAndV (gN fIsi (gAc (gVar 1) (gAc (gC (D.ty "int")) gAn))) (g1 fNot (gN fIsi (gAc (gVar 1) (gAc (gC (D.ty "bool")) gAn))))) [v0, .dat u] K' Z' := fun u v0 v1 K' Z' hu k => by
        cases u with
        | non => exact ⟨_, rfl, _, _, _, _, rfl, rfl, kit1.1, false, rfl, k⟩
        | bl b => exact ⟨_, rfl, _, _, _, _, rfl, rfl, kit1.2.1, true, rfl, _, rfl, _, _, _, _, rfl, rfl, kit2.2.1, _, rfl, k⟩
        | int i => exact ⟨_, rfl, _, _, _, _, rfl, rfl, kit1.2.2.1, true, rfl, _, rfl, _, _, _, _, rfl, rfl, kit2.2.2.1, _, rfl, k⟩
        | str s => exact ⟨_, rfl, _, _, _, _, rfl, rfl, kit1.2.2.2.1, false, rfl, k⟩
        | lst xs => exact ⟨_, rfl, _, _, _, _, rfl, rfl, kit1.2.2.2.2.1, false, rfl, k⟩
        | tup xs => exact ⟨_, rfl, _, _, _, _, rfl, rfl, kit1.2.2.2.2.2, false, rfl, k⟩
        | hand => cases hu
        | ty => cases hu
        | adr => cases hu
      refine ⟨_, rfl, _, rfl, el x _ .no _ _ hx ⟨s0, el y _ .no _ _ hy ⟨s1, [isInt x, isInt y], rfl, _, rfl, ?_⟩⟩⟩
      match x, y, h with
      | .int a, .int b, h =>
        refine ⟨_, rfl, _, _, _, rfl, rfl, rfl, _, _, rfl, rfl, True.intro, _, rfl, ?_⟩
        by_cases c : 0 < b
        · rw [decide_eq_true c]
          refine iteT ?_
          refine ⟨_, rfl, _, _, _, rfl, rfl, rfl, _, rfl, _, _, _, rfl, rfl, rfl, rfl, a, b, rfl, rfl, rfl, ?_⟩
          have e : isFr (.tup [.int a, .int b]) = D.eqv (.int (Int.gcd a b : Nat)) (.int 1) := by
            show (decide (0 < b) && decide (Int.gcd a b = 1)) = (((Int.gcd a b : Nat) : Int) == 1)
            rw [decide_eq_true c, Bool.true_and, Bool.eq_iff_iff, decide_eq_true_eq, beq_iff_eq]
            omega
          rw [← e]
          exact h
        · rw [decide_eq_false c]
          have e : isFr (.tup [.int a, .int b]) = false := by
            show (decide (0 < b) && decide (Int.gcd a b = 1)) = false
            rw [decide_eq_false c, Bool.false_and]
          rw [e] at h
          exact h
      | .non, _, h | .bl _, _, h | .str _, _, h | .lst _, _, h | .tup _, _, h | .hand, _, h | .ty _, _, h | .adr _, _, h => exact h
      | .int _, .non, h | .int _, .bl _, h | .int _, .str _, h | .int _, .lst _, h | .int _, .tup _, h | .int _, .hand, h | .int _, .ty _, h | .int _, .adr _, h => exact h
  | hand => cases hp
  | ty => cases hp
  | adr => cases hp
theorem isFr_fr (q : Rat) : isFr (fr q) = true := by
  show (decide (0 < (q.den : Int)) && decide (Int.gcd q.num q.den = 1)) = true
  have := q.den_nz
  rw [decide_eq_true (by omega), decide_eq_true (show Int.gcd q.num (q.den : Int) = 1 from q.reduced)]
  rfl
theorem isP_fr (q : Rat) : D.isP (fr q) = true := rfl
abbrev s_total : Stmt := top 16
abbrev N_total : List Str := ["some", "found", "one"]
theorem sc_total : FnScope N_total ["some"] (defScope s_total) := ⟨rfl, rfl, rfl, by decide +kernel, rfl, by decide +kernel, by decide +kernel⟩
theorem ok_total {f : Addr} {fd : FuncData} {z : Addr} (mz : mg "ZERO" = some (.ref z)) (fz : ∀ H, K1.Fr K H (.ref z) 0) (F : Fun K "total" "total" s_total f fd) (D_plus : Df P w K mg base L_plus "plus" ["one", "other"] wp_plus) : FnOk P w K mg base (L2.CX P w) (L_total) f fd ["some"] (spD K 1 wp_total) := by
  refine okD F sc_total fun cdv A outer s H E o pb W hr tk => ⟨_, (dss_cons (ds_set (i := 1) sc_total.nd rfl (by first | exact .inl rfl | exact .inr rfl) (de_globFr (by rfl) mz fz))
      (dss_cons (ds_for (passes_of rfl) rfl (di_tup (dv 0)) (pg_name (i := 2) sc_total.nd rfl (by first | exact .inl rfl | exact .inr rfl)) (tgN (i := 2) (vs := [2])) mgN (dss_one (ds_set (i := 1) sc_total.nd rfl (by first | exact .inl rfl | exact .inr rfl) (de_call D_plus hr (by decide) (by rfl) tk (da_cons (dv 1) (da_cons (dv 2) da_nil))))))
      (dss_one (ds_ret (dv 1))))), fun ds Q Z hl h => ?_⟩
  obtain ⟨k, f, rfl, hk, sf, h⟩ := h
  have sz : ∀ i, i ≤ k → K1.Sm 3000 (Sx.sm i f) := fun i hi => (K1.sm_Sm (s := 500) fun j hj => sf j (by omega)).mono (K1.psum hk (Nat.le_refl _) hi)
  refine ⟨_, rfl, _, rfl, ?_⟩
  refine ⟨fun i ρ => i ≤ k ∧ ∃ u, ρ = [.dat (.tup (frs k f)), .dat (fr (Sx.sm i f)), u], ⟨Nat.zero_le _, _, rfl⟩, ?_, ?_⟩
  · rintro i d ρ e ⟨_, u, rfl⟩
    have hi : i < k := by have := (List.getElem?_eq_some_iff.mp e).1; rw [frs_len] at this; exact this
    rw [frs_get hi] at e
    cases e
    exact ⟨_, rfl, _, rfl, rfl, _, _, rfl, sz i (by omega), (sf i hi).mono (by decide), hi, _, rfl⟩
  · rintro ρ ⟨_, u, rfl⟩
    rw [frs_len]
    exact ⟨_, rfl, h⟩
abbrev s__law_is_fit : Stmt := top 34
abbrev N__law_is_fit : List Str := ["rows", "numbers", "told", "row", "one", "at"]
theorem sc__law_is_fit : FnScope N__law_is_fit ["rows", "numbers", "told"] (defScope s__law_is_fit) := ⟨rfl, rfl, rfl, by decide +kernel, rfl, by decide +kernel, by decide +kernel⟩
theorem ok__law_is_fit {f : Addr} {fd : FuncData} (F : Fun K "_law_is_fit" "_law_is_fit" s__law_is_fit f fd) (D__law_is_fraction : Df P w K mg base L__law_is_fraction "_law_is_fraction" ["thing"] wp__law_is_fraction) (D__law_scalar : Df P w K mg base L__law_scalar "_law_scalar" ["one", "other"] wp__law_scalar) (z_all : mg "all" = none) (z_any : mg "any" = none) (z_isinstance : mg "isinstance" = none) (z_len : mg "len" = none) (z_range : mg "range" = none) (z_tuple : mg "tuple" = none) : FnOk P w K mg base (L2.CX P w) (L__law_is_fit) f fd ["rows", "numbers", "told"] (spD K 3 wp__law_is_fit) := by
  refine okD F sc__law_is_fit fun cdv A outer s H E o pb W hr tk => ⟨_, (dss_cons (ds_if (DW.t (dw_or (dt_not (dt_val (de_isi (by rfl) z_isinstance (da_cons (dv 2) (da_cons (de_bltn (pe_bltn (v := V.ty "tuple") (by rfl) z_tuple PyProof.Rows.boot_tuple rfl)) da_nil))))) (dw_or (dt_ne hr.units (de_len (by rfl) z_len (da_cons (dv 2) da_nil)) de_int) (dw_or1 (dt_notin (de_ixT (dv 2) de_int) (de_tup (da_cons de_str (da_cons de_str da_nil))) (by rfl)))))) (dss_one (ds_ret de_bl)) dss_nil)
      (dss_cons (ds_set (i := 3) sc__law_is_fit.nd rfl (by first | exact .inl rfl | exact .inr rfl) (de_ixT (dv 2) de_int))
      (dss_cons (ds_if (DW.t (dw_or (dt_not (dt_val (de_isi (by rfl) z_isinstance (da_cons (dv 3) (da_cons (de_bltn (pe_bltn (v := V.ty "tuple") (by rfl) z_tuple PyProof.Rows.boot_tuple rfl)) da_nil))))) (dw_or1 (dt_not (dt_val (de_all rfl (by rfl) z_all (da_cons (de_lc (own := [("one", 4)]) rfl sc__law_is_fit.nd (di_tup (dv 3)) (blkOk_by (N := N__law_is_fit) (sc := defScope s__law_is_fit) (by decide +kernel)) (fun _ _ _ _ _ => pg_name (i := 4) sc__law_is_fit.nd rfl (by first | exact .inl rfl | exact .inr rfl)) (tgN (i := 4) (vs := [4])) mgN (fun _ _ _ _ _ => dts_nil) (fun _ _ _ _ _ => (de_call D__law_is_fraction hr (by decide) (by rfl) takes0 (da_cons (dv 4) da_nil)))) da_nil))))))) (dss_one (ds_ret de_bl)) dss_nil)
      (dss_cons (ds_if (dt_eq hr.units (de_ixT (dv 2) de_int) de_str) (dss_cons (ds_if (DW.t (dw_or (dt_ne hr.units (de_len (by rfl) z_len (da_cons (dv 3) da_nil)) (de_len (by rfl) z_len (da_cons (de_ixT (dv 0) de_int) da_nil))) (dw_or1 (dt_val (de_any rfl (by rfl) z_any (da_cons (de_lc (own := [("one", 4)]) rfl sc__law_is_fit.nd (di_tup (dv 3)) (blkOk_by (N := N__law_is_fit) (sc := defScope s__law_is_fit) (by decide +kernel)) (fun _ _ _ _ _ => pg_name (i := 4) sc__law_is_fit.nd rfl (by first | exact .inl rfl | exact .inr rfl)) (tgN (i := 4) (vs := [4])) mgN (fun _ _ _ _ _ => dts_nil) (fun _ _ _ _ _ => (de_lt (de_ixT (dv 4) de_int) de_int))) da_nil)))))) (dss_one (ds_ret de_bl)) dss_nil)
        (dss_one (ds_ret (de_eq hr.units (de_lc (own := [("one", 4)]) rfl sc__law_is_fit.nd (di_tup (dv 0)) (blkOk_by (N := N__law_is_fit) (sc := defScope s__law_is_fit) (by decide +kernel)) (fun _ _ _ _ _ => pg_name (i := 4) sc__law_is_fit.nd rfl (by first | exact .inl rfl | exact .inr rfl)) (tgN (i := 4) (vs := [4])) mgN (fun _ _ _ _ _ => dts_nil) (fun _ _ _ _ _ => (de_call D__law_scalar hr (by decide) (by rfl) takes0 (da_cons (dv 4) (da_cons (dv 3) da_nil))))) (de_lc (own := [("one", 4)]) rfl sc__law_is_fit.nd (di_tup (dv 1)) (blkOk_by (N := N__law_is_fit) (sc := defScope s__law_is_fit) (by decide +kernel)) (fun _ _ _ _ _ => pg_name (i := 4) sc__law_is_fit.nd rfl (by first | exact .inl rfl | exact .inr rfl)) (tgN (i := 4) (vs := [4])) mgN (fun _ _ _ _ _ => dts_nil) (fun _ _ _ _ _ => (dv 4))))))) dss_nil)
      (dss_cons (ds_if (DW.t (dw_or (dt_ne hr.units (de_len (by rfl) z_len (da_cons (dv 3) da_nil)) (de_len (by rfl) z_len (da_cons (dv 0) da_nil))) (dw_or1 (dt_le (de_ixT (de_call D__law_scalar hr (by decide) (by rfl) tk (da_cons (dv 3) (da_cons (dv 1) da_nil))) de_int) de_int)))) (dss_one (ds_ret de_bl)) dss_nil)
      (dss_one (ds_ret (de_all rfl (by rfl) z_all (da_cons (de_lc (own := [("at", 5)]) rfl sc__law_is_fit.nd (di_range1 (by rfl) z_range (da_cons (de_len (by rfl) z_len (da_cons (de_ixT (dv 0) de_int) da_nil)) da_nil)) (blkOk_by (N := N__law_is_fit) (sc := defScope s__law_is_fit) (by decide +kernel)) (fun _ _ _ _ _ => pg_name (i := 5) sc__law_is_fit.nd rfl (by first | exact .inl rfl | exact .inr rfl)) (tgN (i := 5) (vs := [5])) mgN (fun _ _ _ _ _ => dts_nil) (fun _ _ _ _ _ => (de_le (de_ixT (de_call D__law_scalar hr (by decide) (by rfl) takes0 (da_cons (dv 3) (da_cons (de_lc (own := [("one", 4)]) rfl sc__law_is_fit.nd (di_tup (dv 0)) (blkOk_by (by rfl)) (fun _ _ _ _ _ => pg_name (i := 4) sc__law_is_fit.nd rfl (by first | exact .inl rfl | exact .inr rfl)) (tgN (i := 4) (vs := [4])) mgN (fun _ _ _ _ _ => dts_nil) (fun _ _ _ _ _ => (de_ixT (dv 4) (dv 5)))) da_nil))) de_int) de_int))) da_nil))))))))), fun ds Q Z hl h => ?_⟩
  obtain ⟨m, n, R, g, d, rfl, rw', ft, h⟩ := h
  have hm := rw'.sml.hm
  have hn := rw'.sml.hn
  have hn0 := rw'.n0
  have hm3 : m ≤ 3 := by omega
  have rows0 : atI (frm m n R) 0 = some (.tup (frs n (R 0))) := (atI_nat (j := 0) (frm_get (m := m) (i := 0) (by omega)) :)
  have eqi : ∀ a : Nat, (D.int (a : Nat)).eqv (.int (a : Nat)) = true := fun a => by show ((a : Int) == (a : Int)) = true; exact beq_self_eq_true _
  rcases ft with ⟨y, hb, sy, rfl⟩ | ⟨x, hx, sx, rfl⟩
  · refine ⟨_, rfl, _, _, _, _, rfl, rfl, kit3.2.2.2.2.2, _, rfl, ?_⟩
    refine ⟨_, rfl, _, _, rfl, .tup _, rfl, rfl, _, rfl, ?_⟩
    refine ⟨_, rfl, _, _, _, rfl, rfl, rfl, z2, _, .tup _, rfl, rfl, _, rfl, ?_⟩
    refine pickF (by decide +kernel) ?_
    refine ⟨_, rfl, _, _, _, rfl, rfl, rfl, ?_⟩
    refine ⟨_, rfl, _, _, _, _, rfl, rfl, kit3.2.2.2.2.2, _, rfl, ?_⟩
    refine ⟨_, rfl, _, rfl, lc_mapF (fun _ => .bl true) (by rw [frs_len]; exact len_lt (by omega)) (fun i u e K k => ?_) ?_⟩
    · have hi : i < m := by have := (List.getElem?_eq_some_iff.mp e).1; rw [frs_len] at this; exact this
      rw [frs_get hi] at e
      cases e
      exact ⟨_, rfl, rfl, _, rfl, rfl, by rw [isFr_fr]; exact k⟩
    refine ⟨_, by rw [map_bl fun _ => true], _, rfl, ?_⟩
    refine pickF (by rw [all_rep fun _ _ => rfl]; rfl) ?_
    refine ⟨_, rfl, _, _, _, rfl, rfl, rfl, by decide +kernel, by decide +kernel, _, rfl, ?_⟩
    refine pickF (by decide +kernel) ?_
    refine ⟨_, rfl, _, _, rfl, .tup _, _, rfl, _, _, rfl, .tup _, rfl, rfl, _, rfl, ?_⟩
    refine pickF (by rw [frs_len, frm_len, eqi]; rfl) ?_
    have sgn : ∀ k, k < m → K1.Sm 100 (g k) := rw'.sg
    refine ⟨_, rfl, _, rfl, rfl, _, _, m, y, g, 1100, 100, rfl, .tup _, .tup _, (by have : m * 1201 ≤ 3 * 1201 := Nat.mul_le_mul_right _ hm3; omega), sy, sgn, ?_⟩
    refine ⟨_, _, _, rfl, rfl, rfl, _, _, rfl, rfl, True.intro, _, rfl, ?_⟩
    have hp : ¬ (Sx.sm m fun j => y j * g j).num ≤ 0 := fun z => by
      have := K1.num_pos.mpr hb.2
      omega
    refine pickF (decide_eq_false hp) ?_
    refine ⟨_, rfl, _, _, _, rfl, rfl, rows0, _, _, rfl, .tup _, _, rfl, by rw [frs_len]; omega, by rw [frs_len]; omega, ?_⟩
    rw [frs_len]
    refine lc_mapF (fun _ => .bl true) (by rw [show (rngD 0 (n : Int).toNat).length = n by simp [rngD]]; exact len_lt (by omega)) (fun j u e K k => ?_) ?_
    · simp only [rngD, List.getElem?_map, Option.map_eq_some_iff] at e
      obtain ⟨j', h1, rfl⟩ := e
      obtain ⟨h2, h3⟩ := List.getElem?_eq_some_iff.mp h1
      simp at h3 h2
      subst h3
      refine ⟨_, rfl, _, rfl, _, rfl, lc_mapF (fun i => fr (R i j)) (by rw [frm_len]; exact len_lt (by omega)) (fun i u e K k => ?_) ?_⟩
      · have hi : i < m := by have := (List.getElem?_eq_some_iff.mp e).1; rw [frm_len] at this; exact this
        rw [frm_get hi] at e
        cases e
        exact ⟨_, rfl, _, rfl, _, _, _, rfl, rfl, by rw [Int.zero_add]; exact atI_nat (frs_get h2), k⟩
      rw [frm_len]
      refine ⟨rfl, _, _, m, y, fun i => R i j, 1100, 100, rfl, .tup _, .lst _, (by have : m * 1201 ≤ 3 * 1201 := Nat.mul_le_mul_right _ hm3; omega), sy, fun i hi => rw'.sR i hi j h2, ?_⟩
      refine ⟨_, _, _, rfl, rfl, rfl, _, _, rfl, rfl, True.intro, ?_⟩
      have hc : (Sx.sm m fun i => y i * R i j).num ≤ 0 := by
        have := hb.1 j h2
        have z := mt K1.num_pos.mp (by grind : ¬ 0 < Sx.sm m fun k => y k * R k j)
        omega
      exact blT (decide_eq_true hc) k
    refine ⟨_, by rw [map_bl fun _ => true], ?_⟩
    rw [all_rep fun _ _ => rfl]
    exact h
  · refine ⟨_, rfl, _, _, _, _, rfl, rfl, kit3.2.2.2.2.2, _, rfl, ?_⟩
    refine ⟨_, rfl, _, _, rfl, .tup _, rfl, rfl, _, rfl, ?_⟩
    refine ⟨_, rfl, _, _, _, rfl, rfl, rfl, z2, _, .tup _, rfl, rfl, _, rfl, ?_⟩
    refine pickF (by decide +kernel) ?_
    refine ⟨_, rfl, _, _, _, rfl, rfl, rfl, ?_⟩
    refine ⟨_, rfl, _, _, _, _, rfl, rfl, kit3.2.2.2.2.2, _, rfl, ?_⟩
    refine ⟨_, rfl, _, rfl, lc_mapF (fun _ => .bl true) (by rw [frs_len]; exact len_lt (by omega)) (fun i u e K k => ?_) ?_⟩
    · have hi : i < n := by have := (List.getElem?_eq_some_iff.mp e).1; rw [frs_len] at this; exact this
      rw [frs_get hi] at e
      cases e
      exact ⟨_, rfl, rfl, _, rfl, rfl, by rw [isFr_fr]; exact k⟩
    refine ⟨_, by rw [map_bl fun _ => true], _, rfl, ?_⟩
    refine pickF (by rw [all_rep fun _ _ => rfl]; rfl) ?_
    refine ⟨_, rfl, _, _, _, rfl, rfl, rfl, by decide +kernel, by decide +kernel, _, rfl, ?_⟩
    refine pickT (by decide +kernel) ?_
    refine ⟨_, rfl, _, _, rfl, .tup _, _, rfl, _, _, _, rfl, rfl, rows0, _, _, rfl, .tup _, rfl, rfl, _, rfl, ?_⟩
    refine pickF (by rw [frs_len, frs_len, eqi]; rfl) ?_
    refine ⟨_, rfl, _, rfl, lc_mapF (fun _ => .bl false) (by rw [frs_len]; exact len_lt (by omega)) (fun i u e K k => ?_) ?_⟩
    · have hi : i < n := by have := (List.getElem?_eq_some_iff.mp e).1; rw [frs_len] at this; exact this
      rw [frs_get hi] at e
      cases e
      refine ⟨_, rfl, _, _, _, rfl, rfl, rfl, _, _, rfl, rfl, True.intro, ?_⟩
      have h0 : ¬ (x i).num < 0 := fun z => by
        have h1 := K1.num_neg.mp z
        have h2 := hx.1 i hi
        grind
      exact blF (decide_eq_false h0) k
    refine ⟨_, by rw [map_bl fun _ => false], _, rfl, ?_⟩
    refine pickF (by rw [any_rep fun _ _ => rfl]) ?_
    refine ⟨_, rfl, _, rfl, lc_mapF (fun i => fr (g i)) (by rw [frm_len]; exact len_lt (by omega)) (fun i u e K k => ?_) ?_⟩
    · have hi : i < m := by have := (List.getElem?_eq_some_iff.mp e).1; rw [frm_len] at this; exact this
      rw [frm_get hi] at e
      cases e
      refine ⟨_, rfl, _, rfl, rfl, _, _, n, R i, x, 100, 400, rfl, .tup _, .tup _, (by have : n * 501 ≤ 4 * 501 := Nat.mul_le_mul_right _ hn; omega), rw'.sR i hi, sx, ?_⟩
      rw [hx.2 i hi]
      exact k
    rw [frm_len]
    refine ⟨_, rfl, _, rfl, lc_mapF (fun i => fr (g i)) (by rw [frs_len]; exact len_lt (by omega)) (fun i u e K k => ?_) ?_⟩
    · have hi : i < m := by have := (List.getElem?_eq_some_iff.mp e).1; rw [frs_len] at this; exact this
      rw [frs_get hi] at e
      cases e
      exact ⟨_, rfl, k⟩
    rw [frs_len]
    refine ⟨eqOk_lfrs m g, eqOk_lfrs m g, ?_⟩
    have e : (D.lst (frs m g)).eqv (.lst (frs m g)) = true := SeqAt.eqv_refl _ (by simp [D.toP, PyData.canLay0, (lay_frs m g).1])
    rw [show (List.range m).map (fun i => fr (g i)) = frs m g from rfl, e]
    exact h
end
end E0
set_option Elab.async false
set_option linter.all false
set_option maxRecDepth 100000
set_option maxHeartbeats 1000000
namespace E0
open PySem L2 Dl Dh
theorem fr_cast (z : Int) : fr (z : Rat) = .tup [.int z, .int 1] := rfl
theorem rows_of {P : Rat → Prop} {ys : List D} (h : ∀ (i : Nat) (y : D), ys[i]? = some y → ∃ q, y = fr q ∧ P q) : ∃ f : Nat → Rat, ys = frs ys.length f ∧ ∀ j, j < ys.length → P (f j) := by
  have key : ∀ j, ∃ q, j < ys.length → ys[j]? = some (fr q) ∧ P q := fun j => by
    by_cases hj : j < ys.length
    · obtain ⟨q, e, p⟩ := h j _ (List.getElem?_eq_getElem hj)
      exact ⟨q, fun _ => ⟨by rw [List.getElem?_eq_getElem hj, e], p⟩⟩
    · exact ⟨0, fun z => (hj z).elim⟩
  refine ⟨fun j => Classical.choose (key j), List.ext_getElem? fun j => ?_, fun j hj => (Classical.choose_spec (key j) hj).2⟩
  by_cases hj : j < ys.length
  · rw [frs_get hj]
    exact (Classical.choose_spec (key j) hj).1
  · rw [List.getElem?_eq_none (by omega), List.getElem?_eq_none (by rw [frs_len]; omega)]
def lrows (m n : Nat) (R : Nat → Nat → Rat) : List D := (List.range m).map fun i => .lst (frs n (R i))
theorem lrows_get {m n : Nat} {R : Nat → Nat → Rat} {i : Nat} (h : i < m) : (lrows m n R)[i]? = some (.lst (frs n (R i))) := by simp [lrows, h]
theorem lrows_len {m n : Nat} {R : Nat → Nat → Rat} : (lrows m n R).length = m := by simp [lrows]
theorem lrows_of {n : Nat} {P : Rat → Prop} {ys : List D} (h : ∀ (i : Nat) (y : D), ys[i]? = some y → ∃ f, y = .lst (frs n f) ∧ ∀ j, j < n → P (f j)) : ∃ R : Nat → Nat → Rat, ys = lrows ys.length n R ∧ ∀ i, i < ys.length → ∀ j, j < n → P (R i j) := by
  have key : ∀ j, ∃ f, j < ys.length → ys[j]? = some (.lst (frs n f)) ∧ ∀ l, l < n → P (f l) := fun j => by
    by_cases hj : j < ys.length
    · obtain ⟨q, e, p⟩ := h j _ (List.getElem?_eq_getElem hj)
      exact ⟨q, fun _ => ⟨by rw [List.getElem?_eq_getElem hj, e], p⟩⟩
    · exact ⟨fun _ => 0, fun z => (hj z).elim⟩
  refine ⟨fun j => Classical.choose (key j), List.ext_getElem? fun j => ?_, fun j hj => (Classical.choose_spec (key j) hj).2⟩
  by_cases hj : j < ys.length
  · rw [lrows_get hj]
    exact (Classical.choose_spec (key j) hj).1
  · rw [List.getElem?_eq_none (by omega), List.getElem?_eq_none (by rw [lrows_len]; omega)]
theorem rng_get {lo : Int} {n i : Nat} {x : D} (e : (rngD lo n)[i]? = some x) : i < n ∧ x = .int (lo + (i : Nat)) := by
  simp only [rngD, List.getElem?_map, Option.map_eq_some_iff] at e
  obtain ⟨j', h1, rfl⟩ := e
  obtain ⟨h2, h3⟩ := List.getElem?_eq_some_iff.mp h1
  simp at h3 h2
  subst h3
  exact ⟨h2, rfl⟩
theorem rng_len {lo : Int} {n : Nat} : (rngD lo n).length = n := by simp [rngD]
theorem drawn_int {z : Int} (h : z.natAbs ≤ 6) : Drawn (z : Rat) := ⟨z * 12, by rw [Rat.intCast_mul]; rfl, by omega⟩
section
variable {P : Program} {w : World} {K : PySem.W.Frag} {mg : Str → Option Value} {base : Heap}
abbrev s__law_rows : Stmt := top 33
abbrev N__law_rows : List Str := ["hand", "long", "many", "rows", "one", "row", "known"]
theorem sc__law_rows : FnScope N__law_rows ["hand"] (defScope s__law_rows) := ⟨rfl, rfl, rfl, by decide +kernel, rfl, by decide +kernel, by decide +kernel⟩
theorem ok__law_rows {f : Addr} {fd : FuncData} (F : Fun K "_law_rows" "_law_rows" s__law_rows f fd) (D__law_draw : Df P w K mg base L__law_draw "_law_draw" ["hand", "below"] wp__law_draw) (D__law_fraction : Df P w K mg base L__law_fraction "_law_fraction" ["hand"] wp__law_fraction) (D__law_low : Df P w K mg base L__law_low "_law_low" ["top", "bottom"] wp__law_low) (D__law_scalar : Df P w K mg base L__law_scalar "_law_scalar" ["one", "other"] wp__law_scalar) (z_range : mg "range" = none) (z_tuple : mg "tuple" = none) : FnOk P w K mg base (L2.CX P w) (L__law_rows) f fd ["hand"] (spD K 1 wp__law_rows) := by
  refine okD F sc__law_rows fun cdv A outer s H E o pb W hr tk => ⟨_, (dss_cons (ds_asg (de_tup (da_cons (de_add de_int (de_call D__law_draw hr (by decide) (by rfl) tk (da_cons (dv 0) (da_cons de_int da_nil)))) (da_cons (de_add de_int (de_call D__law_draw hr (by decide) (by rfl) tk (da_cons (dv 0) (da_cons de_int da_nil)))) da_nil))) (pg_tup rfl (pgs_cons (pg_name (i := 1) sc__law_rows.nd rfl (by first | exact .inl rfl | exact .inr rfl)) (pgs_cons (pg_name (i := 2) sc__law_rows.nd rfl (by first | exact .inl rfl | exact .inr rfl)) pgs_nil))) (tgT2 (i := 1) (j := 2) (vs := [1, 2])) mgT2)
      (dss_cons (ds_setLcO (i := 3) (own := [("row", 5)]) rfl sc__law_rows.nd rfl rfl (sw_true rfl rfl rfl (by decide +kernel)) (di_range1 (by rfl) z_range (da_cons (dv 2) da_nil)) (blkOk_by (N := N__law_rows) (sc := defScope s__law_rows) (by decide +kernel)) (fun _ _ _ _ _ => pg_name (i := 5) sc__law_rows.nd rfl (by first | exact .inl rfl | exact .inr rfl)) (tgN (i := 5) (vs := [5])) mgN (fun _ _ _ _ _ => dts_nil) (fun _ _ _ _ _ => (de_lc (own := [("one", 4)]) rfl sc__law_rows.nd (di_range1 (by rfl) z_range (da_cons (dv 1) da_nil)) (blkOk_by (by rfl)) (fun _ _ _ _ _ => pg_name (i := 4) sc__law_rows.nd rfl (by first | exact .inl rfl | exact .inr rfl)) (tgN (i := 4) (vs := [4])) mgN (fun _ _ _ _ _ => dts_nil) (fun _ _ _ _ _ => (de_tup (da_cons (de_sub (de_call D__law_draw hr (by decide) (by rfl) takes0 (da_cons (dv 0) (da_cons de_int da_nil))) de_int) (da_cons de_int da_nil)))))))
      (dss_cut (ds_if (dt_eq hr.units (de_call D__law_draw hr (by decide) (by rfl) tk (da_cons (dv 0) (da_cons de_int da_nil))) de_int) (dss_one (ds_ix 3 (de_lc (own := [("one", 4)]) rfl sc__law_rows.nd (di_range1 (by rfl) z_range (da_cons (dv 1) da_nil)) (blkOk_by (N := N__law_rows) (sc := defScope s__law_rows) (by decide +kernel)) (fun _ _ _ _ _ => pg_name (i := 4) sc__law_rows.nd rfl (by first | exact .inl rfl | exact .inr rfl)) (tgN (i := 4) (vs := [4])) mgN (fun _ _ _ _ _ => dts_nil) (fun _ _ _ _ _ => (de_call D__law_fraction hr (by decide) (by rfl) takes0 (da_cons (dv 0) da_nil)))) de_int (up := fun ho hi he => ps_asg he (pg_sub ho hi set_list)))) dss_nil)
      (dss_frz 3 (dss_cons (ds_set (i := 3) sc__law_rows.nd rfl (by first | exact .inl rfl | exact .inr rfl) (de_tuple (by rfl) z_tuple (da_cons (de_lc (own := [("row", 5)]) rfl sc__law_rows.nd (di_list (dv 3)) (blkOk_by (N := N__law_rows) (sc := defScope s__law_rows) (by decide +kernel)) (fun _ _ _ _ _ => pg_name (i := 5) sc__law_rows.nd rfl (by first | exact .inl rfl | exact .inr rfl)) (tgN (i := 5) (vs := [5])) mgN (fun _ _ _ _ _ => dts_nil) (fun _ _ _ _ _ => (de_tuple (by rfl) z_tuple (da_cons (dv 5) da_nil)))) da_nil)))
      (dss_cons (ds_if (dt_eq hr.units (de_call D__law_draw hr (by decide) (by rfl) tk (da_cons (dv 0) (da_cons de_int da_nil))) de_int) (dss_cons (ds_set (i := 6) sc__law_rows.nd rfl (by first | exact .inl rfl | exact .inr rfl) (de_lc (own := [("one", 4)]) rfl sc__law_rows.nd (di_range1 (by rfl) z_range (da_cons (dv 1) da_nil)) (blkOk_by (N := N__law_rows) (sc := defScope s__law_rows) (by decide +kernel)) (fun _ _ _ _ _ => pg_name (i := 4) sc__law_rows.nd rfl (by first | exact .inl rfl | exact .inr rfl)) (tgN (i := 4) (vs := [4])) mgN (fun _ _ _ _ _ => dts_nil) (fun _ _ _ _ _ => (de_tup (da_cons (de_call D__law_draw hr (by decide) (by rfl) takes0 (da_cons (dv 0) (da_cons de_int da_nil))) (da_cons (de_add de_int (de_call D__law_draw hr (by decide) (by rfl) takes0 (da_cons (dv 0) (da_cons de_int da_nil)))) da_nil))))))
        (dss_cons (ds_set (i := 6) sc__law_rows.nd rfl (by first | exact .inl rfl | exact .inr rfl) (de_lc (own := [("one", 4)]) rfl sc__law_rows.nd (di_list (dv 6)) (blkOk_by (N := N__law_rows) (sc := defScope s__law_rows) (by decide +kernel)) (fun _ _ _ _ _ => pg_name (i := 4) sc__law_rows.nd rfl (by first | exact .inl rfl | exact .inr rfl)) (tgN (i := 4) (vs := [4])) mgN (fun _ _ _ _ _ => dts_nil) (fun _ _ _ _ _ => (de_call D__law_low hr (by decide) (by rfl) takes0 (da_cons (de_ixT (dv 4) de_int) (da_cons (de_ixT (dv 4) de_int) da_nil))))))
        (dss_one (ds_ret (de_tup (da_cons (dv 3) (da_cons (de_tuple (by rfl) z_tuple (da_cons (de_lc (own := [("row", 5)]) rfl sc__law_rows.nd (di_tup (dv 3)) (blkOk_by (N := N__law_rows) (sc := defScope s__law_rows) (by decide +kernel)) (fun _ _ _ _ _ => pg_name (i := 5) sc__law_rows.nd rfl (by first | exact .inl rfl | exact .inr rfl)) (tgN (i := 5) (vs := [5])) mgN (fun _ _ _ _ _ => dts_nil) (fun _ _ _ _ _ => (de_call D__law_scalar hr (by decide) (by rfl) takes0 (da_cons (dv 5) (da_cons (dv 6) da_nil))))) da_nil)) (da_cons de_bl da_nil)))))))) dss_nil)
      (dss_one (ds_ret (de_tup (da_cons (dv 3) (da_cons (de_tuple (by rfl) z_tuple (da_cons (de_lc (own := [("row", 5)]) rfl sc__law_rows.nd (di_tup (dv 3)) (blkOk_by (N := N__law_rows) (sc := defScope s__law_rows) (by decide +kernel)) (fun _ _ _ _ _ => pg_name (i := 5) sc__law_rows.nd rfl (by first | exact .inl rfl | exact .inr rfl)) (tgN (i := 5) (vs := [5])) mgN (fun _ _ _ _ _ => dts_nil) (fun _ _ _ _ _ => (de_tup (da_cons (de_sub (de_call D__law_draw hr (by decide) (by rfl) takes0 (da_cons (dv 0) (da_cons de_int da_nil))) de_int) (da_cons de_int da_nil))))) da_nil)) (da_cons de_bl da_nil)))))))))))), fun ds Q Z hl h => ?_⟩
  obtain ⟨rfl, h⟩ := h
  refine ⟨_, rfl, rfl, 4, rfl, by decide, by decide, fun a a0 a1 => ⟨_, _, rfl, rfl, True.intro, _, rfl, rfl, 3, rfl, by decide, by decide, fun b b0 b1 => ⟨_, _, rfl, rfl, True.intro, z2, _, _, rfl, ?_⟩⟩⟩
  obtain ⟨n, hn⟩ : ∃ n : Nat, 1 + a = (n : Int) := ⟨(1 + a).toNat, by omega⟩
  obtain ⟨m, hm⟩ : ∃ m : Nat, 1 + b = (m : Int) := ⟨(1 + b).toNat, by omega⟩
  have n1 : 1 ≤ n := by omega
  have n4 : n ≤ 4 := by omega
  have m1 : 1 ≤ m := by omega
  have m3 : m ≤ 3 := by omega
  rw [show (fun i j => D.int (i + j)) 1 a = .int (n : Int) from congrArg D.int hn, show (fun i j => D.int (i + j)) 1 b = .int (m : Int) from congrArg D.int hm]
  refine ⟨_, rfl, (m : Int), rfl, by omega, by omega, ?_⟩
  refine lc_map (fun _ y => ∃ f, y = .lst (frs n f) ∧ ∀ j, j < n → Drawn (f j)) (by rw [rng_len]; exact len_lt (by omega)) (fun i x e K k => ?_) fun ys hl hys => ?_
  · obtain ⟨hi, rfl⟩ := rng_get e
    refine ⟨_, rfl, (n : Int), rfl, by omega, by omega, lc_map (fun _ y => ∃ q, y = fr q ∧ Drawn q) (by rw [rng_len]; exact len_lt (by omega)) (fun i x e K k => ?_) fun zs hl hzs => ?_⟩
    · refine ⟨_, rfl, rfl, 7, rfl, by decide, by decide, fun d d0 d1 => ⟨_, _, rfl, rfl, True.intro, z2, k _ ⟨((d - 3 : Int) : Rat), rfl, drawn_int (by omega)⟩⟩⟩
    · obtain ⟨f, e1, e2⟩ := rows_of hzs
      rw [hl, rng_len, Int.toNat_natCast] at e1 e2
      exact k _ ⟨f, by rw [e1], e2⟩
  obtain ⟨R, e1, hR⟩ := lrows_of hys
  rw [hl, rng_len, Int.toNat_natCast] at e1 hR
  subst e1
  clear hys hl
  refine ⟨fun ρ => ∃ R : Nat → Nat → Rat, (∀ i, i < m → ∀ j, j < n → Drawn (R i j)) ∧ ∃ u v w, ρ = [.dat .hand, .dat (.int (n : Int)), .dat (.int (m : Int)), .own (lrows m n R), u, v, w], ?_, ?_⟩
  · refine ⟨_, rfl, rfl, 3, rfl, by decide, by decide, fun d d0 d1 => ⟨rfl, rfl, _, rfl, ite2 (fun _ => ?_) fun _ => ?_⟩⟩
    · refine ⟨_, rfl, (n : Int), rfl, by omega, by omega, lc_map (fun _ y => ∃ q, y = fr q ∧ Drawn q) (by rw [rng_len]; exact len_lt (by omega)) (fun i x e K k => ?_) fun zs hl hzs => ?_⟩
      · exact ⟨_, rfl, rfl, rfl, fun q hq => k _ ⟨q, rfl, hq⟩⟩
      · obtain ⟨f, e1, e2⟩ := rows_of hzs
        rw [hl, rng_len, Int.toNat_natCast] at e1 e2
        refine ⟨_, rfl, 0, 0, rfl, ?_, fun i => if i = 0 then f else R i, fun i hi j hj => ?_, .no, .no, .no, ?_⟩
        · rw [lrows_len]
          unfold ixN
          rw [if_pos (by omega), if_pos (by omega)]
          rfl
        · show Drawn ((if i = 0 then f else R i) j)
          by_cases z : i = 0
          · rw [if_pos z]; exact e2 j hj
          · rw [if_neg z]; exact hR i hi j hj
        · have : (lrows m n R).set 0 (.lst zs) = lrows m n (fun i => if i = 0 then f else R i) := by
            refine List.ext_getElem? fun i => ?_
            by_cases hi : i < m
            · rw [lrows_get hi, List.getElem?_set]
              by_cases z : i = 0
              · subst z
                rw [if_pos rfl, if_pos (by rw [lrows_len]; omega), if_pos rfl, e1]
              · rw [if_neg (fun e => z e.symm), lrows_get hi, if_neg z]
            · rw [List.getElem?_eq_none (by rw [List.length_set, lrows_len]; omega), List.getElem?_eq_none (by rw [lrows_len]; omega)]
          show [DV.dat D.hand, .dat (.int (n : Int)), .dat (.int (m : Int)), .own ((lrows m n R).set 0 (.lst zs)), .no, .no, .no] = _
          rw [this]
    · exact ⟨R, hR, _, _, _, rfl⟩
  · clear hR R
    rintro ρ' ⟨R, hR, u, v, w', rfl⟩
    refine ⟨_, rfl, ?_⟩
    refine ⟨_, rfl, _, rfl, lc_mapF (fun i => .tup (frs n (R i))) (by rw [lrows_len]; exact len_lt (by omega)) (fun i x e K k => ?_) ?_⟩
    · have hi : i < m := by have := (List.getElem?_eq_some_iff.mp e).1; rw [lrows_len] at this; exact this
      rw [lrows_get hi] at e
      cases e
      exact ⟨_, rfl, _, _, rfl, .lst _, k⟩
    rw [lrows_len]
    refine ⟨_, _, rfl, .lst _, ?_⟩
    have row : ∀ {i : Nat} {x : D}, (frm m n R)[i]? = some x → i < m ∧ x = .tup (frs n (R i)) := fun {i x} e => by
      have hi : i < m := by have := (List.getElem?_eq_some_iff.mp e).1; rw [frm_len] at this; exact this
      rw [frm_get hi] at e
      exact ⟨hi, (Option.some.inj e).symm⟩
    have hmm : m = 1 ∨ m = 2 ∨ m = 3 := by omega
    have big : ∀ {q : Rat}, Drawn q → Sx.Bd K1.Bq (q * 24) := fun h => h.bd.mono (by decide)
    refine ⟨_, rfl, rfl, 2, rfl, by decide, by decide, fun d d0 d1 => ⟨rfl, rfl, _, rfl, ite2 (fun _ => ?_) fun _ => ?_⟩⟩
    · refine ⟨_, rfl, (n : Int), rfl, by omega, by omega, lc_map (fun _ y => ∃ s t : Int, y = .tup [.int s, .int t] ∧ 0 ≤ s ∧ s ≤ 3 ∧ (t = 1 ∨ t = 2)) (by rw [rng_len]; exact len_lt (by omega)) (fun i x e K k => ?_) fun zs hl hzs => ?_⟩
      · exact ⟨_, rfl, rfl, 4, rfl, by decide, by decide, fun s s0 s1 => ⟨_, rfl, rfl, 2, rfl, by decide, by decide, fun t t0 t1 => ⟨_, _, rfl, rfl, True.intro, z2, k _ ⟨s, 1 + t, rfl, s0, by omega, by omega⟩⟩⟩⟩
      rw [rng_len, Int.toNat_natCast] at hl
      refine ⟨_, rfl, _, rfl, lc_map (fun _ y => ∃ q, y = fr q ∧ Sx.Bd 6 (q * 2) ∧ 0 ≤ q) (by rw [hl]; exact len_lt (by omega)) (fun i x e K k => ?_) fun ws hlw hws => ?_⟩
      · obtain ⟨s, t, rfl, s0, s3, ht⟩ := hzs i x e
        refine ⟨_, rfl, _, _, _, rfl, rfl, rfl, _, rfl, _, _, _, rfl, rfl, rfl, rfl, s, t, rfl, by omega, ?_, k _ ⟨_, rfl, ?_, ?_⟩⟩
        · have : t.natAbs < 2 ^ 3 := by omega
          exact Nat.lt_of_lt_of_le this (K1.two_le (by decide))
        · rcases ht with rfl | rfl
          · exact ⟨s * 2, by rw [Rat.divInt_eq_div]; push_cast; grind, by omega⟩
          · exact ⟨s, by rw [Rat.divInt_eq_div]; push_cast; grind, by omega⟩
        · have : (0 : Rat) ≤ (s : Rat) := by exact_mod_cast s0
          rcases ht with rfl | rfl
          · rw [Rat.divInt_eq_div]; push_cast; grind
          · rw [Rat.divInt_eq_div]; push_cast; grind
      obtain ⟨x, e1, hx⟩ := rows_of hws
      rw [hlw, hl] at e1 hx
      subst e1
      have sx : ∀ j, j < n → K1.Sm 100 (x j) := fun j hj => K1.bd_sm (by
        obtain ⟨z, e, l⟩ := (hx j hj).1
        exact ⟨z * 12, by rw [Rat.intCast_mul, ← e]; show x j * 24 = x j * 2 * 12; grind, by show _ ≤ 2 ^ 20; omega⟩)
      refine ⟨_, rfl, _, rfl, _, rfl, lc_mapF (fun i => fr (Sx.sm n fun j => R i j * x j)) (by show (frm m n R).length < _; rw [frm_len]; exact len_lt (by omega)) (fun i y e K k => ?_) ?_⟩
      · obtain ⟨hi, rfl⟩ := row e
        exact ⟨_, rfl, _, rfl, rfl, _, _, n, R i, x, 100, 100, rfl, .tup _, .lst _, (by have : n * 201 ≤ 4 * 201 := Nat.mul_le_mul_right _ n4; omega), fun j hj => (hR i hi j hj).sm, sx, k⟩
      refine ⟨_, _, rfl, .lst _, (by decide : (3 : Nat) ≤ sizeLine), ?_⟩
      have bg : ∀ i, i < m → Sx.Bd K1.Bq ((Sx.sm n fun j => R i j * x j) * 24) := fun i hi => by
        have key : ∀ l, l ≤ n → Sx.Bd (l * 432) ((Sx.sm l fun j => R i j * x j) * 24) := fun l => by
          induction l with
          | zero => intro _; exact ⟨0, by show (0 : Rat) * 24 = 0; grind, by omega⟩
          | succ l ih =>
            intro hl
            have := (ih (by omega)).add ((hR i hi l (by omega)).mul (hx l (by omega)).1)
            refine (show Sx.Bd (l * 432 + 72 * 6) (((Sx.sm l fun j => R i j * x j) + R i l * x l) * 24) from ?_).mono (by omega)
            rw [show ((Sx.sm l fun j => R i j * x j) + R i l * x l) * 24 = (Sx.sm l fun j => R i j * x j) * 24 + R i l * 12 * (x l * 2) by grind]
            exact this
        exact (key n (Nat.le_refl _)).mono (by have : n * 432 ≤ 4 * 432 := Nat.mul_le_mul_right _ n4; show _ ≤ 2 ^ 20; omega)
      have rw' : Rws m n R (fun i => Sx.sm n fun j => R i j * x j) := ⟨⟨hmm, n4, fun i hi j hj => big (hR i hi j hj), bg⟩, n1, fun i hi j hj => (hR i hi j hj).sm, fun i hi => K1.bd_sm (bg i hi)⟩
      have := (h m n R _ rw').1 ⟨x, fun j hj => (hx j hj).2, fun i hi => rfl⟩
      show Q (.tup [.tup (frm m n R), .tup ((List.range (frm m n R).length).map fun i => fr (Sx.sm n fun j => R i j * x j)), .bl true])
      rw [frm_len]
      exact this
    · refine ⟨_, rfl, _, rfl, _, rfl, lc_map (fun _ y => ∃ q, y = fr q ∧ Drawn q) (by show (frm m n R).length < _; rw [frm_len]; exact len_lt (by omega)) (fun i y e K k => ?_) fun zs hl hzs => ?_⟩
      · exact ⟨_, rfl, rfl, 9, rfl, by decide, by decide, fun s s0 s1 => ⟨_, _, rfl, rfl, True.intro, z2, k _ ⟨((s - 4 : Int) : Rat), rfl, drawn_int (by omega)⟩⟩⟩
      have hl : zs.length = m := by rw [hl]; exact frm_len
      obtain ⟨g, e1, hg⟩ := rows_of hzs
      rw [hl] at e1 hg
      subst e1
      refine ⟨_, _, rfl, .lst _, (by decide : (3 : Nat) ≤ sizeLine), ?_⟩
      have rw' : Rws m n R g := ⟨⟨hmm, n4, fun i hi j hj => big (hR i hi j hj), fun i hi => big (hg i hi)⟩, n1, fun i hi j hj => (hR i hi j hj).sm, fun i hi => (hg i hi).sm⟩
      exact (h m n R g rw').2
end
end E0
set_option Elab.async false
set_option linter.all false
set_option maxRecDepth 100000
set_option maxHeartbeats 2000000
namespace E0
open PySem L2 Dl Dh Dg
abbrev L_fraction := 4
abbrev L_over := 5
abbrev L_minus := 3
abbrev L_times := 3
abbrev L_less := 1
abbrev L_scalar := 5
abbrev wp_minus := wp_bin fun p q => p - q
abbrev wp_times := wp_bin fun p q => p * q
def wp__law_exact_right : WP := fun ds Q _ => ds = [.hand] ∧ Q (.bl true)
theorem mw__law_exact_right : MW wp__law_exact_right := ⟨fun h _ ⟨e, q⟩ => ⟨e, h _ q⟩⟩
theorem log_of {i : Int} {n : Nat} (h : i.natAbs < 2 ^ n) (hn : n ≤ 1900) : i.natAbs.log2 < 1920 := by
  by_cases z : i.natAbs = 0
  · rw [z]; decide
  · exact Nat.lt_of_lt_of_le ((Nat.log2_lt z).mpr h) (by omega)
theorem rep_fr {q : Rat} {n : Nat} (h : K1.Sm n q) (hn : n ≤ 1900) : Rep (fr q) 1 4000 := (rep_tup (p := 0) (L := 1921) fun x hx => by
  rcases List.mem_cons.mp hx with rfl | hx
  · exact rep_int (log_of h.1 hn)
  · rcases List.mem_cons.mp hx with rfl | hx
    · exact rep_int (log_of h.d hn)
    · cases hx).mono (Nat.le_refl _) (by show 2 * 1921 + 2 * 2 + 3 ≤ 4000; decide)
theorem cutK {g u : GS} {E : DEn} {ρ : List DV} (h1 : g { E with nx := fun ρ' => ρ' = ρ } ρ) (h2 : u E ρ) : sCut g u E ρ := ⟨fun ρ' => ρ' = ρ, h1, fun _ e => by rw [e]; exact h2⟩
theorem z3 : 3 ≤ sizeLine := by decide
theorem z13 : 13 ≤ sizeLine := by decide
theorem z4 : 4 ≤ sizeLine := by decide
theorem z1 : 1 ≤ sizeLine := by decide
theorem nstr {xs : List D} : (∀ s, D.lst xs ≠ .str s) ∧ D.lst xs ≠ .non := ⟨fun s e => (by cases e), fun e => (by cases e)⟩
theorem nstrT {xs : List D} : (∀ s, D.tup xs ≠ .str s) ∧ D.tup xs ≠ .non := ⟨fun s e => (by cases e), fun e => (by cases e)⟩
theorem nstrI {i : Int} : (∀ s, D.int i ≠ .str s) ∧ D.int i ≠ .non := ⟨fun s e => (by cases e), fun e => (by cases e)⟩
theorem nstrB {b : Bool} : (∀ s, D.bl b ≠ .str s) ∧ D.bl b ≠ .non := ⟨fun s e => (by cases e), fun e => (by cases e)⟩
theorem same_text {a b : D} (e : a = b) : (!decide (a.toP.shown = b.toP.shown)) = false := by rw [e, decide_eq_true rfl]; rfl
theorem rep_bl1 {b : Bool} : Rep (.bl b) 1 4000 := rep_bl.mono (by decide) (by decide)
theorem rep4 {a b c d : D} (h1 : Rep a 1 4000) (h2 : Rep b 1 4000) (h3 : Rep c 1 4000) (h4 : Rep d 1 4000) : Rep (.lst [a, b, c, d]) 2 17000 := (rep_lst (p := 1) (L := 4000) fun x hx => by
  simp only [List.mem_cons, List.not_mem_nil, or_false] at hx
  rcases hx with rfl | rfl | rfl | rfl <;> assumption).mono (Nat.le_refl _) (by show 4 * 4000 + 2 * 4 + 3 ≤ 17000; decide)
theorem rep2 {a b : D} (h1 : Rep a 1 4000) (h2 : Rep b 1 4000) : Rep (.lst [a, b]) 2 17000 := (rep_lst (p := 1) (L := 4000) fun x hx => by
  simp only [List.mem_cons, List.not_mem_nil, or_false] at hx
  rcases hx with rfl | rfl <;> assumption).mono (Nat.le_refl _) (by show 2 * 4000 + 2 * 2 + 3 ≤ 17000; decide)
theorem p64 : 2 ≤ 64 := by decide
theorem l17 : 17000 ≤ sizeLine := by decide
theorem l40 : 4000 ≤ sizeLine := by decide
theorem gcd_small {a b : Int} (ha : a.natAbs ≤ 100) (hb : b.natAbs ≤ 100) : (Int.gcd a b : Int).natAbs < 2 ^ 10 := by
  have : Int.gcd a b ≤ 100 := by
    by_cases z : b = 0
    · subst z; rw [Int.gcd_zero_right]; exact ha
    · exact Nat.le_trans (Nat.le_of_dvd (by omega) (Int.gcd_dvd_natAbs_right a b)) hb
  rw [Int.natAbs_natCast]
  omega
theorem rep_one (n : Nat) : (List.replicate n [D.tup [.int 1, .int 1]]).flatten = frs n fun _ => 1 := by
  induction n with
  | zero => rfl
  | succ n ih =>
    rw [List.replicate_succ, List.flatten_cons, ih]
    refine List.ext_getElem? fun i => ?_
    cases i with
    | zero => rw [frs_get (by omega)]; rfl
    | succ i =>
      by_cases h : i < n
      · rw [frs_get (by omega)]
        show (frs n fun _ => 1)[i]? = _
        rw [frs_get h]
      · rw [List.getElem?_eq_none (by simp [frs_len]; omega), List.getElem?_eq_none (by rw [frs_len]; omega)]
theorem sm_one {n : Nat} {f : Nat → Rat} : (Sx.sm n fun j => f j * 1) = Sx.sm n f := Sx.sm_ext n fun j _ => by grind
theorem fr_neg (q : Rat) : D.tup [.int (0 - q.num), .int (q.den : Int)] = fr (-q) := by
  show _ = D.tup [.int (-q).num, .int ((-q).den : Int)]
  rw [Rat.neg_num, Rat.neg_den, Int.zero_sub]
section
variable {P : Program} {w : World} {K : PySem.W.Frag} {mg : Str → Option Value} {base : Heap} {CN : Addr}
abbrev s__law_exact_right : Stmt := top 32
abbrev N__law_exact_right : List Str := ["hand", "one", "other", "turned", "told", "due", "some", "turn", "more", "a", "b", "thing"]
theorem sc__law_exact_right : FnScope N__law_exact_right ["hand"] (defScope s__law_exact_right) := ⟨rfl, rfl, rfl, by decide +kernel, rfl, by decide +kernel, by decide +kernel⟩
theorem ok__law_exact_right {f : Addr} {fd : FuncData} (F : Fun K "_law_exact_right" "_law_exact_right" s__law_exact_right f fd) (D__law_common : Df P w K mg base L__law_common "_law_common" ["one", "other"] wp__law_common) (D__law_draw : Df P w K mg base L__law_draw "_law_draw" ["hand", "below"] wp__law_draw) (D__law_fraction : Df P w K mg base L__law_fraction "_law_fraction" ["hand"] wp__law_fraction) (D__law_is_fraction : Df P w K mg base L__law_is_fraction "_law_is_fraction" ["thing"] wp__law_is_fraction) (D__law_low : Df P w K mg base L__law_low "_law_low" ["top", "bottom"] wp__law_low) (D__law_plus : Df P w K mg base L__law_plus "_law_plus" ["one", "other"] wp__law_plus) (D__law_scalar : Df P w K mg base L__law_scalar "_law_scalar" ["one", "other"] wp__law_scalar) (D__law_times : Df P w K mg base L__law_times "_law_times" ["one", "other"] wp__law_times) (D_common_divisor : Df P w K mg base L_common_divisor "common_divisor" ["one", "other"] wp_common_divisor) (D_fraction : Df P w K mg base L_fraction "fraction" ["top", "bottom"] (wp_fraction CN)) (D_is_fraction : Df P w K mg base L_is_fraction "is_fraction" ["thing"] wp_is_fraction) (D_less : Df P w K mg base L_less "less" ["one", "other"] wp_less) (D_minus : Df P w K mg base L_minus "minus" ["one", "other"] wp_minus) (D_over : Df P w K mg base L_over "over" ["one", "other"] (wp_over CN)) (D_plus : Df P w K mg base L_plus "plus" ["one", "other"] wp_plus) (D_scalar : Df P w K mg base L_scalar "scalar" ["one", "other"] wp_scalar) (D_times : Df P w K mg base L_times "times" ["one", "other"] wp_times) (D_total : Df P w K mg base L_total "total" ["some"] wp_total) (z_all : mg "all" = none) (z_len : mg "len" = none) (z_range : mg "range" = none) (z_repr : mg "repr" = none) (z_tuple : mg "tuple" = none) : FnG P w K mg base (L2.CX P w) 7 f fd ["hand"] (spD K 1 wp__law_exact_right) := by
  refine okDG F sc__law_exact_right fun cdv A outer s H E o pb W hgd hr tk => ⟨_, (dss_cons (ds_par (i := 1) (j := 2) (da_cons (de_call D__law_fraction hr (by decide) (by rfl) tk (da_cons (dv 0) da_nil)) (da_cons (de_call D__law_fraction hr (by decide) (by rfl) tk (da_cons (dv 0) da_nil)) da_nil)) (fun ha => ps_par (i := 1) (j := 2) rfl sc__law_exact_right.nd rfl rfl (by decide) rfl rfl ha rfl))
      (dss_cons (ds_set (i := 3) sc__law_exact_right.nd rfl (by first | exact .inl rfl | exact .inr rfl) (de_tup (da_cons (de_sub de_int (de_ixT (dv 2) de_int)) (da_cons (de_ixT (dv 2) de_int) da_nil))))
      (dss_cons (ds_set (i := 4) sc__law_exact_right.nd rfl (by first | exact .inl rfl | exact .inr rfl) (de_lst (da_cons (de_call D_plus hr (by decide) (by rfl) tk (da_cons (dv 1) (da_cons (dv 2) da_nil))) (da_cons (de_call D_minus hr (by decide) (by rfl) tk (da_cons (dv 1) (da_cons (dv 2) da_nil))) (da_cons (de_call D_times hr (by decide) (by rfl) tk (da_cons (dv 1) (da_cons (dv 2) da_nil))) (da_cons (de_call D_less hr (by decide) (by rfl) tk (da_cons (dv 1) (da_cons (dv 2) da_nil))) da_nil))))))
      (dss_cons (ds_set (i := 5) sc__law_exact_right.nd rfl (by first | exact .inl rfl | exact .inr rfl) (de_lst (da_cons (de_call D__law_plus hr (by decide) (by rfl) tk (da_cons (dv 1) (da_cons (dv 2) da_nil))) (da_cons (de_call D__law_plus hr (by decide) (by rfl) tk (da_cons (dv 1) (da_cons (dv 3) da_nil))) (da_cons (de_call D__law_times hr (by decide) (by rfl) tk (da_cons (dv 1) (da_cons (dv 2) da_nil))) da_nil)))))
      (dss_cons (ds_if (dt_neS (de_repr hgd (r65 hr) (by rfl) z_repr (da_cons (dv 4) da_nil)) (de_repr hgd (r65 hr) (by rfl) z_repr (da_cons (de_cat (dv 5) (de_lst (da_cons (de_lt (de_mul (de_ixT (dv 1) de_int) (de_ixT (dv 2) de_int)) (de_mul (de_ixT (dv 2) de_int) (de_ixT (dv 1) de_int))) da_nil))) da_nil))) (dss_one (ds_ret de_bl)) dss_nil)
      (dss_cut (ds_if (DW.t (dw_and (dt_ne hr.units (de_ixT (dv 2) de_int) de_int) (dw_and1 (dt_neS (de_repr hgd (r65 hr) (by rfl) z_repr (da_cons (de_call D_over hr (by decide) (by rfl) tk (da_cons (dv 1) (da_cons (dv 2) da_nil))) da_nil)) (de_repr hgd (r65 hr) (by rfl) z_repr (da_cons (de_call D__law_low hr (by decide) (by rfl) tk (da_cons (de_mul (de_ixT (dv 1) de_int) (de_ixT (dv 2) de_int)) (da_cons (de_mul (de_ixT (dv 1) de_int) (de_ixT (dv 2) de_int)) da_nil))) da_nil)))))) (dss_one (ds_ret de_bl)) dss_nil)
      (dss_cons (ds_set (i := 6) sc__law_exact_right.nd rfl (by first | exact .inl rfl | exact .inr rfl) (de_tuple (by rfl) z_tuple (da_cons (de_lc (own := [("turn", 7)]) rfl sc__law_exact_right.nd (di_range1 (by rfl) z_range (da_cons (de_call D__law_draw hr (by decide) (by rfl) tk (da_cons (dv 0) (da_cons de_int da_nil))) da_nil)) (blkOk_by (N := N__law_exact_right) (sc := defScope s__law_exact_right) (by decide +kernel)) (fun _ _ _ _ _ => pg_name (i := 7) sc__law_exact_right.nd rfl (by first | exact .inl rfl | exact .inr rfl)) (tgN (i := 7) (vs := [7])) mgN (fun _ _ _ _ _ => dts_nil) (fun _ _ _ _ _ => (de_call D__law_fraction hr (by decide) (by rfl) takes0 (da_cons (dv 0) da_nil)))) da_nil)))
      (dss_cons (ds_set (i := 8) sc__law_exact_right.nd rfl (by first | exact .inl rfl | exact .inr rfl) (de_tuple (by rfl) z_tuple (da_cons (de_lc (own := [("one", 1)]) rfl sc__law_exact_right.nd (di_tup (dv 6)) (blkOk_by (N := N__law_exact_right) (sc := defScope s__law_exact_right) (by decide +kernel)) (fun _ _ _ _ _ => pg_name (i := 1) sc__law_exact_right.nd rfl (by first | exact .inl rfl | exact .inr rfl)) (tgN (i := 1) (vs := [1])) mgN (fun _ _ _ _ _ => dts_nil) (fun _ _ _ _ _ => (de_call D__law_fraction hr (by decide) (by rfl) takes0 (da_cons (dv 0) da_nil)))) da_nil)))
      (dss_cons (ds_set (i := 5) sc__law_exact_right.nd rfl (by first | exact .inl rfl | exact .inr rfl) (de_lst (da_cons (de_call D__law_scalar hr (by decide) (by rfl) tk (da_cons (dv 6) (da_cons (de_rep (de_lst (da_cons (de_tup (da_cons de_int (da_cons de_int da_nil))) da_nil)) (de_len (by rfl) z_len (da_cons (dv 6) da_nil))) da_nil))) (da_cons (de_call D__law_scalar hr (by decide) (by rfl) tk (da_cons (dv 6) (da_cons (dv 8) da_nil))) da_nil))))
      (dss_cons (ds_if (dt_neS (de_repr hgd (r65 hr) (by rfl) z_repr (da_cons (de_lst (da_cons (de_call D_total hr (by decide) (by rfl) tk (da_cons (dv 6) da_nil)) (da_cons (de_call D_scalar hr (by decide) (by rfl) tk (da_cons (dv 6) (da_cons (dv 8) da_nil))) da_nil))) da_nil)) (de_repr hgd (r65 hr) (by rfl) z_repr (da_cons (dv 5) da_nil))) (dss_one (ds_ret de_bl)) dss_nil)
      (dss_cons (ds_par (i := 9) (j := 10) (da_cons (de_sub (de_call D__law_draw hr (by decide) (by rfl) tk (da_cons (dv 0) (da_cons de_int da_nil))) de_int) (da_cons (de_sub (de_call D__law_draw hr (by decide) (by rfl) tk (da_cons (dv 0) (da_cons de_int da_nil))) de_int) da_nil)) (fun ha => ps_par (i := 9) (j := 10) rfl sc__law_exact_right.nd rfl rfl (by decide) rfl rfl ha rfl))
      (dss_cons (ds_if (dt_neS (de_repr hgd (r65 hr) (by rfl) z_repr (da_cons (de_call D_common_divisor hr (by decide) (by rfl) tk (da_cons (dv 9) (da_cons (dv 10) da_nil))) da_nil)) (de_repr hgd (r65 hr) (by rfl) z_repr (da_cons (de_call D__law_common hr (by decide) (by rfl) tk (da_cons (dv 9) (da_cons (dv 10) da_nil))) da_nil))) (dss_one (ds_ret de_bl)) dss_nil)
      (dss_cut (ds_if (DW.t (dw_and (dt_ne hr.units (dv 10) de_int) (dw_and1 (dt_neS (de_repr hgd (r65 hr) (by rfl) z_repr (da_cons (de_call D_fraction hr (by decide) (by rfl) tk (da_cons (dv 9) (da_cons (dv 10) da_nil))) da_nil)) (de_repr hgd (r65 hr) (by rfl) z_repr (da_cons (de_call D__law_low hr (by decide) (by rfl) tk (da_cons (dv 9) (da_cons (dv 10) da_nil))) da_nil)))))) (dss_one (ds_ret de_bl)) dss_nil)
      (dss_cons (ds_set (i := 6) sc__law_exact_right.nd rfl (by first | exact .inl rfl | exact .inr rfl) (de_lst (da_cons (dv 1) (da_cons (de_tup (da_cons (dv 9) (da_cons (dv 10) da_nil))) (da_cons (de_tup (da_cons de_int (da_cons de_int da_nil))) (da_cons (de_tup (da_cons de_int (da_cons de_int da_nil))) (da_cons (de_tup (da_cons de_int (da_cons de_int da_nil))) (da_cons (de_tup (da_cons de_int (da_cons de_int da_nil))) (da_cons (de_tup (da_cons de_int (da_cons (de_neg de_int) da_nil))) (da_cons (de_lst (da_cons de_int (da_cons de_int da_nil))) (da_cons (de_tup (da_cons de_bl (da_cons de_int da_nil))) (da_cons (de_tup (da_cons de_int da_nil)) (da_cons (de_tup (da_cons de_int (da_cons de_int (da_cons de_int da_nil)))) (da_cons de_non (da_cons de_str da_nil)))))))))))))))
      (dss_one (ds_ret (de_all rfl (by rfl) z_all (da_cons (de_lc (own := [("thing", 11)]) rfl sc__law_exact_right.nd (di_list (dv 6)) (blkOk_by (N := N__law_exact_right) (sc := defScope s__law_exact_right) (by decide +kernel)) (fun _ _ _ _ _ => pg_name (i := 11) sc__law_exact_right.nd rfl (by first | exact .inl rfl | exact .inr rfl)) (tgN (i := 11) (vs := [11])) mgN (fun _ _ _ _ _ => dts_nil) (fun _ _ _ _ _ => (de_eqS (de_repr hgd (r65 hr) (by rfl) z_repr (da_cons (de_call D_is_fraction hr (by decide) (by rfl) takes0 (da_cons (dv 11) da_nil)) da_nil)) (de_repr hgd (r65 hr) (by rfl) z_repr (da_cons (de_call D__law_is_fraction hr (by decide) (by rfl) takes0 (da_cons (dv 11) da_nil)) da_nil))))) da_nil)))))))))))))))))), fun ds Q Z hl h => ?_⟩
  obtain ⟨rfl, h⟩ := h
  refine ⟨_, rfl, rfl, rfl, fun p hp => ⟨_, rfl, rfl, rfl, fun q hq => ⟨_, _, rfl, ?_⟩⟩⟩
  have sp : K1.Sm 3000 p := hp.sm.mono (by decide)
  have sq : K1.Sm 3000 q := hq.sm.mono (by decide)
  have sp' : K1.Sm 4400 p := hp.sm.mono (by decide)
  have sq' : K1.Sm 4400 q := hq.sm.mono (by decide)
  have hn : Drawn (-q) := by
    obtain ⟨z, e, l⟩ := hq
    exact ⟨-z, by rw [Rat.intCast_neg, ← e]; grind, by omega⟩
  have mv : ∀ {i j : Int}, i.natAbs < 2 ^ 100 → j.natAbs < 2 ^ 100 → CMulW i j := fun h k => wide_mul h k (by decide) (by decide) (by decide)
  refine ⟨_, rfl, _, _, _, rfl, rfl, rfl, _, _, rfl, rfl, True.intro, _, rfl, _, _, _, rfl, rfl, rfl, z2, ?_⟩
  refine ⟨_, rfl, _, rfl, rfl, p, q, rfl, sp, sq, _, rfl, _, rfl, rfl, p, q, rfl, sp, sq, _, rfl, _, rfl, rfl, p, q, rfl, sp, sq, _, rfl, _, rfl, rfl, p, q, rfl, sp, sq, z4, ?_⟩
  refine ⟨_, rfl, _, rfl, rfl, p, q, rfl, sp', sq', _, rfl, _, rfl, rfl, p, -q, congrArg (fun d => [fr p, d]) (fr_neg q), sp', hn.sm.mono (by decide), _, rfl, _, rfl, rfl, p, q, rfl, sp', sq', z3, ?_⟩
  have ra : Rep (fr (p + q)) 1 4000 := rep_fr (hp.sm.add hq.sm) (by decide)
  have rs : Rep (fr (p - q)) 1 4000 := rep_fr (hp.sm.sub hq.sm) (by decide)
  have rn : Rep (fr (p + -q)) 1 4000 := rep_fr (hp.sm.add hn.sm) (by decide)
  have rm : Rep (fr (p * q)) 1 4000 := rep_fr (hp.sm.mul hq.sm) (by decide)
  refine ⟨_, rfl, _, 2, 17000, rfl, rep4 ra rs rm rep_bl1, p64, l17, nstr.1, nstr.2, ?_⟩
  refine ⟨_, rfl, _, rfl, _, _, _, rfl, rfl, rfl, _, rfl, _, _, _, rfl, rfl, rfl, _, _, rfl, rfl, mv hp.sm.1 hq.sm.d, _, rfl, _, _, _, rfl, rfl, rfl, _, rfl, _, _, _, rfl, rfl, rfl, _, _, rfl, rfl, mv hq.sm.1 hp.sm.d, _, _, rfl, rfl, True.intro, z1, _, _, rfl, rfl, z4, ?_⟩
  refine ⟨_, 2, 17000, rfl, rep4 ra rn rm rep_bl1, p64, l17, nstr.1, nstr.2, _, _, rfl, rfl, _, rfl, ?_⟩
  refine pickF (same_text ?_) ?_
  · show D.lst [fr (p + q), fr (p - q), fr (p * q), .bl (decide (p < q))] = D.lst [fr (p + q), fr (p + -q), fr (p * q), .bl (decide (p.num * q.den < q.num * p.den))]
    rw [Rat.sub_eq_add_neg, decide_eq_decide.mpr (K1.lt_eq p q)]
  refine cutK ⟨_, rfl, _, _, _, rfl, rfl, rfl, rfl, rfl, _, rfl, ite2 (fun hc => ?_) fun hc => ?_⟩ ?_
  · have h0 : q ≠ 0 := fun z => by
      subst z
      exact absurd hc (by decide)
    have rd : Rep (fr (p / q)) 1 4000 := rep_fr (hp.sm.div hq.sm h0) (by decide)
    refine ⟨_, rfl, _, rfl, rfl, p, q, rfl, sp, sq, fun _ => ⟨_, 1, 4000, rfl, rd, by decide, l40, nstrT.1, nstrT.2, ?_⟩, fun z => (h0 z).elim⟩
    have hn0 : q.num ≠ 0 := fun z => h0 (Rat.num_eq_zero.mp z)
    refine ⟨_, rfl, _, _, _, rfl, rfl, rfl, _, rfl, _, _, _, rfl, rfl, rfl, _, _, rfl, rfl, mv hp.sm.1 hq.sm.d, _, rfl, _, _, _, rfl, rfl, rfl, _, rfl, _, _, _, rfl, rfl, rfl, _, _, rfl, rfl, mv hp.sm.d hq.sm.1, rfl, _, _, rfl, Int.mul_ne_zero (K1.den_ne p) hn0, ?_, _, 1, 4000, rfl, (by rw [← K1.div_eq p q h0]; exact rd), by decide, l40, nstrT.1, nstrT.2, _, _, rfl, rfl, _, rfl, pickF (same_text (by rw [K1.div_eq p q h0])) rfl⟩
    exact Nat.lt_of_lt_of_le (K1.mulI hp.sm.d hq.sm.1) (K1.two_le (by decide))
  · exact rfl
  refine ⟨_, rfl, rfl, 5, rfl, by decide, by decide, fun k k0 k1 => ⟨k, rfl, by omega, by omega, lc_map (fun _ y => ∃ q, y = fr q ∧ Drawn q) (by rw [rng_len]; exact len_lt (by omega)) (fun i x e K kk => ?_) fun zs hl hzs => ?_⟩⟩
  · exact ⟨_, rfl, rfl, rfl, fun q hq => kk _ ⟨q, rfl, hq⟩⟩
  obtain ⟨n, rfl⟩ := Int.eq_ofNat_of_zero_le k0
  rw [rng_len, Int.toNat_natCast] at hl
  obtain ⟨f, e1, hf⟩ := rows_of hzs
  rw [hl] at e1 hf
  subst e1
  have n4 : n ≤ 4 := by omega
  refine ⟨_, _, rfl, .lst _, ?_⟩
  refine ⟨_, rfl, _, rfl, lc_map (fun _ y => ∃ q, y = fr q ∧ Drawn q) (by rw [frs_len]; exact len_lt (by omega)) (fun i x e K kk => ?_) fun ws hlw hws => ?_⟩
  · exact ⟨_, rfl, rfl, rfl, fun q hq => kk _ ⟨q, rfl, hq⟩⟩
  rw [frs_len] at hlw
  obtain ⟨g, e1, hg⟩ := rows_of hws
  rw [hlw] at e1 hg
  subst e1
  refine ⟨_, _, rfl, .lst _, ?_⟩
  have sf : ∀ j, j < n → K1.Sm 100 (f j) := fun j hj => (hf j hj).sm
  have sg : ∀ j, j < n → K1.Sm 100 (g j) := fun j hj => (hg j hj).sm
  have s1' : ∀ j, j < n → K1.Sm 100 ((fun _ => 1 : Nat → Rat) j) := fun j hj => ⟨by show (1 : Nat) < 2 ^ 100; decide, by show (1 : Nat) < 2 ^ 100; decide⟩
  have fit : 1 + n * (100 + 100 + 1) ≤ 4400 := by
    have : n * 201 ≤ 4 * 201 := Nat.mul_le_mul_right _ n4
    omega
  refine ⟨_, rfl, z2, z1, _, rfl, _, _, rfl, .tup _, _, _, rfl, rfl, by rw [frs_len]; omega, ?_, ?_⟩
  · rw [frs_len]
    show 1 * n ≤ sizeLine
    exact Nat.le_of_lt (len_lt (by omega))
  rw [frs_len]
  refine ⟨rfl, _, _, n, f, fun _ => 1, 100, 100, rfl, .tup _, by rw [rep_one]; exact .lst _, fit, sf, s1', ?_⟩
  refine ⟨_, rfl, _, rfl, rfl, _, _, n, f, g, 100, 100, rfl, .tup _, .tup _, fit, sf, sg, z2, ?_⟩
  have r1 : Rep (fr (Sx.sm n f)) 1 4000 := rep_fr (n := 1 + n * (100 + 1)) (K1.sm_Sm sf) (by
    have : n * 101 ≤ 4 * 101 := Nat.mul_le_mul_right _ n4
    omega)
  have r2 : Rep (fr (Sx.sm n fun j => f j * g j)) 1 4000 := rep_fr (n := 1 + n * (100 + 100 + 1)) (K1.sm_Sm fun j hj => (sf j hj).mul (sg j hj)) (by
    have : n * 201 ≤ 4 * 201 := Nat.mul_le_mul_right _ n4
    omega)
  refine ⟨_, rfl, rfl, n, f, rfl, by omega, fun j hj => (sf j hj).mono (by decide), _, rfl, _, rfl, rfl, n, f, g, rfl, by omega, sf, fun j hj => (sg j hj).mono (by decide), z2, ?_⟩
  refine ⟨_, 2, 17000, rfl, rep2 r1 r2, p64, l17, nstr.1, nstr.2, _, rfl, _, 2, 17000, rfl, rep2 (by rw [sm_one]; exact r1) r2, p64, l17, nstr.1, nstr.2, _, _, rfl, rfl, _, rfl, ?_⟩
  refine pickF (same_text (by rw [sm_one])) ?_
  refine ⟨_, rfl, rfl, 60, rfl, by decide, by decide, fun a a0 a1 => ⟨_, _, rfl, rfl, True.intro, _, rfl, rfl, 60, rfl, by decide, by decide, fun b b0 b1 => ⟨_, _, rfl, rfl, True.intro, _, _, rfl, ?_⟩⟩⟩
  have rg : Rep (.int (Int.gcd (a - 30) (b - 30) : Nat)) 1 4000 := (rep_int (log_of (gcd_small (by omega) (by omega)) (by decide))).mono (by decide) (by decide)
  refine ⟨_, rfl, _, rfl, rfl, _, _, rfl, _, 1, 4000, rfl, rg, by decide, l40, nstrI.1, nstrI.2, _, rfl, _, rfl, rfl, _, _, rfl, _, 1, 4000, rfl, rg, by decide, l40, nstrI.1, nstrI.2, _, _, rfl, rfl, _, rfl, ?_⟩
  refine pickF (same_text rfl) ?_
  refine cutK ⟨_, rfl, rfl, rfl, _, rfl, ite2 (fun hc => ?_) fun hc => ?_⟩ ?_
  · have h0 : b - 30 ≠ 0 := fun z => by
      rw [show (fun i j => D.int (i - j)) b 30 = .int 0 from congrArg D.int z] at hc
      exact absurd hc (by decide)
    have ba : (a - 30).natAbs < 2 ^ 6 := by omega
    have bb : (b - 30).natAbs < 2 ^ 6 := by omega
    have rd : Rep (fr (Rat.divInt (a - 30) (b - 30))) 1 4000 := rep_fr (K1.sm_divInt h0 ba bb) (by decide)
    refine ⟨_, rfl, _, rfl, rfl, _, _, rfl, fun _ => ⟨Nat.lt_of_lt_of_le ba (K1.two_le (by decide)), Nat.lt_of_lt_of_le bb (K1.two_le (by decide)), _, 1, 4000, rfl, rd, by decide, l40, nstrT.1, nstrT.2, _, rfl, _, rfl, rfl, _, _, rfl, h0, Nat.lt_of_lt_of_le bb (K1.two_le (by decide)), _, 1, 4000, rfl, rd, by decide, l40, nstrT.1, nstrT.2, _, _, rfl, rfl, _, rfl, pickF (same_text rfl) rfl⟩, fun z => (h0 z).elim⟩
  · exact rfl
  refine ⟨_, rfl, _, rfl, _, rfl, z2, z2, z2, z2, z2, _, rfl, z2, z2, z2, z1, z3, z13, ?_⟩
  refine ⟨_, rfl, _, rfl, lc_mapF (fun _ => .bl true) (by show 13 < sizeLine; decide) (fun i x e K kk => ?_) ?_⟩
  · have hx : D.isP x = true := by
      have hm := List.mem_of_getElem? e
      simp only [List.mem_cons, List.not_mem_nil, or_false] at hm
      rcases hm with rfl | rfl | rfl | rfl | rfl | rfl | rfl | rfl | rfl | rfl | rfl | rfl | rfl <;> rfl
    exact ⟨_, rfl, rfl, x, rfl, hx, _, 1, 4000, rfl, rep_bl1, by decide, l40, nstrB.1, nstrB.2, _, rfl, rfl, x, rfl, hx, _, 1, 4000, rfl, rep_bl1, by decide, l40, nstrB.1, nstrB.2, _, _, rfl, rfl, blT (decide_eq_true rfl) kk⟩
  refine ⟨_, by rw [map_bl fun _ => true], ?_⟩
  rw [all_rep fun _ _ => rfl]
  exact h
end
end E0
set_option Elab.async false
set_option linter.all false
set_option maxRecDepth 100000
set_option maxHeartbeats 4000000
namespace E0
open PySem L2 Dl Dh
/-- what the class D must say for isinstance of its instances -/
structure IsC (K : PySem.W.Frag) (D : Addr) : Prop where
  cl : (PySem.W.clsIn K D).isSome = true
  ga : PySem.W.findIn K (.ref D) "__getattribute__" = some (some (.builtin "BaseException.__getattribute__"))
  gt : PySem.W.findIn K (.ref D) "__getattr__" = some none
  sb : PySem.W.subIn K (.ref D) (.type "BaseException") = some true
  ca : PySem.W.findIn K (.ref D) "__class__" = some (some (.builtin "object.__class__"))
  sp : PySem.W.specialIn K (.builtin "object.__class__") "__get__" = some (some (.builtin "getset_descriptor.__get__"))
  tk : PySem.W.takesIn K (.builtin "object.__class__") = some true
  ob : PySem.W.mroIn K D (.type "object") = some true
def rIsX (K : PySem.W.Frag) (a : Addr) (cls : Value) (d : Option Addr) : List V → Hp → VK → Prop := fun xs H Q => ∃ (D dd : Addr) (c : V) (cv : Value) (b : Bool) (fs : List (Str × V)), cls = .ref D ∧ d = some dd ∧ IsC K D ∧ xs = [.ref a, c] ∧ (∀ u, RelV c u → u = cv) ∧ H dd = some (.xd fs) ∧ PySem.W.kitOne K (.ref D) cv = some b ∧ Q (.bl b) H
theorem call_isX {X : Cx} {a : Addr} {cls : Value} {d : Option Addr} {oe : Obj} {pn : List (Addr × Obj)} (hz : Zc cls d oe) (hf : ∃ vs, oe.data = .fields vs) : CallR (X.suite a ((a, oe) :: pn)) (.builtin "isinstance") (rIsX X.K a cls d) := by
  intro pins s σ H xs us Q I r h
  obtain ⟨D, dd, c, cv, b, fs, rfl, rfl, C, rfl, hcv, hdd, e, q⟩ := h
  obtain ⟨u1, u2, rfl, r1, r2⟩ := vals2 r
  obtain rfl : u1 = Value.ref a := r1
  obtain rfl := hcv _ r2
  obtain ⟨hget, _⟩ := I.pin (a, oe) (List.mem_append.mpr (.inl List.mem_cons_self))
  obtain ⟨vs, hv⟩ := hf
  have hx : ObjOk X.prog X.w H s.heap dd (.xd fs) := I.hok dd _ hdd
  obtain ⟨mA, ⟨od, _, _, hod, _⟩, _⟩ := hx
  have J : PySem.W.InstAt s.heap a oe D (some od) := by
    obtain ⟨oc, odi, oda, osl⟩ := oe
    obtain ⟨h1, h2⟩ := hz
    dsimp only at h1 h2 hv
    subst h1 h2 hv
    exact ⟨hget, rfl, rfl, hod⟩
  exact PySem.W.kia_one (PySem.W.kitx_exc C.cl C.ga C.gt C.sb C.ca C.sp C.tk C.ob) I.kIn J e (fun z => nomatch z) fun tk => ⟨.bl b, H, I.kept (t' := tk) fun _ _ z => z, rfl, q⟩
abbrev sTold : Stmt := match top 2 with
  | .ClassDef _ _ _ body _ _ _ _ _ _ _ => body.getD 1 (.Pass ⟨0, 0, 0, 0⟩)
  | s => s
abbrev sSaid : Stmt := top 35
abbrev N_said : List Str := ["call", "error"]
theorem sc_said : FnScope N_said ["call"] (defScope sSaid) := ⟨rfl, rfl, rfl, by decide +kernel, rfl, by decide +kernel, by decide +kernel⟩
theorem sc_told : FnScope ["self"] ["self"] (defScope sTold) := ⟨rfl, rfl, rfl, by decide +kernel, rfl, by decide +kernel, by decide +kernel⟩
/-- what a suite must know of the error it caught -/
def XS (CN : Addr) (Q : Hp → Prop) : XK := fun cls d H => cls = .ref CN ∧ ∃ (dd : Addr) (fs : List (Str × V)), d = some dd ∧ H dd = some (.xd fs) ∧ fs.lookup ("told" : Str) = none ∧ fs.lookup ("word" : Str) = some (V.str "nofraction") ∧ Q H
def TSaid (CN : Addr) : (XK → Hp → VK → Prop) → Hp → VK → Prop := fun tl H Q => tl (XS CN fun H' => Q (.str "fraction") H') H fun _ H' => Q (.str "told") H'
abbrev suiteS : List Stmt := match defBody sSaid with
  | .Try _ (.ExceptHandler _ _ b _ :: _) _ _ _ :: _ => b
  | _ => []
theorem iteY {A B : Prop} (h : A) : if true = true then A else B := h
section
variable {X : Cx} {CN CV fT : Addr} {fdT : FuncData} {k : Nat}
/-- the except suite -/
theorem ps_fracsuite {a : Addr} {oe : Obj} {cls : Value} {d : Option Addr} {pn : List (Addr × Obj)} (hz : Zc cls d oe) (hf : ∃ vs, oe.data = .fields vs) (C : IsC X.K CN) (T : Dt.TolC X.K CN fT "told" "word") (FT : Fun X.K "told" "VerdictError.told" sTold fT fdT) (bT : Binds X.K fdT ["self"] [])
    (hr : Room (k + 1) X.A) (mN : X.mg "NoFraction" = some (.ref CN)) (zI : X.mg "isinstance" = none) (zV : X.mg "ValueError" = none) (hs : X.env.scope = defScope sSaid) (h1 : X.N = N_said)
    (kN : PySem.W.kitOne X.K (.ref CN) (.ref CN) = some true) (kV : PySem.W.kitOne X.K (.ref CN) (.type "ValueError") = some true) :
    PSs (X.suite a ((a, oe) :: pn)) suiteS
      (fun D σ H => σ[1]? = some (some (.ref a)) ∧ XS CN (fun H' => D.rt (.str "fraction") H') cls d H) := by
  by_cases hc : cls = .ref CN
  · subst hc
    have gl : ∀ {x : Str}, (defScope sSaid).names.lookup x = some .globalImplicit → Gl (X.suite a ((a, oe) :: pn)) x := fun {x} e => by
      show X.env.scope.names.lookup x = some .globalImplicit
      rw [hs]; exact e
    have er : ∀ {p : Pos}, PE (X.suite a ((a, oe) :: pn)) (.Name "error" p) (tVar 1) := fun {p} => pe_var (i := 1) (by show X.N[1]? = _; rw [h1]; rfl) (by show Vis X.env.scope _; rw [hs]; exact .inl rfl)
    refine PSs.imp (pss_cons (ps_if (PW.pt (pw_and (pt_val (pe_callB (call_isX hz hf) (gl (by rfl)) zI PyProof.Rows.boot_isinstance (pa_cons er (pa_cons (pe_glob (v := V.ref CN) (gl (by rfl)) mN rfl) pa_nil))))
        (pw_and (pt_val (pe_callB (call_isX hz hf) (gl (by rfl)) zI PyProof.Rows.boot_isinstance (pa_cons er (pa_cons (pe_bltn (v := V.ty "ValueError") (gl (by rfl)) zV PyProof.Rows.Boot.«ValueError» rfl) pa_nil))))
          (pw_and1 (pt_cmpR op_eq (Dt.pe_told (np2 := ⟨12, 15, 12, 19⟩) (k := k) T hz hf FT sc_told bT rfl (L2H.roomH_of hr) er) pe_str (nomark _)))))) (pss_one (ps_ret pe_str)) pss_nil) (pss_one (ps_ret pe_str))) ?_
    rintro D σ H ⟨e1, _, dd, fs, rfl, hdd, n1, n2, q⟩
    refine ⟨_, e1, CN, dd, _, _, true, fs, rfl, rfl, C, rfl, (fun u e => e), hdd, kN, _, rfl, iteY ?_⟩
    refine ⟨_, e1, CN, dd, _, _, true, fs, rfl, rfl, C, rfl, (fun u e => e), hdd, kV, _, rfl, iteY ?_⟩
    refine ⟨_, e1, rfl, dd, fs, V.str "nofraction", rfl, hdd, n1, n2, ?_⟩
    exact ⟨rfl, _, rfl, iteY q⟩
  · exact ⟨fun pins s σ H E I h => (hc h.2.1).elim⟩
/-- what a def of the law needs of the errors' classes -/
structure SaidF (X : Cx) (CN CV fT : Addr) (fdT : FuncData) : Prop where
  C : IsC X.K CN
  T : Dt.TolC X.K CN fT "told" "word"
  FT : Fun X.K "told" "VerdictError.told" sTold fT fdT
  bT : Binds X.K fdT ["self"] []
  mN : X.mg "NoFraction" = some (.ref CN)
  mV : X.mg "VerdictError" = some (.ref CV)
  zI : X.mg "isinstance" = none
  zV : X.mg "ValueError" = none
  xm : PySem.W.exmOne X.K (.ref CN) (.ref CV) = some true
  kN : PySem.W.kitOne X.K (.ref CN) (.ref CN) = some true
  kV : PySem.W.kitOne X.K (.ref CN) (.type "ValueError") = some true
theorem said_gives {g : Addr} {cdg : Value} {q : Str} (S : SaidF X CN CV fT fdT) (hr : Room (k + 3) X.A) : LamX.GivesTo X N_said "_law_said" (defScope sSaid) g cdg (defBody sSaid) "call" q (TSaid CN) := by
  intro f c' s H Q tl act hc h
  refine ⟨_, pss_cons (ps_try_as (X := (cxOf C8.CX0 X.prog X.w X.K X.mg X.base N_said "_law_said" (defScope sSaid) g cdg X.A X.stack s H C8.E0).nox) (c := .ref CV) (i := 1)
      (tb := fun W D σ H => ∃ Ech : XK, (∀ cls d σ' H', Ech cls d H' → W cls d σ' H') ∧ σ[0]? = some (some (.ref f)) ∧ H c' = some (LamX.CodeO c' q) ∧ tl Ech H fun _ H' => D.nx σ H')
      (ts := fun a cls d D σ H => σ.length = 2 → (σ[1]? = some (some (.ref a)) ∧ XS CN (fun H' => D.rt (.str "fraction") H') cls d H))
      (Wout := fun _ _ _ _ => False) rfl rfl sc_said.nd rfl rfl ⟨rfl, by decide, .inl S.mV⟩ LamX.takes0 (fun W pn xe tk _ => ?_) (fun a oe cls d pn hz hf => ?_)) (pss_one (ps_ret pe_str)), ?_⟩
  · refine ⟨fun pins s' σ H' D I h' => ?_⟩
    obtain ⟨Ech, hW, h1, h2, h3⟩ := h'
    exact (pss_one (ps_expr (act W pn xe Ech _ _ tk hW))).run pins s' σ H' D I ⟨h1, h2, h3⟩
  · have p := ps_fracsuite (X := (cxOf C8.CX0 X.prog X.w X.K X.mg X.base N_said "_law_said" (defScope sSaid) g cdg X.A X.stack s H C8.E0).nox) (k := k + 1) (a := a) (pn := pn) hz hf S.C S.T S.FT S.bT (hr.deeper _) S.mN S.zI S.zV rfl rfl S.kN S.kV
    exact ⟨fun pins s' σ H' D I h' => p.run pins s' σ H' D I (h' I.len)⟩
  · refine ⟨XS CN fun H' => Q (.str "fraction") H', fun cls d σ' H' hx => ?_, rfl, hc, h⟩
    obtain ⟨rfl, dd, fs, rfl, hdd, n1, n2, q⟩ := hx
    refine ⟨true, S.xm, fun _ a na hl => ?_, fun z => nomatch z⟩
    have hl' : σ'.length = 2 := by rw [List.length_set] at hl; exact hl
    exact ⟨by rw [List.getElem?_set_self (by omega)], rfl, dd, fs, rfl, hdd, n1, n2, q⟩
end
end E0
set_option Elab.async false
set_option linter.all false
set_option maxRecDepth 100000
set_option maxHeartbeats 4000000
namespace E0
open PySem L2 Dl Dh LamX
/-! ### heaps of which the tables grew -/
def noTb (F : Hp) : Hp := fun b => match F b with
  | some (.tbl _) => none
  | u => u
theorem noTb_some {F : Hp} {b : Addr} {u : HO} (e : noTb F b = some u) : F b = some u ∧ ∀ ps, u ≠ .tbl ps := by
  unfold noTb at e
  cases h : F b with
  | none => rw [h] at e; cases e
  | some v => cases v <;> rw [h] at e <;> cases e <;> exact ⟨rfl, fun _ z => nomatch z⟩
theorem noTb_of {F : Hp} {b : Addr} {u : HO} (e : F b = some u) (n : ∀ ps, u ≠ .tbl ps) : noTb F b = some u := by
  unfold noTb
  rw [e]
  cases u <;> first | rfl | exact (n _ rfl).elim
theorem noTb_none {F : Hp} {b : Addr} (e : F b = none) : noTb F b = none := by unfold noTb; rw [e]
theorem sqT_noTb {K : PySem.W.Frag} {F : Hp} {a : Addr} {xs : List V} (h : SqT K F a xs) : SqT K (noTb F) a xs := by
  rcases h with (h | ⟨o, h⟩) | h
  · exact .inl (.inl (noTb_of h fun _ z => nomatch z))
  · exact .inl (.inr ⟨o, noTb_of h fun _ z => nomatch z⟩)
  · exact .inr h
section
variable {K : PySem.W.Frag} {o : Option Hd} {F : Hp}
mutual
theorem rp_noTb : ∀ {v : V} {d : D}, Rp K o F v d → Rp K o (noTb F) v d
  | _, _, .non => .non
  | _, _, .bl b => .bl b
  | _, _, .int i => .int i
  | _, _, .str s => .str s
  | _, _, .lst h r => .lst (noTb_of h fun _ z => nomatch z) (rpA_noTb r)
  | _, _, .tup h r => .tup (sqT_noTb h) (rpA_noTb r)
  | _, _, .hand h => .hand h
  | _, _, .ty n => .ty n
  | _, _, .adr a => .adr a
theorem rpA_noTb : ∀ {vs : List V} {ds : List D}, RpA K o F vs ds → RpA K o (noTb F) vs ds
  | _, _, .nil => .nil
  | _, _, .cons h r => .cons (rp_noTb h) (rpA_noTb r)
end
end
section
variable {K : PySem.W.Frag} {o : Option Hd} {pb : Addr → Prop} {F H H1 : Hp} {σ : St} {ρ : List DV}
theorem ok_grown (k : Ok o pb F H) (e : ExtN H H1) : Ok o pb (noTb F) H1 := ⟨fun b u q => e b u (k.sm b u (noTb_some q).1) (noTb_some q).2, fun h q => by
    obtain ⟨h1, h2⟩ := k.hd h q
    obtain ⟨i, d, x, e2, h3, h4⟩ := h1.ex
    exact ⟨⟨⟨i, d, x, e2, e _ _ h3 fun _ z => (nomatch z), h4⟩, e _ _ h1.cs fun _ z => (nomatch z), h1.ne, h1.len⟩, noTb_none h2⟩, fun b q => by
    obtain ⟨h1, u, h2, h3⟩ := k.pr b q
    exact ⟨noTb_none h1, u, e _ _ h2 (fun ps z => by subst z; exact h3), h3⟩⟩
theorem sl_grown (h : Sl K o pb F H σ ρ) (e : ExtN H H1) : Sl K o pb (noTb F) H1 σ ρ := ⟨h.len, fun i d q => (by
    obtain ⟨v, h1, h2⟩ := h.dat i d q
    exact ⟨v, h1, rp_noTb h2⟩), fun i ds q => (by
    obtain ⟨a, xs, h1, h2, h3, h4, h5⟩ := h.own i ds q
    exact ⟨a, xs, h1, e _ _ h2 (fun _ z => nomatch z), rpA_noTb h3, noTb_none h4, h5⟩), h.inj⟩
end
theorem tabs_stp {T : List (Addr × Str)} {o : Option Hd} {F H F' H' : Hp} (t : Tabs T H) (hh : ∀ h, o = some h → HandAt H h) (s : Stp o F H F' H') : Tabs T H' := fun p hp => s.ex.tb hh _ _ (t p hp)
abbrev nPb : Addr → Prop := fun _ => False
/-- the state between two statements of the law -/
structure Stt (K : PySem.W.Frag) (T : List (Addr × Str)) (h : Hd) (F H : Hp) (σ : St) (ρ : List DV) : Prop where
  ok : Ok (some h) nPb F H
  sl : Sl K (some h) nPb F H σ ρ
  tb : Tabs T H
def tSaid (K : PySem.W.Frag) (T : List (Addr × Str)) (CN : Addr) (g : GE) : TE := fun σ H Q => ∃ h F ρ, Stt K T h F H σ ρ ∧ g ρ (fun _ => False) (fun C fs => C = CN ∧ fs = [(("word" : Str), D.str "nofraction")]) ∧ ∀ F' H', Stt K T h F' H' σ ρ → Q (.str "fraction") H'
section
variable {X : Cx} {CN CV fT : Addr} {fdT : FuncData} {k : Nat}
/-- _law_said(lambda: ..), whose body raises NoFraction -/
theorem pe_said {T : List (Addr × Str)} {g c P : Addr} {kk : Nat} {params : Arguments} {body : Expr} {scope : Scope} {gb : GE} {p lpos pos : Pos} {fdg : FuncData} (S : SaidF X CN CV fT fdT) (FG : Fun X.K "_law_said" "_law_said" sSaid g fdg) (bG : Binds X.K fdg ["call"] [])
    (hg : Gl X "_law_said") (hm : X.mg "_law_said" = some (.ref g))
    (TB : TabB X.base X.mg c P) (hcode : X.env.code = .ref c) (hmT : (P, X.env.qual ++ "<lambda>") ∈ T) (hu : ∀ p ∈ T, p.1 = P → p.2 = X.env.qual ++ "<lambda>") (hr : Room (kk + 3) X.A) (L : LamS X.env.scope scope) (hdef : defaultsOf params X.env = ([], []))
    (hbind : ∀ (q : Str) (cl : List (Str × Addr)) (pm cv ctv : Value), bindArgs (PySem.W.kla_fn "<lambda>" q params body scope cl pm cv ctv) ⟨[], []⟩ = pure [])
    (hm2 : Mn gb) (hbody : ∀ (A : Around) (outer : List Env) (s : Shared) (H : Hp) (E : XK) (f c' : Addr) (h : Hd), Room (kk + 1) (A.deeper (lamEnv X scope s.heap.objs.size f c')) → DE (lamCx X A outer s H E scope f c') ⟨X.K, some h, nPb, fun cls d _ H => E cls d H⟩ body gb) :
    PE X (.Call (.Name "_law_said" p) [.Lambda params body scope lpos] [] pos) (tSaid X.K T CN gb) := by
  obtain ⟨oc, od, kV, doc, pm, an, cdv, ct, osl, rfl, lk, hcd⟩ := FG.ex
  refine PE.imp (pe_lamcall (T := T) (t := fun E σ H Q => ∃ h : Hd, tD ⟨X.K, some h, nPb, fun cls d _ H => E cls d H⟩ gb σ H Q) hg hm FG.kp lk hcd bG sc_said rfl (.inl rfl) (said_gives (k := kk) S hr) TB hcode hmT hu hr L hdef hbind
    (fun A outer s H E f c' hr' => ⟨fun pins s' σ H' Q I ⟨h, q⟩ => (hbody A outer s H E f c' h hr').pe.run pins s' σ H' Q I q⟩)) ?_
  rintro σ H Q ⟨h, F, ρ, st, w, q⟩
  refine ⟨st.tb, fun H1 eN t1 => ?_⟩
  have ok1 := ok_grown st.ok eN
  have sl1 := sl_grown st.sl eN
  refine ⟨h, noTb F, ρ, ok1, sl1, hm2.up (fun _ z => z.elim) (fun C fs e F' H' dd vs s3 hd r => ?_) w⟩
  obtain ⟨rfl, rfl⟩ := e
  have hvs : vs = [(("word" : Str), V.str "nofraction")] := by
    obtain ⟨h1, h2⟩ := r
    match vs, h1, h2 with
    | [(n, v)], h1, h2 =>
      have e1 : n = ("word" : Str) := by simpa using h1
      have e2 : v = V.str "nofraction" := by
        cases h2 with
        | cons a b => exact a.inv_str
      rw [e1, e2]
  subst hvs
  exact ⟨rfl, dd, _, rfl, hd, by rfl, by rfl, q F' H' ⟨ok1.step s3, sl1.step s3, tabs_stp t1 (fun h' e => (ok1.hd h' e).1) s3⟩⟩
end
end E0
set_option Elab.async false
set_option linter.all false
set_option maxRecDepth 100000
set_option maxHeartbeats 4000000
namespace E0
open PySem L2 Dl Dh Dg LamX
/-- a def that is called where no repr is under way -/
theorem de_callG {X : Cx} {c : Dc} {e : Expr} {es : List Expr} {gs : GA} {pos p : Pos} {j k : Nat} {x : Str} {ps : List Str} {wp : WP} (Dx : DfG X.prog X.w X.K X.mg X.base k x ps wp) (hgd : X.A.guards = some []) (hr : Room j X.A) (hk : k ≤ j) (hg : Gl X x) (tk : Takes X c.W) (ha : DA X c (e :: es) gs) (hdb : (x == ("__debug__" : Str)) = false := by decide)
    (he : starEach (e :: es) X.env = (false, eval e X.env) :: starEach es X.env := by rfl) (hpl : (backTo pos (starEach es X.env)).any (·.1) = false := by rfl) (hK : X.K = c.K := by rfl) : DE X c (.Call (.Name x p) (e :: es) [] pos) (gCall ps.length wp gs) := by
  obtain ⟨f, fd, F, hm, hkp, hb⟩ := Dx.ex
  have pe : PE X (.Call (.Name x p) (e :: es) [] pos) (tCallS (spD X.K ps.length wp) (WE c.W) (tDA c gs)) := by
    constructor
    intro pins s σ H Q I h
    refine wpAny_Call_Name_kw (ld_glob I hg hm (PySem.W.callWith_K (h₀ := X.base) I.ok.mod.kin hkp (thn (ha.pa.run pos pins s σ H _ I h) ?_) he hpl) hdb)
    rintro us s1 ⟨vs, H1, I1, r, q⟩
    refine ⟨I1.kIn, ?_⟩
    have b := hb s1 us I1.kIn (by rw [List.append_nil, ← r.length]; exact q.1)
    rw [List.append_nil] at b
    refine wpAny_call (codeAny_mono (F.run X.A X.stack s1 H1 ⟨us, []⟩ us vs Q _ hgd (hr.mono hk) I1.env0 b r q) fun u s2 hq => ?_)
    match u, hq with
    | .error y, hq => exact passAt tk σ pins H1 s1 y s2 I1 hq
    | .ok (.ret v), hq => exact I1.after hq
    | .ok .next, hq => exact False.elim hq
    | .ok .brk, hq => exact False.elim hq
    | .ok .cont, hq => exact False.elim hq
  refine ⟨⟨fun h z w => ha.mono.up (fun ds q => ⟨q.1, Dx.mw.up h z q.2⟩) z w⟩, PE.imp pe fun σ H Q ⟨F0, ρ, k0, sl, w⟩ => ?_⟩
  refine goA ha.mono k0 k0.rf sl w fun ds F1 H1 vs s1 r q => ?_
  have k1 := k0.step s1
  refine ⟨by rw [r.length]; exact q.1, c.o, F1, ds, ⟨k1.sm, k1.hd, fun b z => z.elim⟩, by rw [hK]; exact r, Dx.mw.up (fun d h F' H' v s r => ?_) (fun C fs h F' H' dd vs' s e r => ?_) q.2⟩
  · exact h F' H' v (s1.tr k0 s) (by rw [← hK]; exact r)
  · exact h F' H' dd vs' (s1.tr k0 s) e (by rw [← hK]; exact r)
theorem ps_exh {X : Cx} {st : Stmt} {t : Hd → TS} (p : ∀ h, PS X st (t h)) : PS X st (fun E σ H => ∃ h, t h E σ H) := ⟨fun pins s σ H E I ⟨h, q⟩ => (p h).run pins s σ H E I q⟩
theorem pss_exh {X : Cx} {st : List Stmt} {t : Hd → TS} (p : ∀ h, PSs X st (t h)) : PSs X st (fun E σ H => ∃ h, t h E σ H) := ⟨fun pins s σ H E I ⟨h, q⟩ => (p h).run pins s σ H E I q⟩
theorem mnCall {n : Nat} {wp : WP} {gs : GA} (mw : MW wp) (m : Mn gs) : Mn (gCall n wp gs) := ⟨fun h z w => m.up (fun ds q => ⟨q.1, mw.up h z q.2⟩) z w⟩
theorem mnAn : Mn gAn := ⟨fun h _ q => h _ q⟩
theorem mnAc {ga : GE} {gs : GA} (a : Mn ga) (b : Mn gs) : Mn (gAc ga gs) := ⟨fun h z w => a.up (fun d q => b.up (fun ds q => h _ q) z q) z w⟩
theorem mnC {d : D} : Mn (gC d) := ⟨fun h _ q => h _ q⟩
theorem mnV {i : Nat} : Mn (gVar i) := ⟨fun h _ ⟨d, e, q⟩ => ⟨d, e, h _ q⟩⟩
theorem mfTup : M1 fTup := ⟨fun h q => ⟨q.1, h _ q.2⟩⟩
abbrev mkr (n : Int) (d : Nat) (h1 : d ≠ 0 := by decide) (h2 : n.natAbs.Coprime d := by decide) : Rat := ⟨n, d, h1, h2⟩
theorem smk {q : Rat} {n : Nat} (h : K1.Sm 5 q) (k : 5 ≤ n := by decide) : K1.Sm n q := h.mono k
theorem rho1 {i : Nat} {x : DV} (e : ([.no, .dat .hand, .no, .no, .no, .no, .no, .no, .no] : List DV)[i]? = some x) : x = .no ∨ (i = 1 ∧ x = .dat .hand) := by
  rcases i with _ | _ | i
  · left; simpa using e.symm
  · right; exact ⟨rfl, by simpa using e.symm⟩
  · left
    have e : ([.no, .no, .no, .no, .no, .no, .no] : List DV)[i]? = some x := by simpa using e
    simpa using List.mem_of_getElem? e
abbrev knownD : D := .lst [.tup [.int (-2), .int 3], .tup [.int 5, .int 6], .tup [.int (-3), .int 2], .int 0, .tup [.int 0, .int 1]]
theorem kn : D.lst [fr (Rat.divInt 4 (-6)), fr (mkr 1 2 + mkr 1 3), fr (mkr 1 2 / mkr (-1) 3), .int ((Int.gcd 0 0 : Nat) : Int), fr (Sx.sm 0 fun _ => 0)] = knownD := by
  rw [show Rat.divInt 4 (-6) = mkr (-2) 3 by decide +kernel, show mkr 1 2 + mkr 1 3 = mkr 5 6 by decide +kernel, show mkr 1 2 / mkr (-1) 3 = mkr (-3) 2 by decide +kernel]
  rfl
theorem rep_ii {a b : Int} (ha : a.natAbs < 2 ^ 9) (hb : b.natAbs < 2 ^ 9) : Rep (.tup [.int a, .int b]) 1 4000 := (rep_tup (p := 0) (L := 1921) fun x hx => by
  simp only [List.mem_cons, List.not_mem_nil, or_false] at hx
  rcases hx with rfl | rfl
  · exact rep_int (log_of ha (by decide))
  · exact rep_int (log_of hb (by decide))).mono (Nat.le_refl _) (by show 2 * 1921 + 2 * 2 + 3 ≤ 4000; decide)
theorem repK : Rep knownD 2 21000 := (rep_lst (p := 1) (L := 4000) fun x hx => by
  simp only [List.mem_cons, List.not_mem_nil, or_false] at hx
  rcases hx with rfl | rfl | rfl | rfl | rfl
  · exact rep_ii (by decide) (by decide)
  · exact rep_ii (by decide) (by decide)
  · exact rep_ii (by decide) (by decide)
  · exact (rep_int (log_of (n := 9) (by decide) (by decide))).mono (by decide) (by decide)
  · exact rep_ii (by decide) (by decide)).mono (Nat.le_refl _) (by show 5 * 4000 + 2 * 5 + 3 ≤ 21000; decide)
theorem l21 : 21000 ≤ sizeLine := by decide
open Sx in
theorem bar_fe {m n : Nat} {R : Nat → Nat → Rat} {g x y : Nat → Rat} (hb : K1.BarR m n R g y) (hx : K1.Fe m n R g x) : False := by
  have e : sm m (fun k => y k * g k) = sm n fun j => sm m (fun k => y k * R k j) * x j := by
    rw [sm_ext (f := fun k => y k * g k) (g := fun k => sm n fun j => y k * R k j * x j) m fun k hk => by
      show y k * g k = _
      rw [← hx.2 k hk, ← sm_mul]
      exact sm_ext n fun j _ => by grind, sm_swap]
    exact sm_ext n fun j _ => sm_mulr (x j) (fun k => y k * R k j) m
  have l := sm_le (f := fun j => sm m (fun k => y k * R k j) * x j) (g := fun _ => 0) n fun j hj => by
    have h1 := hb.1 j hj
    have h2 := hx.1 j hj
    have := Rat.mul_nonneg (a := -(sm m fun k => y k * R k j)) (b := x j) (by grind) h2
    show (sm m fun k => y k * R k j) * x j ≤ 0
    grind
  rw [sm_zero] at l
  have h0 := hb.2
  rw [e] at h0
  grind
theorem sm1 (f : Nat → Rat) : Sx.sm 1 f = f 0 := by show (0 : Rat) + f 0 = f 0; grind
theorem sml1 {a b : Rat} (ha : Sx.Bd K1.Bq (a * 24)) (hb : Sx.Bd K1.Bq (b * 24)) : K1.Sml 1 1 (fun _ _ => a) (fun _ => b) := ⟨.inl rfl, by decide, fun _ _ _ _ => ha, fun _ _ => hb⟩
theorem rows_both {Q : D → Prop} {FE : Prop} {x y : D} (h : ∀ b : Bool, (b = true → FE) → Q (.tup [x, y, .bl b])) : (FE → Q (.tup [x, y, .bl true])) ∧ Q (.tup [x, y, .bl false]) := ⟨fun f => h true fun _ => f, h false fun z => nomatch z⟩
theorem z5 : 5 ≤ sizeLine := by decide
theorem z0 : 0 ≤ sizeLine := by decide
abbrev s_law : Stmt := top 36
abbrev N_law : List Str := ["script", "hand", "known", "words", "times_again", "rows", "numbers", "is_known", "told"]
theorem sc_law : FnScope N_law ["script"] (defScope s_law) := ⟨rfl, rfl, rfl, by decide +kernel, rfl, by decide +kernel, by decide +kernel⟩
abbrev cL (K : PySem.W.Frag) (h : Hd) : Dc := ⟨K, some h, nPb, fun _ _ _ _ => False⟩
section
variable {P : Program} {w : World} {K : PySem.W.Frag} {mg : Str → Option Value} {base : Heap} {CN CV fT g c Pt f a : Addr} {fdT fdg : FuncData} {A : Around} {outer : List Env} {s : Shared} {H : Hp} {ns : List Int}
abbrev qLam : Str := (PyProof.Rows.envOfC "law" (defScope s_law) 0 0 .none).qual ++ "<lambda>"
abbrev L_fitted := 6
abbrev wpF (CN : Addr) := wp_fraction CN
theorem law_runs {dV kV doc pm ct oc : Value} {an od : Option Addr} {osl : Array (Option Value)} {args : Args}
    (lk : K.lookup f = some ⟨oc, od, .func (PySem.W.fnOf "law" "law" (defArgs s_law) (defBody s_law) (defScope s_law) dV kV doc pm an (.ref c) ct), osl⟩) (hcd : PySem.W.codeIn K (.ref c) "law" = true)
    (S : ∀ X : Cx, X.K = K → X.mg = mg → SaidF X CN CV fT fdT) (FG : Fun K "_law_said" "_law_said" sSaid g fdg) (bG : Binds K fdg ["call"] []) (mG : mg "_law_said" = some (.ref g)) (TB : TabB base mg c Pt)
    {fh : Addr} {fdh : FuncData} (FH : FnOk P w K mg base CX0 1 fh fdh ["script"] (spHand K)) (mH : mg "_law_hand" = some (.ref fh)) (kH : PySem.W.keepIn K (.ref fh) = true) (bH : Binds K fdh ["script"] [])
    (D_fraction : Df P w K mg base 4 "fraction" ["top", "bottom"] (wp_fraction CN)) (D_over : Df P w K mg base 5 "over" ["one", "other"] (wp_over CN)) (D_plus : Df P w K mg base 3 "plus" ["one", "other"] wp_plus) (D_common_divisor : Df P w K mg base 1 "common_divisor" ["one", "other"] wp_common_divisor)
    (D_total : Df P w K mg base 4 "total" ["some"] wp_total) (D__law_draw : Df P w K mg base 1 "_law_draw" ["hand", "below"] wp_draw) (D__law_rows : Df P w K mg base 5 "_law_rows" ["hand"] wp__law_rows) (D_fitted : Df P w K mg base 6 "fitted" ["rows", "numbers"] wp_fitted)
    (D__law_is_fit : Df P w K mg base 5 "_law_is_fit" ["rows", "numbers", "told"] wp__law_is_fit) (D__law_exact_right : DfG P w K mg base 7 "_law_exact_right" ["hand"] wp__law_exact_right) (z_repr : mg "repr" = none) (z_range : mg "range" = none)
    (hr0 : Room 9 A) (hgd : A.guards = some []) (e0 : Env0 P w K mg base A outer s H) (hb : BindsTo s (PySem.W.fnOf "law" "law" (defArgs s_law) (defBody s_law) (defScope s_law) dV kV doc pm an (.ref c) ct) args [("script", .ref a)])
    (hS : SqL K H a (ns.map V.int)) (hl : ns.length ≤ 63) (hP : H Pt = some (.tbl #[])) : codeAny (model P w) A (.call (.ref f) args) (CR CX0 outer P w H s (fun v _ => v = .bl true) fun _ _ _ => False) s := by
  refine run_ofS (k := 8) (N := N_law) (ps := ["script"]) (us := [.ref a]) (vs := [.ref a]) lk hcd sc_law hr0 e0 hb (.cons rfl .nil) rfl fun hr => ?_
  refine ⟨_, pss_cons (ps_set (i := 1) sc_law.nd rfl (.inr rfl) (pe_callS (E := fun _ _ _ _ => False) FH (hr.mono (by decide)) (by rfl) mH kH bH (fun σ _ _ _ _ _ _ x => x.elim) (pa_cons (pv 0) pa_nil)))
    (pss_cons (ps_exh fun h => DS.ps (c := cL K h) (ds_set (i := 2) sc_law.nd rfl (by first | exact .inl rfl | exact .inr rfl) (de_lst (da_cons (de_call D_fraction hr (by decide) (by rfl) L2.takes0 (da_cons de_int (da_cons (de_neg de_int) da_nil))) (da_cons (de_call D_plus hr (by decide) (by rfl) L2.takes0 (da_cons (de_tup (da_cons de_int (da_cons de_int da_nil))) (da_cons (de_tup (da_cons de_int (da_cons de_int da_nil))) da_nil))) (da_cons (de_call D_over hr (by decide) (by rfl) L2.takes0 (da_cons (de_tup (da_cons de_int (da_cons de_int da_nil))) (da_cons (de_tup (da_cons (de_neg de_int) (da_cons de_int da_nil))) da_nil))) (da_cons (de_call D_common_divisor hr (by decide) (by rfl) L2.takes0 (da_cons de_int (da_cons de_int da_nil))) (da_cons (de_call D_total hr (by decide) (by rfl) L2.takes0 (da_cons (de_tup da_nil) da_nil)) da_nil))))))))
    (pss_cons (ps_exh fun h => DS.ps (c := cL K h) (ds_if (dt_neS (de_repr hgd (r65 hr) (by rfl) z_repr (da_cons (dv 2) da_nil)) (de_repr hgd (r65 hr) (by rfl) z_repr (da_cons (de_lst (da_cons (de_tup (da_cons (de_neg de_int) (da_cons de_int da_nil))) (da_cons (de_tup (da_cons de_int (da_cons de_int da_nil))) (da_cons (de_tup (da_cons (de_neg de_int) (da_cons de_int da_nil))) (da_cons de_int (da_cons (de_tup (da_cons de_int (da_cons de_int da_nil))) da_nil)))))) da_nil))) (dss_one (ds_ret de_bl)) dss_nil))
    (pss_cons (ps_set (i := 3) sc_law.nd rfl (.inl rfl) (pe_lst (pa_cons (pe_said (T := [(Pt, qLam)]) (gb := ?b1) (kk := 4) (S _ rfl rfl) FG bG (by rfl) mG TB rfl List.mem_cons_self ?hu (hr.mono (by decide)) (lamS_by (sc := defScope s_law) (by decide +kernel)) rfl (fun _ _ _ _ _ => rfl) ?m1 ?l1) pa_nil)))
    (pss_cons (ps_expr (pe_bm PySem.F.plainAttrs_list PySem.F.slot_list_append PySem.F.type_list_append mt_append (pv 3) (pa_cons (pe_said (T := [(Pt, qLam)]) (gb := ?b2) (kk := 4) (S _ rfl rfl) FG bG (by rfl) mG TB rfl List.mem_cons_self ?hu2 (hr.mono (by decide)) (lamS_by (sc := defScope s_law) (by decide +kernel)) rfl (fun _ _ _ _ _ => rfl) ?m2 ?l2) pa_nil)))
    (pss_exh fun h => DSs.ps (c := cL K h) (dss_frz 3 (dss_cons (ds_if (dt_ne hr.units (dv 3) (de_lst (da_cons de_str (da_cons de_str da_nil)))) (dss_one (ds_ret de_bl)) dss_nil)
            (dss_cons (ds_if (DW.t (dw_or (dt_ne hr.units (de_ixT (de_call D_fitted hr (by decide) (by rfl) L2.takes0 (da_cons (de_tup (da_cons (de_tup (da_cons (de_tup (da_cons de_int (da_cons de_int da_nil))) da_nil)) da_nil)) (da_cons (de_tup (da_cons (de_tup (da_cons (de_neg de_int) (da_cons de_int da_nil))) da_nil)) da_nil))) de_int) de_str) (dw_or1 (dt_ne hr.units (de_call D_fitted hr (by decide) (by rfl) L2.takes0 (da_cons (de_tup (da_cons (de_tup (da_cons (de_tup (da_cons de_int (da_cons de_int da_nil))) da_nil)) da_nil)) (da_cons (de_tup (da_cons (de_tup (da_cons de_int (da_cons de_int da_nil))) da_nil)) da_nil))) (de_tup (da_cons de_str (da_cons (de_tup (da_cons (de_tup (da_cons de_int (da_cons de_int da_nil))) da_nil)) da_nil))))))) (dss_one (ds_ret de_bl)) dss_nil)
            (dss_cons (ds_for (passes_of rfl) rfl (di_range1 (by rfl) z_range (da_cons de_int da_nil)) (pg_name (i := 4) sc_law.nd rfl (by first | exact .inl rfl | exact .inr rfl)) (tgN (i := 4) (vs := [4])) mgN (dss_cons (ds_asg (de_call D__law_rows hr (by decide) (by rfl) L2.takes0 (da_cons (dv 1) da_nil)) (pg_tup rfl (pgs_cons (pg_name (i := 5) sc_law.nd rfl (by first | exact .inl rfl | exact .inr rfl)) (pgs_cons (pg_name (i := 6) sc_law.nd rfl (by first | exact .inl rfl | exact .inr rfl)) (pgs_cons (pg_name (i := 7) sc_law.nd rfl (by first | exact .inl rfl | exact .inr rfl)) pgs_nil)))) (tgT3 (i := 5) (j := 6) (l := 7) (vs := [5, 6, 7])) mgT3)
              (dss_cons (ds_set (i := 8) sc_law.nd rfl (by first | exact .inl rfl | exact .inr rfl) (de_call D_fitted hr (by decide) (by rfl) L2.takes0 (da_cons (dv 5) (da_cons (dv 6) da_nil))))
              (dss_cons (ds_if (DW.t (dw_or (dt_not (dt_val (de_call D__law_is_fit hr (by decide) (by rfl) L2.takes0 (da_cons (dv 5) (da_cons (dv 6) (da_cons (dv 8) da_nil)))))) (dw_or1 (DW.t (dw_and (dt_val (dv 7)) (dw_and1 (dt_ne hr.units (de_ixT (dv 8) de_int) de_str))))))) (dss_one (ds_ret de_bl)) dss_nil)
              (dss_one (ds_if (dt_not (dt_val (de_callG D__law_exact_right hgd hr (by decide) (by rfl) L2.takes0 (da_cons (dv 1) da_nil)))) (dss_one (ds_ret de_bl)) dss_nil))))))
            (dss_one (ds_ret de_bl))))))))))), ?_⟩
  case hu => intro p hp _; rw [List.mem_singleton.mp hp]; rfl
  case hu2 => intro p hp _; rw [List.mem_singleton.mp hp]; rfl
  case b1 => exact gCall ((["top", "bottom"] : List Str)).length (wp_fraction CN) (gAc (g2 (f2I CT fun i j => .int (i - j)) (gCall ((["hand", "below"] : List Str)).length wp_draw (gAc (gVar 1) (gAc (gC (.int 9)) gAn))) (gC (.int 4))) (gAc (gC (.int 0)) gAn))
  case b2 => exact gCall ((["one", "other"] : List Str)).length (wp_over CN) (gAc (gN fTup (gAc (gC (.int 1)) (gAc (gC (.int 2)) gAn))) (gAc (gN fTup (gAc (gC (.int 0)) (gAc (gC (.int 1)) gAn))) gAn))
  case l1 => exact fun A' o' s' H' E' f' c' h hr' => de_call D_fraction hr' (by decide) (by rfl) (takes_of rfl rfl rfl rfl) (da_cons (de_sub (de_call D__law_draw hr' (by decide) (by rfl) (takes_of rfl rfl rfl rfl) (da_cons (dv 1) (da_cons de_int da_nil))) de_int) (da_cons de_int da_nil))
  case l2 => exact fun A' o' s' H' E' f' c' h hr' => de_call D_over hr' (by decide) (by rfl) (takes_of rfl rfl rfl rfl) (da_cons (de_tup (da_cons de_int (da_cons de_int da_nil))) (da_cons (de_tup (da_cons de_int (da_cons de_int da_nil))) da_nil))
  case m1 => exact mnCall mw_fraction (mnAc (mn2 m2I (mnCall mw_draw (mnAc mnV (mnAc mnC mnAn))) mnC) (mnAc mnC mnAn))
  case m2 => exact mnCall mw_over (mnAc (mnN mfTup (mnAc mnC (mnAc mnC mnAn))) (mnAc (mnN mfTup (mnAc mnC (mnAc mnC mnAn))) mnAn))
  refine ⟨.ref a, rfl, a, ns, rfl, hS, hl, fun H1 ha ca cs s1 fr1 hh => ?_⟩
  have ok1 : Ok (some ⟨ha, ca, cs⟩) nPb (fun _ => none) H1 := ⟨fun b u e => (nomatch e), fun h e => (by cases e; exact ⟨hh, rfl⟩), fun b e => (False.elim e)⟩
  have tb1 : Tabs [(Pt, qLam)] H1 := fun p hp => by
    rw [List.mem_singleton.mp hp]
    exact (TabS.nil hP).ext s1
  have sl1 : Sl K (some ⟨ha, ca, cs⟩) nPb (fun _ => none) H1 ((L2.start N_law [.ref a]).set 1 (some (.ref ha))) [.no, .dat .hand, .no, .no, .no, .no, .no, .no, .no] := by
    refine ⟨rfl, fun i d e => ?_, fun i ds e => ?_, fun i j ds es a e => ?_⟩
    · rcases rho1 e with z | ⟨rfl, z⟩
      · cases z
      · cases z
        exact ⟨_, rfl, .hand rfl⟩
    · rcases rho1 e with z | ⟨rfl, z⟩ <;> cases z
    · rcases rho1 e with z | ⟨rfl, z⟩ <;> cases z
  refine ⟨⟨ha, ca, cs⟩, fun _ => none, _, ok1, sl1, ?_⟩
  refine ⟨6, rfl, rfl, 4, -6, rfl, fun _ => ⟨?_, ?_, ?_⟩, fun z => absurd z (by decide)⟩
  · exact Nat.lt_of_lt_of_le (show (4 : Int).natAbs < 2 ^ 3 by decide) (K1.two_le (by decide))
  · exact Nat.lt_of_lt_of_le (show (-6 : Int).natAbs < 2 ^ 3 by decide) (K1.two_le (by decide))
  refine ⟨z2, z2, rfl, mkr 1 2, mkr 1 3, rfl, smk ⟨by decide, by decide⟩, smk ⟨by decide, by decide⟩, ?_⟩
  refine ⟨z2, 1, rfl, z2, rfl, mkr 1 2, mkr (-1) 3, rfl, smk ⟨by decide, by decide⟩, smk ⟨by decide, by decide⟩, fun _ => ?_, fun z => absurd z (by decide +kernel)⟩
  refine ⟨rfl, 0, 0, rfl, ?_⟩
  refine ⟨z0, rfl, 0, fun _ => 0, rfl, by decide, fun j hj => (Nat.not_lt_zero _ hj).elim, z5, fun F2 H2 σ2 s2 sl2 => ?_⟩
  have tb2 : Tabs [(Pt, qLam)] H2 := fun p hp => s2.ex.tb (fun h e => (ok1.hd h e).1) _ _ (tb1 p hp)
  refine ⟨⟨ha, ca, cs⟩, F2, _, s2.ok, sl2, ?_⟩
  refine ⟨_, rfl, _, 2, 21000, rfl, Eq.subst (motive := fun d => Rep d 2 21000) kn.symm repK, p64, l21, nstr.1, nstr.2, ?_⟩
  refine ⟨2, rfl, z2, z2, 3, rfl, z2, z2, z5, _, 2, 21000, rfl, repK, p64, l21, nstr.1, nstr.2, _, _, rfl, rfl, _, rfl, pickF (same_text kn) fun F3 H3 σ3 s3 sl3 => ?_⟩
  have tb3 : Tabs [(Pt, qLam)] H3 := fun p hp => s3.ex.tb (fun h e => (s2.ok.hd h e).1) _ _ (tb2 p hp)
  refine ⟨⟨ha, ca, cs⟩, F3, _, ⟨s3.ok, sl3, tb3⟩, ?_, fun F4 H4 st4 => ?_⟩
  · exact ⟨_, rfl, rfl, 9, rfl, by decide, by decide, fun d d0 d1 => ⟨_, _, rfl, rfl, True.intro, rfl, _, 0, rfl, fun z => absurd rfl z, fun _ => ⟨rfl, rfl⟩⟩⟩
  refine ⟨z1, fun p np => ?_⟩
  have sl4 := Sl.setNew st4.ok st4.sl np 3 (RpA.one (Rp.str (K := K) (o := some ⟨ha, ca, cs⟩) (F := F4) "fraction"))
  have ok4 := st4.ok.step (Stp.grow st4.ok.sm (Same.upd (o := .lst [.str "fraction"]) np))
  have tb4 : Tabs [(Pt, qLam)] (upd H4 p (.lst [.str "fraction"])) := st4.tb.ext (Same.upd np)
  obtain ⟨p', xs4, hp1, hp2, _⟩ := sl4.own 3 _ rfl
  refine ⟨.ref p', hp1, .inl ⟨rfl, _, SqL.of hp2⟩, ⟨ha, ca, cs⟩, F4, _, ⟨ok4, sl4, tb4⟩, ?_, fun F5 H5 st5 => ?_⟩
  · exact ⟨z2, z2, rfl, mkr 1 2, mkr 0 1, rfl, smk ⟨by decide, by decide⟩, smk ⟨by decide, by decide⟩, fun z => absurd rfl z, fun _ => ⟨rfl, rfl⟩⟩
  obtain ⟨q', xs5, hq1, hq2, hq3, hq4, hq5, hq6⟩ := st5.sl.own 3 _ rfl
  obtain rfl : p' = q' := by
    have := hp1.symm.trans hq1
    simpa using this
  have s6 := stUp (c := cL K ⟨ha, ca, cs⟩) (ys := xs5 ++ [.str "fraction"]) (.refl st5.ok) hq2 hq4 hq5 hq6
  refine ⟨p', xs5, _, rfl, rfl, hq2, by rw [hq3.length]; decide, ?_⟩
  refine ⟨⟨ha, ca, cs⟩, F5, _, s6.ok, st5.sl.upOwn rfl hq1 (hq3.append (.one (.str _))), ?_⟩
  refine ⟨_, rfl, ?_⟩
  refine ⟨_, rfl, z2, ?_⟩
  refine ⟨by decide +kernel, by decide +kernel, _, rfl, pickF (by decide +kernel) ?_⟩
  -- the two fits that are known
  refine ⟨z2, z1, z1, 1, rfl, z2, z1, rfl, 1, 1, fun _ _ => mkr 1 1, fun _ => mkr (-1) 1, rfl, sml1 (a := mkr 1 1) (b := mkr (-1) 1) ⟨24, by decide +kernel, by decide⟩ ⟨-24, by decide +kernel, by decide⟩, fun y hb sy => ?_, fun x hx sx => ?_⟩
  case refine_2 =>
    have h1 := hx.2 0 (by decide)
    have h2 := hx.1 0 (by decide)
    rw [sm1] at h1
    have e1 : mkr 1 1 = 1 := by decide +kernel
    have e2 : mkr (-1) 1 = -1 := by decide +kernel
    simp only [e1, e2] at h1
    exact absurd h2 (by rw [show x 0 = -1 by grind]; decide +kernel)
  refine ⟨_, _, _, rfl, rfl, rfl, by decide +kernel, by decide +kernel, _, rfl, pickF (by decide +kernel) ?_⟩
  refine ⟨z2, z1, z1, z2, z1, rfl, 1, 1, fun _ _ => mkr 2 1, fun _ => mkr 1 1, rfl, sml1 (a := mkr 2 1) (b := mkr 1 1) ⟨48, by decide +kernel, by decide⟩ ⟨24, by decide +kernel, by decide⟩, fun y hb sy => ?_, fun x hx sx => ?_⟩
  case refine_1 =>
    have h1 := hb.2
    have h2 := hb.1 0 (by decide)
    rw [sm1] at h1 h2
    have e1 : mkr 1 1 = 1 := by decide +kernel
    have e2 : mkr 2 1 = 2 := by decide +kernel
    simp only [e1, e2] at h1 h2
    exact absurd h1 (by grind)
  have hx0 : x 0 = mkr 1 2 := by
    have h1 := hx.2 0 (by decide)
    rw [sm1] at h1
    have e1 : mkr 1 1 = 1 := by decide +kernel
    have e2 : mkr 2 1 = 2 := by decide +kernel
    have e3 : mkr 1 2 = 1 / 2 := by decide +kernel
    simp only [e1, e2] at h1
    rw [e3]
    grind
  have hfx : frs 1 x = [.tup [.int 1, .int 2]] := by show [fr (x 0)] = _; rw [hx0]; rfl
  rw [hfx]
  refine ⟨z2, z1, z2, by decide +kernel, by decide +kernel, _, rfl, pickF (by decide +kernel) ?_⟩
  refine ⟨6, rfl, by decide, by decide, fun _ ρ => ∃ x2 x3 u v z y q : DV, ρ = [.no, .dat .hand, x2, x3, u, v, z, y, q], ⟨_, _, _, _, _, _, _, rfl⟩, ?_, ?_⟩
  · rintro i d ρ _ ⟨x2, x3, u, v, z, y, q, rfl⟩
    refine ⟨_, rfl, rfl, rfl, fun m n R g rw' => ?_⟩
    refine rows_both (Q := fun dd => ggT3 5 6 7 dd _ _) (x := .tup (frm m n R)) (y := .tup (frs m g)) fun b hb => ?_
    refine ⟨_, _, _, rfl, _, rfl, _, rfl, rfl, m, n, R, g, rfl, rw'.sml, fun yy hbar sy => ?_, fun xx hx sx => ?_⟩
    · have hbf : b = false := by
        cases b
        · rfl
        · obtain ⟨x0, h0⟩ := hb rfl
          exact (bar_fe hbar h0).elim
      subst hbf
      refine ⟨_, rfl, _, rfl, _, rfl, rfl, m, n, R, g, _, rfl, rw', .inl ⟨yy, hbar, sy, rfl⟩, _, rfl, ?_⟩
      refine ⟨_, rfl, _, rfl, ?_⟩
      exact ⟨_, rfl, rfl, rfl, _, rfl, _, _, _, _, _, _, _, rfl⟩
    · refine ⟨_, rfl, _, rfl, _, rfl, rfl, m, n, R, g, _, rfl, rw', .inr ⟨xx, hx, sx, rfl⟩, _, rfl, ?_⟩
      cases b
      · refine ⟨_, rfl, _, rfl, ?_⟩
        exact ⟨_, rfl, rfl, rfl, _, rfl, _, _, _, _, _, _, _, rfl⟩
      · refine ⟨_, rfl, _, rfl, _, rfl, _, _, _, rfl, rfl, rfl, by decide +kernel, by decide +kernel, _, rfl, pickF (by decide +kernel) ?_⟩
        exact ⟨_, rfl, rfl, rfl, _, rfl, _, _, _, _, _, _, _, rfl⟩
  · rintro ρ ⟨x2, x3, u, v, z, y, q, rfl⟩
    exact fun F' H' v s r => r.inv_bl
end
end E0
set_option Elab.async false
set_option linter.all false
set_option maxRecDepth 100000
set_option maxHeartbeats 4000000
namespace E0
open PySem PySem.Spec PyProof.Rows L2 LamX
/-- the law's call, from what its def does at the caller's place alone, where the law holds lambdas: its code object c has the table at Pt -/
theorem law_tab {P : Program} {w : World} {K : PySem.W.Frag} {mg mb : Str → Option Value} {f a c Pt : Addr} {s : Shared} {vs : List Value} {ns : List Int} (KX : K.In s.heap) (hns : s.heap.Ns mainGlobals mg) (hb : s.heap.Ns builtinsNs mb) (hbb : ∀ x : Str, x ≠ "__name__" → mb x = bootBuiltins x)
    (hlim : s.heap.NoLimit) (hg : s.gens = #[]) (hbm : ∃ (bm : Addr) (ob : Obj), mg "__builtins__" = some (.ref bm) ∧ bm ≠ builtinsNs ∧ s.heap.get? bm = some ob ∧ ob.cls = .type "module" ∧ ob.dict = some builtinsNs ∧ ob.data = .plain)
    (ha : s.heap.get? a = some { cls := .type "list", data := .seq vs.toArray }) (hi : IntsAre vs ns) (hl : ns.length ≤ sizeLine) (C : PySem.W.CodeHd s.heap c Pt) (hT : s.heap.get? Pt = some (PySem.W.tabObj #[])) (nT : K.lookup Pt = none)
    (F : ∀ (base : Heap) (H : Hp), K.In base → TabB base mg c Pt → H Pt = some (.tbl #[]) → SqL K H a (ns.map V.int) → Env0 P w K mg base callerA [] s H → codeAny (model P w) callerA (.call (.ref f) ⟨[.ref a], []⟩) (CR CX0 [] P w H s (fun v _ => v = .bl true) fun _ _ _ => False) s) :
    codeAny (model P w) callerA (.call (.ref f) ⟨[.ref a], []⟩) (fun r s' => r = .ok (.ret (.bool true)) ∧ OldK s.heap s'.heap ∧ s'.os = s.os ∧ AllBare s'.gens) s := by
  have lenV := hi.length
  have aP : a ≠ Pt := fun z => by
    rw [z, hT] at ha
    cases ha
  have go : ∀ H : Hp, H Pt = some (.tbl #[]) → (∀ b, H b = none ∨ b = Pt ∨ (b = a ∧ K.lookup a = none ∧ ∃ o xs, H b = some (.frz o (.lst xs)))) → SqL K H a (ns.map V.int) → HOk P w H s.heap →
      codeAny (model P w) callerA (.call (.ref f) ⟨[.ref a], []⟩) (fun r s' => r = .ok (.ret (.bool true)) ∧ OldK s.heap s'.heap ∧ s'.os = s.os ∧ AllBare s'.gens) s := by
    intro H hP hO hS hok
    -- what is neither the script nor the table stands in the base
    have bs : ∀ {b : Addr} {o : Obj}, s.heap.get? b = some o → o ≠ { cls := .type "list", data := .seq vs.toArray } → o ≠ PySem.W.tabObj #[] → (hidT s.heap H).get? b = some o := fun {b o} e n1 n2 => by
      refine hidT_get e ?_
      rcases hO b with q | rfl | ⟨rfl, _⟩
      · exact q
      · rw [hT] at e
        exact (n2 (Option.some.inj e).symm).elim
      · rw [ha] at e
        exact (n1 (Option.some.inj e).symm).elim
    have nsK : ∀ {b : Addr} {m : Str → Option Value}, s.heap.Ns b m → (hidT s.heap H).Ns b m := by
      rintro b m ⟨o, es, ep, e, d, r⟩
      exact ⟨o, es, ep, bs e (fun z => by rw [z] at d; cases d) (fun z => by rw [z] at d; cases d), d, r⟩
    have hKb : K.In (hidT s.heap H) := fun b o e => by
      refine hidT_get (KX b o e) ?_
      rcases hO b with q | rfl | ⟨rfl, q, _⟩
      · exact q
      · rw [nT] at e
        cases e
      · rw [q] at e
        cases e
    have hTB : TabB (hidT s.heap H) mg c Pt := by
      refine ⟨?_, ?_, fun z => ?_⟩
      · obtain ⟨o, us, r0, r1, r2, r3, r4, r5, r6, e1, r7, r8, r9, rest⟩ := C
        refine ⟨o, us, r0, r1, r2, r3, r4, r5, r6, bs e1 (fun z => ?_) (fun z => ?_), r7, r8, r9, rest⟩
        · rw [z] at r8
          cases r8
        · rw [z] at r8
          cases r8
          simp at r9
      · obtain ⟨bm, ob, b1, b2, b3, b4, b5, b6⟩ := hbm
        have g := bs b3 (fun z => by rw [z] at b6; cases b6) (fun z => by rw [z] at b6; cases b6)
        refine ⟨bm, ob, b1, b2, fun q => ?_, fun q => ?_, g, b4, b5, b6⟩
        · obtain ⟨o, es, ep, e, hd, _⟩ := hns
          rw [← q, b3] at e
          cases e
          rw [hd] at b6
          cases b6
        · rw [q, hT] at b3
          cases b3
          cases b6
      · obtain ⟨o, es, ep, e, hd, _⟩ := hns
        rw [z, hT] at e
        cases e
        cases hd
    have e0 : Env0 P w K mg (hidT s.heap H) callerA [] s H := by
      refine ⟨rfl, ⟨hKb, nsK hns, ⟨mb, nsK hb, hbb⟩, ?_⟩, fun b o e => of_hidT e, Nat.le_of_eq (hidT_size _ _), trivial, fun b hb => ?_, hok, .of_eq hg⟩
      · obtain ⟨mc, h1, h2⟩ := hlim
        exact ⟨mc, nsK h1, h2⟩
      · exact nomatch (show b ∈ ([] : List Addr) from hb)
    refine codeAny_mono (F _ H hKb hTB hP hS e0) fun r s' h => ?_
    match r, h with
    | .error e, h => exact False.elim h
    | .ok .next, h => exact False.elim h
    | .ok .brk, h => exact False.elim h
    | .ok .cont, h => exact False.elim h
    | .ok (.ret u), h =>
      obtain ⟨v, H', os, bare, un, hok', r', rfl⟩ := h
      obtain rfl : u = Value.bool true := r'
      have kept : ∀ b o, b ≠ Pt → s.heap.get? b = some o → s'.heap.get? b = some o := fun b o nb e => by
        rcases hO b with q | q | ⟨_, _, ob, xs, q⟩
        · exact un.keep b o e q (fun z => nomatch (show b ∈ ([] : List Addr) from z)) (by simp)
        · exact (nb q).elim
        · have e2 := (hok' b _ (un.frzs b ob _ q)).1
          have e1 := (hok b _ q).1
          rw [e] at e1
          cases e1
          exact e2
      obtain ⟨more, z⟩ := un.tbls Pt #[] hP
      have grown : s'.heap.get? Pt = some (PySem.W.tabObj more) := by
        have q := hok' Pt _ z
        rw [Array.empty_append] at q
        exact q
      refine ⟨rfl, ⟨fun b o e => ?_, fun b o e => ?_⟩, os, bare⟩
      · by_cases nb : b = Pt
        · subst nb
          rw [hT] at e
          cases e
          exact Or.inr (Or.inl ⟨(C.tab hT).isCodeTable, rfl, #[], more, rfl, by rw [Array.empty_append]; exact grown⟩)
        · exact Or.inl (kept b o nb e)
      · by_cases nb : b = Pt
        · subst nb
          exact ⟨_, grown⟩
        · exact ⟨o, kept b o nb e⟩
  by_cases hk : K.lookup a = none
  · refine go (fun b => if b = Pt then some (.tbl #[]) else if b = a then some (.frz { cls := .type "list", data := .seq vs.toArray } (.lst (ns.map V.int))) else none) (if_pos rfl) (fun b => ?_) (Or.inl (Or.inr ⟨_, (if_neg aP).trans (if_pos rfl)⟩)) fun b u z => ?_
    · by_cases h1 : b = Pt
      · exact Or.inr (Or.inl h1)
      · by_cases h2 : b = a
        · exact Or.inr (Or.inr ⟨h2, hk, _, _, (if_neg h1).trans (if_pos h2)⟩)
        · exact Or.inl ((if_neg h1).trans (if_neg h2))
    · by_cases h1 : b = Pt
      · cases (if_pos h1).symm.trans z
        rw [h1]
        exact hT
      · have z := (if_neg h1).symm.trans z
        by_cases h2 : b = a
        · cases (if_pos h2).symm.trans z
          rw [h2]
          exact ⟨ha, by rw [List.length_map]; exact hl, vs, _, vals_ints hi, ha⟩
        · cases (if_neg h2).symm.trans z
  · obtain ⟨o, hk⟩ := Option.ne_none_iff_exists'.mp hk
    have e := KX a o hk
    rw [ha] at e
    cases e
    refine go (fun b => if b = Pt then some (.tbl #[]) else none) (if_pos rfl) (fun b => ?_) (Or.inr ⟨_, vs.toArray, _, hk, rfl, rfl, rfl, by rw [List.size_toArray, lenV]; exact hl, by simpa using vals_ints hi⟩) fun b u z => ?_
    · by_cases h1 : b = Pt
      · exact Or.inr (Or.inl h1)
      · exact Or.inl (if_neg h1)
    · by_cases h1 : b = Pt
      · cases (if_pos h1).symm.trans z
        rw [h1]
        exact hT
      · cases (if_neg h1).symm.trans z
theorem walk0 {l : PySem.W.OpenLaw} {q : Program} {loose : List Str} {XP : (Str → Option Value) → Heap → Prop} {YP : World → Heap → Prop} {d : DefRec} {K : Params → PySem.W.Frag} (hn : l.most = some 63) (hdf : d.params.defaults = []) (hY : ∀ (w : World) (h : Heap), YP w h → (K w.params).In h) (hq : ((recsOf q).find? fun e => e.name == d.name).isSome = true)
    (F : ∀ (w : World) (mg : Str → Option Value) (fa : Addr) (h : Heap), (K w.params).In h → h.Ns mainGlobals mg → mg d.name = some (.ref fa) → ∃ c Pt : Addr, PySem.W.tabIn (K w.params) d.name = some (c, Pt) ∧ (K w.params).lookup Pt = none ∧
      ∀ (base : Heap) (s : Shared) (H : Hp) (a : Addr) (ns : List Int), TabB base mg c Pt → H Pt = some (.tbl #[]) → Env0 l.prog w (K w.params) mg base callerA [] s H → SqL (K w.params) H a (ns.map V.int) → ns.length ≤ 63 →
      codeAny (model l.prog w) callerA (.call (.ref fa) ⟨[.ref a], []⟩) (CR CX0 [] l.prog w H s (fun v _ => v = .bl true) fun _ _ _ => False) s) : PySem.W.WalkO q loose XP YP l.row.toRowW d [] (fun f vs => PySem.call f vs) := by
  refine Att.attach_call hn hdf fun w s0 s1 mg mb fa o pm cd doc a vs ns G Y ho hd hcd hmg hobj hints hlen hg => ?_
  obtain ⟨c, Pt, t1, t2, F⟩ := F w mg fa _ (hY w _ Y) G.T.g hmg
  obtain ⟨dd, hq⟩ := Option.isSome_iff_exists.mp hq
  obtain ⟨C, hT⟩ := PySem.W.tab_of G.T (hY w _ Y) hq t1
  exact law_tab (hY w _ Y) G.T.g G.T.b G.T.builtins G.T.nolimit hg G.T.bmain hobj hints (Nat.le_of_lt (small1000 (by omega))) C hT t2 fun base H _ TB hP hS e => F base s1 H a ns TB hP e hS hlen
end E0
set_option Elab.async false
set_option linter.all false
set_option maxRecDepth 100000
set_option maxHeartbeats 4000000
namespace K1
open PySem L2
abbrev sLCommon : Stmt := top 25
section
variable {P : Program} {w : World} {K : PySem.W.Frag} {mg : Str → Option Value} {base : Heap}
theorem scLCommon : FnScope ["one", "other"] ["one", "other"] (defScope sLCommon) := ⟨rfl, rfl, rfl, by decide +kernel, rfl, by decide +kernel, by decide +kernel⟩
theorem ok_lcommon {f : Addr} {fd : FuncData} (F : Fun K "_law_common" "_law_common" sLCommon f fd) (zA : mg "abs" = none) (zI : mg "int" = none) : FnOk P w K mg base CX0 1 f fd ["one", "other"] spCommon := by
  refine F.ok scLCommon (fun vs H Q E h => ?_) (fun cdv A outer s H vs Q E hr h => ?_)
  · obtain ⟨a, b, rfl, _⟩ := h
    rfl
  · obtain ⟨a, b, rfl, k⟩ := h
    refine ⟨_, pss_cons (ps_par (i := 0) (j := 1) rfl scLCommon.nd rfl rfl (by decide) rfl rfl
        (pa_cons (pe_callB call_abs (by rfl) zA PyProof.Rows.boot_abs (pa_cons (pv 0) pa_nil)) (pa_cons (pe_callB call_abs (by rfl) zA PyProof.Rows.boot_abs (pa_cons (pv 1) pa_nil)) pa_nil)) rfl)
      (pss_cons (ps_while PassesOwn.never (pt_cmpR op_gt (pv 1) pe_int (nomark _))
        (pss_one (ps_par (i := 0) (j := 1) rfl scLCommon.nd rfl rfl (by decide) rfl rfl
          (pa_cons (pv 1) (pa_cons (pe_op op_mod (pe_callTy call_int1 (by rfl) zI PyProof.Rows.boot_int (pa_cons (pv 0) pa_nil)) (pv 1)) pa_nil)) rfl)))
      (pss_one (ps_ret (pv 0)))), ?_⟩
    refine ⟨_, rfl, a, rfl, _, rfl, b, rfl, _, _, rfl, ?_⟩
    refine ⟨fun m σ H1 => ∃ x y : Int, 0 ≤ x ∧ 0 ≤ y ∧ m = y.toNat ∧ H1 = H ∧ σ = [some (.int x), some (.int y)] ∧ Int.gcd x y = Int.gcd a b,
      ⟨_, _, _, ?_, ?_, rfl, rfl, rfl, ?_⟩, ?_⟩
    · split <;> omega
    · split <;> omega
    · split <;> split <;> simp [Int.gcd]
    · rintro m σ H1 ⟨x, y, hx, hy, rfl, rfl, rfl, hg⟩
      refine ⟨_, rfl, _, _, rfl, rfl, _, rfl, ite2 (fun hc => ?_) fun hc => ?_⟩
      · have hy' : 0 < y := of_decide_eq_true hc
        refine ⟨fun σ' H' => ∃ m', m' < y.toNat ∧ ∃ x y : Int, 0 ≤ x ∧ 0 ≤ y ∧ m' = y.toNat ∧ H' = H1 ∧ σ' = [some (.int x), some (.int y)] ∧ Int.gcd x y = Int.gcd a b, fun _ _ q => q, ?_⟩
        refine ⟨_, rfl, _, rfl, .inl ⟨x, rfl, _, rfl, _, _, rfl, rfl, hy', _, _, rfl, _, ?_, _, _, hy, Int.emod_nonneg _ (by omega), rfl, rfl, rfl, ?_⟩⟩
        · have h1 := Int.emod_nonneg x (b := y) (by omega)
          have h2 := Int.emod_lt_of_pos x hy'
          omega
        · rw [gcd_step hx hy', hg]
      · have hy' : ¬ 0 < y := fun z => hc (decide_eq_true z)
        have ey : y = 0 := by omega
        subst ey
        refine ⟨_, rfl, ?_⟩
        have : x = ((Int.gcd a b : Nat) : Int) := by
          rw [← hg, Int.gcd_zero_right]
          omega
        rw [← this] at k
        exact k
end
end K1
set_option Elab.async false
set_option linter.all false
set_option maxRecDepth 100000
set_option maxHeartbeats 8000000
namespace K1
open PySem L2 Kz Sx
/-- a def of the top, as written -/
def TopF (K : PySem.W.Frag) (x : Str) (st : Stmt) : Prop := ∃ f fd, PySem.W.nsIn K mainGlobals x = some (some (.ref f)) ∧ Fun K x x st f fd
theorem topf {K : PySem.W.Frag} {x : Str} {st : Stmt} {f : Addr} {od an : Option Addr} {sl : Array (Option Value)} {oc kV dc pm cd ct : Value} (a : PySem.W.nsIn K mainGlobals x = some (some (.ref f)))
    (l : K.lookup f = some ⟨oc, od, .func (PySem.W.fnOf x x (defArgs st) (defBody st) (defScope st) .none kV dc pm an cd ct), sl⟩) (c : PySem.W.codeIn K cd x = true) (k : PySem.W.keepIn K (.ref f) = true) : TopF K x st := ⟨f, _, a, fun_mk l c k⟩
/-- a method of a class, as written -/
def MetF (K : PySem.W.Frag) (C : Addr) (m q : Str) (st : Stmt) : Prop := ∃ f fd, Meth K C m f ∧ Fun K m q st f fd
theorem metf {K : PySem.W.Frag} {C : Addr} {m q : Str} {st : Stmt} {f : Addr} {od an : Option Addr} {sl : Array (Option Value)} {oc kV dc pm cd ct : Value} (a : PySem.W.findIn K (.ref C) m = some (some (.ref f))) (i : PySem.W.isFn K (.ref f) = true)
    (l : K.lookup f = some ⟨oc, od, .func (PySem.W.fnOf m q (defArgs st) (defBody st) (defScope st) .none kV dc pm an cd ct), sl⟩) (c : PySem.W.codeIn K cd q = true) (k : PySem.W.keepIn K (.ref f) = true) : MetF K C m q st := ⟨f, _, ⟨a, i, k⟩, fun_mk l c k⟩
/-- an error's __init__, as written -/
def IniF (P : Program) (K : PySem.W.Frag) (q : Str) (st : Stmt) (D f : Addr) : Prop := ∃ (oc : Value) (od : Option Addr) (kV doc pm : Value) (an : Option Addr) (cda : Addr) (ct : Value) (osl : Array (Option Value)) (cc : Addr), K.lookup f = some ⟨oc, od, .func (PySem.W.ksFn "__init__" q (defArgs st) (defBody st) (defScope st) .none kV doc pm an (.ref cda) ct cc), osl⟩ ∧ PySem.W.codeIn K (.ref cda) q = true ∧
  (∃ (ccl : Value) (cdd : Option Addr) (vs : Array Value) (ccs : Array (Option Value)) (file : Str) (tf : Tok), K.lookup cda = some ⟨ccl, cdd, .fields vs, ccs⟩ ∧ vs[2]? = some (.str file tf) ∧ ((P.main.file : Str) == file) = true) ∧ ∃ (cl : Value) (cld : Option Addr) (csl : Array (Option Value)), K.lookup cc = some ⟨cl, cld, .cell (some (.ref D)), csl⟩
theorem inif {P : Program} {K : PySem.W.Frag} {q : Str} {st : Stmt} {D f cda cc : Addr} {oc kV doc pm ct ccl cl : Value} {od an cdd cld : Option Addr} {osl ccs csl : Array (Option Value)} {vs : Array Value} {file : Str} {tf : Tok}
    (l : K.lookup f = some ⟨oc, od, .func (PySem.W.ksFn "__init__" q (defArgs st) (defBody st) (defScope st) .none kV doc pm an (.ref cda) ct cc), osl⟩) (c : PySem.W.codeIn K (.ref cda) q = true) (kc : K.lookup cda = some ⟨ccl, cdd, .fields vs, ccs⟩) (h2 : vs[2]? = some (.str file tf)) (hf : ((P.main.file : Str) == file) = true)
    (k : K.lookup cc = some ⟨cl, cld, .cell (some (.ref D)), csl⟩) : IniF P K q st D f := ⟨_, _, _, _, _, _, _, _, _, _, l, c, ⟨_, _, _, _, _, _, kc, h2, hf⟩, _, _, _, k⟩
theorem IniF.mk {P : Program} {K : PySem.W.Frag} {mg : Str → Option Value} {q : Str} {st : Stmt} {D f : Addr} (h : IniF P K q st D f) (dk : ∃ cd, PySem.W.clsIn K D = some cd) (ms : mg "super" = none) (tp : (P.main.scope.names.lookup ("super" : Str)).isSome = false) : ∃ fd, InitF P K mg q st f D fd := by
  obtain ⟨oc, od, kV, doc, pm, an, cda, ct, osl, cc, l, c, x, y⟩ := h
  exact ⟨_, ⟨oc, od, kV, doc, pm, an, cda, ct, osl, cc, rfl, l, c, x, y⟩, dk, ms, tp⟩
/-- a pair of the top that stands for a fraction -/
def PairF (K : PySem.W.Frag) (x : Str) (a : Addr) (q : Rat) : Prop := PySem.W.nsIn K mainGlobals x = some (some (.ref a)) ∧ ∀ H, Fr K H (.ref a) q
theorem pairf {K : PySem.W.Frag} {x : Str} {a : Addr} {i : Int} {o : Obj} {t1 t2 : Tok} {n : Nat} (h : PySem.W.nsIn K mainGlobals x = some (some (.ref a))) (l : K.lookup a = some o) (hc : o.cls = .type "tuple") (hd : o.data = .seq #[.int i t1, .int 1 t2] n) : PairF K x a (i : Rat) := by
  refine ⟨h, fun H => ⟨a, rfl, ?_⟩⟩
  exact Or.inr ⟨o, #[.int i t1, .int 1 t2], n, l, hc, hd, by show 2 ≤ sizeLine; decide, .cons ⟨_, rfl⟩ (.cons ⟨_, rfl⟩ .nil)⟩
theorem tx_mk {K : PySem.W.Frag} {C : Addr} (pg : PySem.W.plainGet K C Str.empty = true) (hd : PySem.W.hasDictIn K C = true) (po : PySem.W.plainOver K C = true) (sa : PySem.W.findIn K (.ref C) "__setattr__" = some (some (.builtin "object.__setattr__")))
    (nH : PySem.W.findIn K (.ref C) "high" = some none) (nM : PySem.W.findIn K (.ref C) "many" = some none) (nR : PySem.W.findIn K (.ref C) "rows" = some none) (nB : PySem.W.findIn K (.ref C) "base" = some none) : Tx K C := ⟨⟨pg, hd, po, sa⟩, nH, nM, nR, nB⟩
theorem oex_mk {K : PySem.W.Frag} {C N : Addr} {nm q : Str} {bs bm sub : List Value} {sn : List Str} {ab : Bool} {col : Option Bool} {dd : Option Addr} {k0 k1 k2 k3 k5 : Option Value} (xL : K.lookup C = some (excClassObj nm q C N bs bm true sn sub ab col dd k0 k1 k2 k3 k5 "ValueError.__new__")) (rb : PySem.HandSPX.refsVE bm = true)
    (sa : PySem.W.findIn K (.ref C) "__setattr__" = some (some (.builtin "object.__setattr__"))) (eC : PySem.W.subIn K (.ref C) (.type "BaseException") = some true) (tC : PySem.W.typeIn K (.ref C) = some (.type "type")) (kC : PySem.W.keepIn K (.ref C) = true) : OexC K C :=
  ⟨⟨nm, q, N, bs, bm, sn, sub, ab, col, dd, k0, k1, k2, k3, k5, xL, rb⟩, sa, eC, tC, kC⟩
theorem some_cls {K : PySem.W.Frag} {C : Addr} (h : PySem.W.isClsIn K C = true) : ∃ cd, PySem.W.clsIn K C = some cd := Option.isSome_iff_exists.mp h
theorem pair_mk {K : PySem.W.Frag} {x : Str} {a : Addr} {i : Int} {od : Option Addr} {sl : Array (Option Value)} {t1 t2 : Tok} {n : Nat} (h : PySem.W.nsIn K mainGlobals x = some (some (.ref a))) (l : K.lookup a = some ⟨.type "tuple", od, .seq #[.int i t1, .int 1 t2] n, sl⟩) : PairF K x a (i : Rat) := pairf h l rfl rfl
end K1
namespace E0
open PySem PySem.Spec L2 Dl Dh Dg LamX
theorem isc_mk {K : PySem.W.Frag} {D : Addr} (cl : PySem.W.isClsIn K D = true) (ga : PySem.W.findIn K (.ref D) "__getattribute__" = some (some (.builtin "BaseException.__getattribute__"))) (gt : PySem.W.findIn K (.ref D) "__getattr__" = some none) (sb : PySem.W.subIn K (.ref D) (.type "BaseException") = some true)
    (ca : PySem.W.findIn K (.ref D) "__class__" = some (some (.builtin "object.__class__"))) (sp : PySem.W.specialIn K (.builtin "object.__class__") "__get__" = some (some (.builtin "getset_descriptor.__get__"))) (tk : PySem.W.takesIn K (.builtin "object.__class__") = some true) (ob : PySem.W.mroIn K D (.type "object") = some true) : IsC K D := ⟨cl, ga, gt, sb, ca, sp, tk, ob⟩
theorem tab_mk {K : PySem.W.Frag} {x : Str} {f c Pt : Addr} {od dd : Option Addr} {oc e : Value} {sl sl2 : Array (Option Value)} {fd : FuncData} {vs : Array Value} (n : PySem.W.nsIn K mainGlobals x = some (some (.ref f))) (l : K.lookup f = some ⟨oc, od, .func fd, sl⟩) (hc : fd.code = .ref c) (k : K.lookup c = some ⟨e, dd, .fields vs, sl2⟩) (v : vs[11]? = some (.ref Pt)) : PySem.W.tabIn K x = some (c, Pt) := by
  unfold PySem.W.tabIn
  rw [n]
  dsimp only
  rw [l]
  dsimp only
  rw [hc]
  dsimp only
  rw [k]
  dsimp only
  rw [v]
/-- the law's def, as written, and its table of code -/
structure LawF (K : PySem.W.Frag) (f c Pt : Addr) : Prop where
  ns : PySem.W.nsIn K mainGlobals "law" = some (some (.ref f))
  fn : ∃ (oc dV kV doc pm ct : Value) (od an : Option Addr) (osl : Array (Option Value)), K.lookup f = some ⟨oc, od, .func (PySem.W.fnOf "law" "law" (defArgs s_law) (defBody s_law) (defScope s_law) .none kV doc pm an (.ref c) ct), osl⟩
  cd : PySem.W.codeIn K (.ref c) "law" = true
  tb : PySem.W.tabIn K "law" = some (c, Pt)
  no : K.lookup Pt = none
theorem lawf {K : PySem.W.Frag} {f c Pt : Addr} {oc kV doc pm ct e : Value} {od an dd : Option Addr} {osl sl2 : Array (Option Value)} {vs : Array Value} (n : PySem.W.nsIn K mainGlobals "law" = some (some (.ref f))) (l : K.lookup f = some ⟨oc, od, .func (PySem.W.fnOf "law" "law" (defArgs s_law) (defBody s_law) (defScope s_law) .none kV doc pm an (.ref c) ct), osl⟩)
    (cd : PySem.W.codeIn K (.ref c) "law" = true) (k : K.lookup c = some ⟨e, dd, .fields vs, sl2⟩) (v : vs[11]? = some (.ref Pt)) (no : K.lookup Pt = none) : LawF K f c Pt := ⟨n, ⟨_, .none, _, _, _, _, _, _, _, l⟩, cd, tab_mk n l rfl k v, no⟩
theorem tolc_mk {K : PySem.W.Frag} {C f : Addr} {m fld : Str} (ga : PySem.W.findIn K (.ref C) "__getattribute__" = some (some (.builtin "BaseException.__getattribute__"))) (x : XfC K C) (mt : PySem.W.findIn K (.ref C) m = some (some (.ref f))) (ty : PySem.W.typeIn K (.ref f) = some (.type "function")) (nf : PySem.W.findIn K (.ref C) fld = some none) : Dt.TolC K C f m fld := ⟨x, mt, ty, nf⟩
theorem all_runs {P : Program} {w : World} {K : PySem.W.Frag} {h base : Heap} {mg : Str → Option Value} {fa fl c Pt C CV CN fV fN fT z o a : Addr} {fdT : FuncData} {ns : List Int} {s : Shared} {H : Hp} (X : K.In h) (G : h.Ns mainGlobals mg) (hfa : mg "law" = some (.ref fa))
    (F_common_divisor : K1.TopF K "common_divisor" K1.sCommon)
    (F_fraction : K1.TopF K "fraction" K1.sFraction)
    (F_is_fraction : K1.TopF K "is_fraction" s_is_fraction)
    (F_is_integer : K1.TopF K "is_integer" s_is_integer)
    (F_plus : K1.TopF K "plus" K1.sPlus)
    (F_minus : K1.TopF K "minus" K1.sMinus)
    (F_times : K1.TopF K "times" K1.sTimes)
    (F_over : K1.TopF K "over" K1.sOver)
    (F_less : K1.TopF K "less" K1.sLess)
    (F_total : K1.TopF K "total" K1.sTotal)
    (F_scalar : K1.TopF K "scalar" K1.sScalar)
    (F_signs_of : K1.TopF K "signs_of" K1.sSigns)
    (F_led_up : K1.TopF K "led_up" K1.sLed)
    (F_fitted : K1.TopF K "fitted" K1.sFitted)
    (F__law_hand : K1.TopF K "_law_hand" Eh.sLHand)
    (F__law_draw : K1.TopF K "_law_draw" Eh.sLDraw)
    (F__law_common : K1.TopF K "_law_common" K1.sLCommon)
    (F__law_low : K1.TopF K "_law_low" s__law_low)
    (F__law_plus : K1.TopF K "_law_plus" s__law_plus)
    (F__law_times : K1.TopF K "_law_times" s__law_times)
    (F__law_fraction : K1.TopF K "_law_fraction" s__law_fraction)
    (F__law_scalar : K1.TopF K "_law_scalar" s__law_scalar)
    (F__law_is_fraction : K1.TopF K "_law_is_fraction" s__law_is_fraction)
    (F__law_exact_right : K1.TopF K "_law_exact_right" s__law_exact_right)
    (F__law_rows : K1.TopF K "_law_rows" s__law_rows)
    (F__law_is_fit : K1.TopF K "_law_is_fit" s__law_is_fit)
    (F__law_said : K1.TopF K "_law_said" sSaid)
    (M_left : K1.MetF K C "left" "Turns.left" K1.sLeft)
    (M_improve : K1.MetF K C "improve" "Turns.improve" K1.sImprove)
    (M_turn : K1.MetF K C "turn" "Turns.turn" K1.sTurn)
    (M_amounts : K1.MetF K C "amounts" "Turns.amounts" K1.sAmounts)
    (M_factors : K1.MetF K C "factors" "Turns.factors" K1.sFactors)
    (M_init : K1.MetF K C "__init__" "Turns.__init__" K1.sTInit)
    (LW : LawF K fl c Pt)
    (aC : PySem.W.nsIn K mainGlobals "Turns" = some (some (.ref C))) (aV : PySem.W.nsIn K mainGlobals "VerdictError" = some (some (.ref CV))) (aN : PySem.W.nsIn K mainGlobals "NoFraction" = some (some (.ref CN)))
    (T : K1.Tx K C) (mkC : PySem.W.makesIn K C = true) (kpC : PySem.W.keepIn K (.ref C) = true)
    (IV : K1.IniF P K "VerdictError.__init__" K1.sVInit CV fV) (IN : K1.IniF P K "NoFraction.__init__" K1.sNInit CN fN) (dV : ∃ cd, PySem.W.clsIn K CV = some cd) (dN : ∃ cd, PySem.W.clsIn K CN = some cd) (tp : (P.main.scope.names.lookup ("super" : Str)).isSome = false)
    (EF : K1.ErrF P K CV CN fV fN) (IC : IsC K CN) (TC : Dt.TolC K CN fT "told" "word") (FT : Fun K "told" "VerdictError.told" sTold fT fdT) (xm : PySem.W.exmOne K (.ref CN) (.ref CV) = some true) (kN : PySem.W.kitOne K (.ref CN) (.ref CN) = some true) (kV : PySem.W.kitOne K (.ref CN) (.type "ValueError") = some true)
    (pz : K1.PairF K "ZERO" z ((0 : Int) : Rat)) (po : K1.PairF K "ONE" o ((1 : Int) : Rat))
    (z_abs : PySem.W.nsIn K mainGlobals "abs" = some none)
    (z_int : PySem.W.nsIn K mainGlobals "int" = some none)
    (z_bool : PySem.W.nsIn K mainGlobals "bool" = some none)
    (z_len : PySem.W.nsIn K mainGlobals "len" = some none)
    (z_list : PySem.W.nsIn K mainGlobals "list" = some none)
    (z_tuple : PySem.W.nsIn K mainGlobals "tuple" = some none)
    (z_zip : PySem.W.nsIn K mainGlobals "zip" = some none)
    (z_range : PySem.W.nsIn K mainGlobals "range" = some none)
    (z_enumerate : PySem.W.nsIn K mainGlobals "enumerate" = some none)
    (z_all : PySem.W.nsIn K mainGlobals "all" = some none)
    (z_any : PySem.W.nsIn K mainGlobals "any" = some none)
    (z_isinstance : PySem.W.nsIn K mainGlobals "isinstance" = some none)
    (z_ValueError : PySem.W.nsIn K mainGlobals "ValueError" = some none)
    (z_super : PySem.W.nsIn K mainGlobals "super" = some none)
    (z_repr : PySem.W.nsIn K mainGlobals "repr" = some none)
    (TB : TabB base mg c Pt) (hP : H Pt = some (.tbl #[])) (e : Env0 P w K mg base callerA [] s H) (hS : SqL K H a (ns.map V.int)) (hl : ns.length ≤ 63) : codeAny (model P w) callerA (.call (.ref fa) ⟨[.ref a], []⟩) (CR CX0 [] P w H s (fun v _ => v = .bl true) fun _ _ _ => False) s := by
  have E := fun {x : Str} {v : Value} (q : PySem.W.nsIn K mainGlobals x = some (some v)) => PySem.W.mg_of X G q
  have Z := fun {x : Str} (q : PySem.W.nsIn K mainGlobals x = some none) => PySem.W.mg_none_of X G q
  obtain ⟨f_common_divisor, d_common_divisor, n_common_divisor, F_common_divisor⟩ := F_common_divisor
  have b_common_divisor := F_common_divisor.binds (ps := ["one", "other"]) fun _ _ _ _ _ _ us hl => match us, hl with | [_, _], _ => rfl
  obtain ⟨f_fraction, d_fraction, n_fraction, F_fraction⟩ := F_fraction
  have b_fraction := F_fraction.binds (ps := ["top", "bottom"]) fun _ _ _ _ _ _ us hl => match us, hl with | [_, _], _ => rfl
  obtain ⟨f_is_fraction, d_is_fraction, n_is_fraction, F_is_fraction⟩ := F_is_fraction
  have b_is_fraction := F_is_fraction.binds (ps := ["thing"]) fun _ _ _ _ _ _ us hl => match us, hl with | [_], _ => rfl
  obtain ⟨f_is_integer, d_is_integer, n_is_integer, F_is_integer⟩ := F_is_integer
  have b_is_integer := F_is_integer.binds (ps := ["thing"]) fun _ _ _ _ _ _ us hl => match us, hl with | [_], _ => rfl
  obtain ⟨f_plus, d_plus, n_plus, F_plus⟩ := F_plus
  have b_plus := F_plus.binds (ps := ["one", "other"]) fun _ _ _ _ _ _ us hl => match us, hl with | [_, _], _ => rfl
  obtain ⟨f_minus, d_minus, n_minus, F_minus⟩ := F_minus
  have b_minus := F_minus.binds (ps := ["one", "other"]) fun _ _ _ _ _ _ us hl => match us, hl with | [_, _], _ => rfl
  obtain ⟨f_times, d_times, n_times, F_times⟩ := F_times
  have b_times := F_times.binds (ps := ["one", "other"]) fun _ _ _ _ _ _ us hl => match us, hl with | [_, _], _ => rfl
  obtain ⟨f_over, d_over, n_over, F_over⟩ := F_over
  have b_over := F_over.binds (ps := ["one", "other"]) fun _ _ _ _ _ _ us hl => match us, hl with | [_, _], _ => rfl
  obtain ⟨f_less, d_less, n_less, F_less⟩ := F_less
  have b_less := F_less.binds (ps := ["one", "other"]) fun _ _ _ _ _ _ us hl => match us, hl with | [_, _], _ => rfl
  obtain ⟨f_total, d_total, n_total, F_total⟩ := F_total
  have b_total := F_total.binds (ps := ["some"]) fun _ _ _ _ _ _ us hl => match us, hl with | [_], _ => rfl
  obtain ⟨f_scalar, d_scalar, n_scalar, F_scalar⟩ := F_scalar
  have b_scalar := F_scalar.binds (ps := ["one", "other"]) fun _ _ _ _ _ _ us hl => match us, hl with | [_, _], _ => rfl
  obtain ⟨f_signs_of, d_signs_of, n_signs_of, F_signs_of⟩ := F_signs_of
  have b_signs_of := F_signs_of.binds (ps := ["numbers"]) fun _ _ _ _ _ _ us hl => match us, hl with | [_], _ => rfl
  obtain ⟨f_led_up, d_led_up, n_led_up, F_led_up⟩ := F_led_up
  have b_led_up := F_led_up.binds (ps := ["rows", "numbers"]) fun _ _ _ _ _ _ us hl => match us, hl with | [_, _], _ => rfl
  obtain ⟨f_fitted, d_fitted, n_fitted, F_fitted⟩ := F_fitted
  have b_fitted := F_fitted.binds (ps := ["rows", "numbers"]) fun _ _ _ _ _ _ us hl => match us, hl with | [_, _], _ => rfl
  obtain ⟨f__law_hand, d__law_hand, n__law_hand, F__law_hand⟩ := F__law_hand
  have b__law_hand := F__law_hand.binds (ps := ["script"]) fun _ _ _ _ _ _ us hl => match us, hl with | [_], _ => rfl
  obtain ⟨f__law_draw, d__law_draw, n__law_draw, F__law_draw⟩ := F__law_draw
  have b__law_draw := F__law_draw.binds (ps := ["hand", "below"]) fun _ _ _ _ _ _ us hl => match us, hl with | [_, _], _ => rfl
  obtain ⟨f__law_common, d__law_common, n__law_common, F__law_common⟩ := F__law_common
  have b__law_common := F__law_common.binds (ps := ["one", "other"]) fun _ _ _ _ _ _ us hl => match us, hl with | [_, _], _ => rfl
  obtain ⟨f__law_low, d__law_low, n__law_low, F__law_low⟩ := F__law_low
  have b__law_low := F__law_low.binds (ps := ["top", "bottom"]) fun _ _ _ _ _ _ us hl => match us, hl with | [_, _], _ => rfl
  obtain ⟨f__law_plus, d__law_plus, n__law_plus, F__law_plus⟩ := F__law_plus
  have b__law_plus := F__law_plus.binds (ps := ["one", "other"]) fun _ _ _ _ _ _ us hl => match us, hl with | [_, _], _ => rfl
  obtain ⟨f__law_times, d__law_times, n__law_times, F__law_times⟩ := F__law_times
  have b__law_times := F__law_times.binds (ps := ["one", "other"]) fun _ _ _ _ _ _ us hl => match us, hl with | [_, _], _ => rfl
  obtain ⟨f__law_fraction, d__law_fraction, n__law_fraction, F__law_fraction⟩ := F__law_fraction
  have b__law_fraction := F__law_fraction.binds (ps := ["hand"]) fun _ _ _ _ _ _ us hl => match us, hl with | [_], _ => rfl
  obtain ⟨f__law_scalar, d__law_scalar, n__law_scalar, F__law_scalar⟩ := F__law_scalar
  have b__law_scalar := F__law_scalar.binds (ps := ["one", "other"]) fun _ _ _ _ _ _ us hl => match us, hl with | [_, _], _ => rfl
  obtain ⟨f__law_is_fraction, d__law_is_fraction, n__law_is_fraction, F__law_is_fraction⟩ := F__law_is_fraction
  have b__law_is_fraction := F__law_is_fraction.binds (ps := ["thing"]) fun _ _ _ _ _ _ us hl => match us, hl with | [_], _ => rfl
  obtain ⟨f__law_exact_right, d__law_exact_right, n__law_exact_right, F__law_exact_right⟩ := F__law_exact_right
  have b__law_exact_right := F__law_exact_right.binds (ps := ["hand"]) fun _ _ _ _ _ _ us hl => match us, hl with | [_], _ => rfl
  obtain ⟨f__law_rows, d__law_rows, n__law_rows, F__law_rows⟩ := F__law_rows
  have b__law_rows := F__law_rows.binds (ps := ["hand"]) fun _ _ _ _ _ _ us hl => match us, hl with | [_], _ => rfl
  obtain ⟨f__law_is_fit, d__law_is_fit, n__law_is_fit, F__law_is_fit⟩ := F__law_is_fit
  have b__law_is_fit := F__law_is_fit.binds (ps := ["rows", "numbers", "told"]) fun _ _ _ _ _ _ us hl => match us, hl with | [_, _, _], _ => rfl
  obtain ⟨f__law_said, d__law_said, n__law_said, F__law_said⟩ := F__law_said
  have b__law_said := F__law_said.binds (ps := ["call"]) fun _ _ _ _ _ _ us hl => match us, hl with | [_], _ => rfl
  have e0 := hfa.symm.trans (E LW.ns)
  cases e0
  obtain ⟨g_left, r_left, m_left, M_left⟩ := M_left
  have c_left := M_left.binds (ps := ["self", "costs"]) fun _ _ _ _ _ _ us hl => match us, hl with | [_, _], _ => rfl
  obtain ⟨g_improve, r_improve, m_improve, M_improve⟩ := M_improve
  have c_improve := M_improve.binds (ps := ["self", "costs", "most"]) fun _ _ _ _ _ _ us hl => match us, hl with | [_, _, _], _ => rfl
  obtain ⟨g_turn, r_turn, m_turn, M_turn⟩ := M_turn
  have c_turn := M_turn.binds (ps := ["self", "at", "column"]) fun _ _ _ _ _ _ us hl => match us, hl with | [_, _, _], _ => rfl
  obtain ⟨g_amounts, r_amounts, m_amounts, M_amounts⟩ := M_amounts
  have c_amounts := M_amounts.binds (ps := ["self"]) fun _ _ _ _ _ _ us hl => match us, hl with | [_], _ => rfl
  obtain ⟨g_factors, r_factors, m_factors, M_factors⟩ := M_factors
  have c_factors := M_factors.binds (ps := ["self", "costs"]) fun _ _ _ _ _ _ us hl => match us, hl with | [_, _], _ => rfl
  obtain ⟨g_init, r_init, m_init, M_init⟩ := M_init
  have c_init := M_init.binds (ps := ["self", "rows", "numbers"]) fun _ _ _ _ _ _ us hl => match us, hl with | [_, _, _], _ => rfl
  obtain ⟨d_V, IV⟩ := IV.mk dV (Z z_super) tp (mg := mg)
  obtain ⟨d_N, IN⟩ := IN.mk dN (Z z_super) tp (mg := mg)
  have fz : ∀ H, K1.Fr K H (.ref z) 0 := pz.2
  have fo : ∀ H, K1.Fr K H (.ref o) 1 := po.2
  have mz := E pz.1
  have mo := E po.1
  have k_common_divisor : K1.Df P w K mg base CX0 1 "common_divisor" ["one", "other"] K1.spCommon := ⟨f_common_divisor, d_common_divisor, K1.ok_common F_common_divisor (Z z_abs) (Z z_int), E n_common_divisor, F_common_divisor.kp, b_common_divisor⟩
  have k_fraction : K1.Df P w K mg base CX0 2 "fraction" ["top", "bottom"] (K1.spFraction K) := ⟨f_fraction, d_fraction, K1.ok_fraction F_fraction k_common_divisor, E n_fraction, F_fraction.kp, b_fraction⟩
  have k_plus : K1.Df P w K mg base CX0 3 "plus" ["one", "other"] (K1.spBin K (fun _ _ => True) fun p q => p + q) := ⟨f_plus, d_plus, K1.ok_plus F_plus k_fraction, E n_plus, F_plus.kp, b_plus⟩
  have k_minus : K1.Df P w K mg base CX0 3 "minus" ["one", "other"] (K1.spBin K (fun _ _ => True) fun p q => p - q) := ⟨f_minus, d_minus, K1.ok_minus F_minus k_fraction, E n_minus, F_minus.kp, b_minus⟩
  have k_times : K1.Df P w K mg base CX0 3 "times" ["one", "other"] (K1.spBin K (fun _ _ => True) fun p q => p * q) := ⟨f_times, d_times, K1.ok_times F_times k_fraction, E n_times, F_times.kp, b_times⟩
  have k_over : K1.Df P w K mg base CX0 3 "over" ["one", "other"] (K1.spBin K (fun _ q => q ≠ 0) fun p q => p / q) := ⟨f_over, d_over, K1.ok_over F_over k_fraction, E n_over, F_over.kp, b_over⟩
  have k_less : K1.Df P w K mg base CX0 1 "less" ["one", "other"] (K1.spLess K) := ⟨f_less, d_less, K1.ok_less F_less, E n_less, F_less.kp, b_less⟩
  have k_total : K1.Df P w K mg base CX0 4 "total" ["some"] (K1.spTotal K) := ⟨f_total, d_total, K1.ok_total F_total k_plus mz fz, E n_total, F_total.kp, b_total⟩
  have k_scalar : K1.Df P w K mg base CX0 5 "scalar" ["one", "other"] (K1.spScalar K) := ⟨f_scalar, d_scalar, K1.ok_scalar F_scalar k_times k_total (Z z_zip), E n_scalar, F_scalar.kp, b_scalar⟩
  have k_left : K1.Dm P w K mg base C 4 "left" ["self", "costs"] (K1.spLeft K C) := ⟨g_left, r_left, K1.ok_left M_left T k_minus k_times mz fz (Z z_list) (Z z_enumerate) (Z z_zip), m_left, c_left⟩
  have k_turn : K1.Dm P w K mg base C 4 "turn" ["self", "at", "column"] (K1.spTurn K C) := ⟨g_turn, r_turn, K1.ok_turn M_turn T k_minus k_times k_over (Z z_enumerate) (Z z_zip), m_turn, c_turn⟩
  have k_improve : K1.Dm P w K mg base C 5 "improve" ["self", "costs", "most"] (K1.spImprove K C) := ⟨g_improve, r_improve, K1.ok_improve M_improve T k_left k_turn k_over k_less (Z z_range), m_improve, c_improve⟩
  have k_amounts : K1.Dm P w K mg base C 1 "amounts" ["self"] (K1.spAmounts K C) := ⟨g_amounts, r_amounts, K1.ok_amounts M_amounts T mz fz (Z z_enumerate) (Z z_tuple), m_amounts, c_amounts⟩
  have k_factors : K1.Dm P w K mg base C 5 "factors" ["self", "costs"] (K1.spFactors K C) := ⟨g_factors, r_factors, K1.ok_factors M_factors T k_left k_minus (Z z_range) (Z z_tuple), m_factors, c_factors⟩
  have k_Turns : K1.Dk P w K mg base C 1 "Turns" ["self", "rows", "numbers"] (K1.spTInit K C) := ⟨g_init, r_init, K1.ok_tinit M_init T mz fz mo fo (Z z_len) (Z z_enumerate) (Z z_list) (Z z_range), ⟨mkC, m_init.at_, m_init.fn, kpC⟩, E aC, c_init⟩
  have k_signs_of : K1.Df P w K mg base CX0 1 "signs_of" ["numbers"] (K1.spSigns K) := ⟨f_signs_of, d_signs_of, K1.ok_signs F_signs_of mo fo, E n_signs_of, F_signs_of.kp, b_signs_of⟩
  have k_led_up : K1.Df P w K mg base CX0 4 "led_up" ["rows", "numbers"] (K1.spLed K) := ⟨f_led_up, d_led_up, K1.ok_led F_led_up k_signs_of k_times (Z z_zip), E n_led_up, F_led_up.kp, b_led_up⟩
  have k_fitted : K1.Df P w K mg base CX0 6 "fitted" ["rows", "numbers"] (K1.spFitted K) := ⟨f_fitted, d_fitted, K1.ok_fitted F_fitted T k_led_up k_Turns k_improve k_left k_amounts k_factors k_signs_of k_times mz fz mo fo (Z z_len) (Z z_zip) (Z z_tuple), E n_fitted, F_fitted.kp, b_fitted⟩
  have FV := K1.ok_vinit (w := w) (base := base) IV EF
  have bV : Binds K d_V ["self", "word"] [] := by
    obtain ⟨oc, od, kV, doc, pm, an, cda, ct, osl, cc, rfl, _⟩ := IV.ex
    exact .all fun us hl => match us, hl with | [_, _], _ => rfl
  have bN : Binds K d_N ["self"] [] := by
    obtain ⟨oc, od, kV, doc, pm, an, cda, ct, osl, cc, rfl, _⟩ := IN.ex
    exact .all fun us hl => match us, hl with | [_], _ => rfl
  have FN := K1.ok_ninit IN EF FV bV
  have FZ := K1.ok_fracz F_fraction k_common_divisor EF FN bN (E aN)
  have kz : K1.Df P w K mg base (L2.CX P w) 4 "fraction" ["top", "bottom"] (K1.spFracZ CN) := ⟨f_fraction, d_fraction, FZ, E n_fraction, F_fraction.kp, b_fraction⟩
  have OZ := K1.ok_overz F_over kz
  have D_common_divisor := dd_common k_common_divisor
  have D_plus := dd_bin k_plus
  have D_minus := dd_bin k_minus
  have D_times := dd_bin k_times
  have D_less := dd_less k_less
  have D_scalar := dd_scalar k_scalar
  have D_fitted := dd_fitted k_fitted
  have D_fraction := dd_fraction (x := "fraction") (K1.ok_fraction (P := P) (w := w) (base := base) F_fraction k_common_divisor) FZ (E n_fraction) F_fraction.kp b_fraction
  have D_over := dd_over (x := "over") (K1.ok_over (P := P) (w := w) (base := base) F_over k_fraction) OZ (E n_over) F_over.kp b_over
  have D__law_draw := dd_draw (x := "_law_draw") (toX (Eh.ok_ldraw (P := P) (w := w) (base := base) F__law_draw (Z z_int) (Z z_len))) (E n__law_draw) F__law_draw.kp b__law_draw
  have k__law_common : K1.Df P w K mg base CX0 1 "_law_common" ["one", "other"] K1.spCommon := ⟨f__law_common, d__law_common, K1.ok_lcommon F__law_common (Z z_abs) (Z z_int), E n__law_common, F__law_common.kp, b__law_common⟩
  have D__law_common := dd_common k__law_common
  have D_is_integer : Dl.Df P w K mg base 1 "is_integer" ["thing"] wp_is_integer := ⟨⟨f_is_integer, d_is_integer, ok_is_integer F_is_integer (Z z_bool) (Z z_int) (Z z_isinstance), E n_is_integer, F_is_integer.kp, b_is_integer⟩, mw_is_integer⟩
  have D_is_fraction : Dl.Df P w K mg base 2 "is_fraction" ["thing"] wp_is_fraction := ⟨⟨f_is_fraction, d_is_fraction, ok_is_fraction F_is_fraction D_common_divisor D_is_integer (Z z_all) (Z z_isinstance) (Z z_len) (Z z_tuple), E n_is_fraction, F_is_fraction.kp, b_is_fraction⟩, mw_is_fraction⟩
  have D__law_low : Dl.Df P w K mg base 2 "_law_low" ["top", "bottom"] wp__law_low := ⟨⟨f__law_low, d__law_low, ok__law_low F__law_low D__law_common, E n__law_low, F__law_low.kp, b__law_low⟩, mw__law_low⟩
  have D__law_plus : Dl.Df P w K mg base 3 "_law_plus" ["one", "other"] wp__law_plus := ⟨⟨f__law_plus, d__law_plus, ok__law_plus F__law_plus D__law_low, E n__law_plus, F__law_plus.kp, b__law_plus⟩, mw_lbin⟩
  have D__law_times : Dl.Df P w K mg base 3 "_law_times" ["one", "other"] wp__law_times := ⟨⟨f__law_times, d__law_times, ok__law_times F__law_times D__law_low, E n__law_times, F__law_times.kp, b__law_times⟩, mw_lbin⟩
  have D__law_fraction : Dl.Df P w K mg base 3 "_law_fraction" ["hand"] wp__law_fraction := ⟨⟨f__law_fraction, d__law_fraction, ok__law_fraction F__law_fraction D__law_draw D__law_low, E n__law_fraction, F__law_fraction.kp, b__law_fraction⟩, mw__law_fraction⟩
  have D__law_scalar : Dl.Df P w K mg base 4 "_law_scalar" ["one", "other"] wp__law_scalar := ⟨⟨f__law_scalar, d__law_scalar, ok__law_scalar F__law_scalar D__law_plus D__law_times (Z z_zip), E n__law_scalar, F__law_scalar.kp, b__law_scalar⟩, mw__law_scalar⟩
  have D__law_is_fraction : Dl.Df P w K mg base 2 "_law_is_fraction" ["thing"] wp__law_is_fraction := ⟨⟨f__law_is_fraction, d__law_is_fraction, ok__law_is_fraction F__law_is_fraction D__law_common (Z z_all) (Z z_bool) (Z z_int) (Z z_isinstance) (Z z_len) (Z z_tuple), E n__law_is_fraction, F__law_is_fraction.kp, b__law_is_fraction⟩, mw_is_fraction⟩
  have D_total : Dl.Df P w K mg base 4 "total" ["some"] wp_total := ⟨⟨f_total, d_total, ok_total mz fz F_total D_plus, E n_total, F_total.kp, b_total⟩, mw_total⟩
  have D__law_rows : Dl.Df P w K mg base 5 "_law_rows" ["hand"] wp__law_rows := ⟨⟨f__law_rows, d__law_rows, ok__law_rows F__law_rows D__law_draw D__law_fraction D__law_low D__law_scalar (Z z_range) (Z z_tuple), E n__law_rows, F__law_rows.kp, b__law_rows⟩, mw__law_rows⟩
  have D__law_is_fit : Dl.Df P w K mg base 5 "_law_is_fit" ["rows", "numbers", "told"] wp__law_is_fit := ⟨⟨f__law_is_fit, d__law_is_fit, ok__law_is_fit F__law_is_fit D__law_is_fraction D__law_scalar (Z z_all) (Z z_any) (Z z_isinstance) (Z z_len) (Z z_range) (Z z_tuple), E n__law_is_fit, F__law_is_fit.kp, b__law_is_fit⟩, mw__law_is_fit⟩
  have D__law_exact_right : DfG P w K mg base 7 "_law_exact_right" ["hand"] wp__law_exact_right := ⟨⟨f__law_exact_right, d__law_exact_right, ok__law_exact_right F__law_exact_right D__law_common D__law_draw D__law_fraction D__law_is_fraction D__law_low D__law_plus D__law_scalar D__law_times D_common_divisor D_fraction D_is_fraction D_less D_minus D_over D_plus D_scalar D_times D_total (Z z_all) (Z z_len) (Z z_range) (Z z_repr) (Z z_tuple), E n__law_exact_right, F__law_exact_right.kp, b__law_exact_right⟩, mw__law_exact_right⟩
  have S : ∀ Y : Cx, Y.K = K → Y.mg = mg → SaidF Y CN CV fT fdT := fun Y e1 e2 => by
    subst e1 e2
    exact ⟨IC, TC, FT, FT.binds (ps := ["self"]) fun _ _ _ _ _ _ us hl => (match us, hl with | [_], _ => rfl), E aN, E aV, Z z_isinstance, Z z_ValueError, xm, kN, kV⟩
  obtain ⟨oc, dV0, kV0, doc, pm, ct, od, an, osl, lk⟩ := LW.fn
  refine law_runs lk LW.cd S F__law_said b__law_said (E n__law_said) TB (Eh.ok_lhand F__law_hand (Z z_abs) (Z z_int) (Z z_len)) (E n__law_hand) F__law_hand.kp b__law_hand D_fraction D_over D_plus D_common_divisor D_total D__law_draw D__law_rows D_fitted D__law_is_fit D__law_exact_right (Z z_repr) (Z z_range) { hd := rfl, dp := by decide, un := by decide } rfl e (.of_eq rfl) hS hl hP
/-- what the walk asks, from the law's def and its table -/
theorem fin {P : Program} {w : World} {K : PySem.W.Frag} {mg : Str → Option Value} {fa fl c Pt : Addr} (LW : LawF K fl c Pt)
    (r : LawF K fl c Pt → ∀ (base : Heap) (s : Shared) (H : Hp) (a : Addr) (ns : List Int), TabB base mg c Pt → H Pt = some (.tbl #[]) → Env0 P w K mg base callerA [] s H → SqL K H a (ns.map V.int) → ns.length ≤ 63 →
      codeAny (model P w) callerA (.call (.ref fa) ⟨[.ref a], []⟩) (CR CX0 [] P w H s (fun v _ => v = .bl true) fun _ _ _ => False) s) :
    ∃ c Pt : Addr, PySem.W.tabIn K "law" = some (c, Pt) ∧ K.lookup Pt = none ∧ ∀ (base : Heap) (s : Shared) (H : Hp) (a : Addr) (ns : List Int), TabB base mg c Pt → H Pt = some (.tbl #[]) → Env0 P w K mg base callerA [] s H → SqL K H a (ns.map V.int) → ns.length ≤ 63 →
      codeAny (model P w) callerA (.call (.ref fa) ⟨[.ref a], []⟩) (CR CX0 [] P w H s (fun v _ => v = .bl true) fun _ _ _ => False) s := ⟨c, Pt, LW.tb, LW.no, r LW⟩
theorem xfc_mk {K : PySem.W.Frag} {C : Addr} (ga : PySem.W.findIn K (.ref C) "__getattribute__" = some (some (.builtin "BaseException.__getattribute__"))) (gg : PySem.W.findIn K (.ref C) "__getattr__" = some none) (ex : PySem.W.subIn K (.ref C) (.type "BaseException") = some true) (hd : PySem.W.hasDictIn K C = true) : XfC K C := ⟨ga, gg, ex, hd⟩
end E0
open PySem PySem.W PyProof.Rows
set_option maxRecDepth 100000 in
set_option maxHeartbeats 0 in
theorem PySem.Challenge.cw_oneverdict_k00_whole_fractions_and_what_holds : PySem.Challenge.rw_oneverdict_k00_whole_fractions_and_what.Holds := by
  w_on; o_law; k_head; (case hw => w_witness2)
  k_fill
  refine E0.walk0 (l := PySem.Challenge.rw_oneverdict_k00_whole_fractions_and_what) rfl rfl (fun w h Y => PySem.W.km_in_of Y) ?hq ?F
  case hq => decide +kernel
  case F =>
    intro w mg fa h KX G hmg
    refine' E0.fin ?LW ?r
    case LW =>
      refine' E0.lawf ?n ?l ?cd ?k ?v ?no
      (case n => first | k_is | ks_is | rfl | kernel_rfl); (case l => first | k_is | ks_is | rfl | kernel_rfl); (case cd => first | k_is | ks_is | rfl | kernel_rfl); (case k => first | k_is | ks_is | rfl | kernel_rfl); (case v => rfl); (case no => first | k_is | ks_is | rfl | kernel_rfl)
    case r =>
      intro LW base s H a ns TB hP e hS hl
      refine' E0.all_runs KX G hmg ?F_common_divisor ?F_fraction ?F_is_fraction ?F_is_integer ?F_plus ?F_minus ?F_times ?F_over ?F_less ?F_total ?F_scalar ?F_signs_of ?F_led_up ?F_fitted ?F__law_hand ?F__law_draw ?F__law_common ?F__law_low ?F__law_plus ?F__law_times ?F__law_fraction ?F__law_scalar ?F__law_is_fraction ?F__law_exact_right ?F__law_rows ?F__law_is_fit ?F__law_said ?M_left ?M_improve ?M_turn ?M_amounts ?M_factors ?M_init LW ?aC ?aV ?aN ?T ?mkC ?kpC ?IV ?IN ?dV ?dN ?tp ?EF ?IC ?TC ?FT ?xm ?kN ?kV ?pz ?po ?z_abs ?z_int ?z_bool ?z_len ?z_list ?z_tuple ?z_zip ?z_range ?z_enumerate ?z_all ?z_any ?z_isinstance ?z_ValueError ?z_super ?z_repr TB hP e hS hl
      case aC => first | k_is | ks_is | rfl | kernel_rfl
      case aV => first | k_is | ks_is | rfl | kernel_rfl
      case aN => first | k_is | ks_is | rfl | kernel_rfl
      case F_common_divisor =>
        refine' K1.topf ?a ?l ?c ?k
        (case a => first | k_is | ks_is | rfl | kernel_rfl); (case l => first | k_is | ks_is | rfl | kernel_rfl); (case c => first | k_is | ks_is | rfl | kernel_rfl); (case k => first | k_is | ks_is | rfl | kernel_rfl)
      case F_fraction =>
        refine' K1.topf ?a ?l ?c ?k
        (case a => first | k_is | ks_is | rfl | kernel_rfl); (case l => first | k_is | ks_is | rfl | kernel_rfl); (case c => first | k_is | ks_is | rfl | kernel_rfl); (case k => first | k_is | ks_is | rfl | kernel_rfl)
      case F_is_fraction =>
        refine' K1.topf ?a ?l ?c ?k
        (case a => first | k_is | ks_is | rfl | kernel_rfl); (case l => first | k_is | ks_is | rfl | kernel_rfl); (case c => first | k_is | ks_is | rfl | kernel_rfl); (case k => first | k_is | ks_is | rfl | kernel_rfl)
      case F_is_integer =>
        refine' K1.topf ?a ?l ?c ?k
        (case a => first | k_is | ks_is | rfl | kernel_rfl); (case l => first | k_is | ks_is | rfl | kernel_rfl); (case c => first | k_is | ks_is | rfl | kernel_rfl); (case k => first | k_is | ks_is | rfl | kernel_rfl)
      case F_plus =>
        refine' K1.topf ?a ?l ?c ?k
        (case a => first | k_is | ks_is | rfl | kernel_rfl); (case l => first | k_is | ks_is | rfl | kernel_rfl); (case c => first | k_is | ks_is | rfl | kernel_rfl); (case k => first | k_is | ks_is | rfl | kernel_rfl)
      case F_minus =>
        refine' K1.topf ?a ?l ?c ?k
        (case a => first | k_is | ks_is | rfl | kernel_rfl); (case l => first | k_is | ks_is | rfl | kernel_rfl); (case c => first | k_is | ks_is | rfl | kernel_rfl); (case k => first | k_is | ks_is | rfl | kernel_rfl)
      case F_times =>
        refine' K1.topf ?a ?l ?c ?k
        (case a => first | k_is | ks_is | rfl | kernel_rfl); (case l => first | k_is | ks_is | rfl | kernel_rfl); (case c => first | k_is | ks_is | rfl | kernel_rfl); (case k => first | k_is | ks_is | rfl | kernel_rfl)
      case F_over =>
        refine' K1.topf ?a ?l ?c ?k
        (case a => first | k_is | ks_is | rfl | kernel_rfl); (case l => first | k_is | ks_is | rfl | kernel_rfl); (case c => first | k_is | ks_is | rfl | kernel_rfl); (case k => first | k_is | ks_is | rfl | kernel_rfl)
      case F_less =>
        refine' K1.topf ?a ?l ?c ?k
        (case a => first | k_is | ks_is | rfl | kernel_rfl); (case l => first | k_is | ks_is | rfl | kernel_rfl); (case c => first | k_is | ks_is | rfl | kernel_rfl); (case k => first | k_is | ks_is | rfl | kernel_rfl)
      case F_total =>
        refine' K1.topf ?a ?l ?c ?k
        (case a => first | k_is | ks_is | rfl | kernel_rfl); (case l => first | k_is | ks_is | rfl | kernel_rfl); (case c => first | k_is | ks_is | rfl | kernel_rfl); (case k => first | k_is | ks_is | rfl | kernel_rfl)
      case F_scalar =>
        refine' K1.topf ?a ?l ?c ?k
        (case a => first | k_is | ks_is | rfl | kernel_rfl); (case l => first | k_is | ks_is | rfl | kernel_rfl); (case c => first | k_is | ks_is | rfl | kernel_rfl); (case k => first | k_is | ks_is | rfl | kernel_rfl)
      case F_signs_of =>
        refine' K1.topf ?a ?l ?c ?k
        (case a => first | k_is | ks_is | rfl | kernel_rfl); (case l => first | k_is | ks_is | rfl | kernel_rfl); (case c => first | k_is | ks_is | rfl | kernel_rfl); (case k => first | k_is | ks_is | rfl | kernel_rfl)
      case F_led_up =>
        refine' K1.topf ?a ?l ?c ?k
        (case a => first | k_is | ks_is | rfl | kernel_rfl); (case l => first | k_is | ks_is | rfl | kernel_rfl); (case c => first | k_is | ks_is | rfl | kernel_rfl); (case k => first | k_is | ks_is | rfl | kernel_rfl)
      case F_fitted =>
        refine' K1.topf ?a ?l ?c ?k
        (case a => first | k_is | ks_is | rfl | kernel_rfl); (case l => first | k_is | ks_is | rfl | kernel_rfl); (case c => first | k_is | ks_is | rfl | kernel_rfl); (case k => first | k_is | ks_is | rfl | kernel_rfl)
      case F__law_hand =>
        refine' K1.topf ?a ?l ?c ?k
        (case a => first | k_is | ks_is | rfl | kernel_rfl); (case l => first | k_is | ks_is | rfl | kernel_rfl); (case c => first | k_is | ks_is | rfl | kernel_rfl); (case k => first | k_is | ks_is | rfl | kernel_rfl)
      case F__law_draw =>
        refine' K1.topf ?a ?l ?c ?k
        (case a => first | k_is | ks_is | rfl | kernel_rfl); (case l => first | k_is | ks_is | rfl | kernel_rfl); (case c => first | k_is | ks_is | rfl | kernel_rfl); (case k => first | k_is | ks_is | rfl | kernel_rfl)
      case F__law_common =>
        refine' K1.topf ?a ?l ?c ?k
        (case a => first | k_is | ks_is | rfl | kernel_rfl); (case l => first | k_is | ks_is | rfl | kernel_rfl); (case c => first | k_is | ks_is | rfl | kernel_rfl); (case k => first | k_is | ks_is | rfl | kernel_rfl)
      case F__law_low =>
        refine' K1.topf ?a ?l ?c ?k
        (case a => first | k_is | ks_is | rfl | kernel_rfl); (case l => first | k_is | ks_is | rfl | kernel_rfl); (case c => first | k_is | ks_is | rfl | kernel_rfl); (case k => first | k_is | ks_is | rfl | kernel_rfl)
      case F__law_plus =>
        refine' K1.topf ?a ?l ?c ?k
        (case a => first | k_is | ks_is | rfl | kernel_rfl); (case l => first | k_is | ks_is | rfl | kernel_rfl); (case c => first | k_is | ks_is | rfl | kernel_rfl); (case k => first | k_is | ks_is | rfl | kernel_rfl)
      case F__law_times =>
        refine' K1.topf ?a ?l ?c ?k
        (case a => first | k_is | ks_is | rfl | kernel_rfl); (case l => first | k_is | ks_is | rfl | kernel_rfl); (case c => first | k_is | ks_is | rfl | kernel_rfl); (case k => first | k_is | ks_is | rfl | kernel_rfl)
      case F__law_fraction =>
        refine' K1.topf ?a ?l ?c ?k
        (case a => first | k_is | ks_is | rfl | kernel_rfl); (case l => first | k_is | ks_is | rfl | kernel_rfl); (case c => first | k_is | ks_is | rfl | kernel_rfl); (case k => first | k_is | ks_is | rfl | kernel_rfl)
      case F__law_scalar =>
        refine' K1.topf ?a ?l ?c ?k
        (case a => first | k_is | ks_is | rfl | kernel_rfl); (case l => first | k_is | ks_is | rfl | kernel_rfl); (case c => first | k_is | ks_is | rfl | kernel_rfl); (case k => first | k_is | ks_is | rfl | kernel_rfl)
      case F__law_is_fraction =>
        refine' K1.topf ?a ?l ?c ?k
        (case a => first | k_is | ks_is | rfl | kernel_rfl); (case l => first | k_is | ks_is | rfl | kernel_rfl); (case c => first | k_is | ks_is | rfl | kernel_rfl); (case k => first | k_is | ks_is | rfl | kernel_rfl)
      case F__law_exact_right =>
        refine' K1.topf ?a ?l ?c ?k
        (case a => first | k_is | ks_is | rfl | kernel_rfl); (case l => first | k_is | ks_is | rfl | kernel_rfl); (case c => first | k_is | ks_is | rfl | kernel_rfl); (case k => first | k_is | ks_is | rfl | kernel_rfl)
      case F__law_rows =>
        refine' K1.topf ?a ?l ?c ?k
        (case a => first | k_is | ks_is | rfl | kernel_rfl); (case l => first | k_is | ks_is | rfl | kernel_rfl); (case c => first | k_is | ks_is | rfl | kernel_rfl); (case k => first | k_is | ks_is | rfl | kernel_rfl)
      case F__law_is_fit =>
        refine' K1.topf ?a ?l ?c ?k
        (case a => first | k_is | ks_is | rfl | kernel_rfl); (case l => first | k_is | ks_is | rfl | kernel_rfl); (case c => first | k_is | ks_is | rfl | kernel_rfl); (case k => first | k_is | ks_is | rfl | kernel_rfl)
      case F__law_said =>
        refine' K1.topf ?a ?l ?c ?k
        (case a => first | k_is | ks_is | rfl | kernel_rfl); (case l => first | k_is | ks_is | rfl | kernel_rfl); (case c => first | k_is | ks_is | rfl | kernel_rfl); (case k => first | k_is | ks_is | rfl | kernel_rfl)
      case M_left =>
        refine' K1.metf ?a ?i ?l ?c ?k
        (case a => first | k_is | ks_is | rfl | kernel_rfl); (case i => first | k_is | ks_is | rfl | kernel_rfl); (case l => first | k_is | ks_is | rfl | kernel_rfl); (case c => first | k_is | ks_is | rfl | kernel_rfl); (case k => first | k_is | ks_is | rfl | kernel_rfl)
      case M_improve =>
        refine' K1.metf ?a ?i ?l ?c ?k
        (case a => first | k_is | ks_is | rfl | kernel_rfl); (case i => first | k_is | ks_is | rfl | kernel_rfl); (case l => first | k_is | ks_is | rfl | kernel_rfl); (case c => first | k_is | ks_is | rfl | kernel_rfl); (case k => first | k_is | ks_is | rfl | kernel_rfl)
      case M_turn =>
        refine' K1.metf ?a ?i ?l ?c ?k
        (case a => first | k_is | ks_is | rfl | kernel_rfl); (case i => first | k_is | ks_is | rfl | kernel_rfl); (case l => first | k_is | ks_is | rfl | kernel_rfl); (case c => first | k_is | ks_is | rfl | kernel_rfl); (case k => first | k_is | ks_is | rfl | kernel_rfl)
      case M_amounts =>
        refine' K1.metf ?a ?i ?l ?c ?k
        (case a => first | k_is | ks_is | rfl | kernel_rfl); (case i => first | k_is | ks_is | rfl | kernel_rfl); (case l => first | k_is | ks_is | rfl | kernel_rfl); (case c => first | k_is | ks_is | rfl | kernel_rfl); (case k => first | k_is | ks_is | rfl | kernel_rfl)
      case M_factors =>
        refine' K1.metf ?a ?i ?l ?c ?k
        (case a => first | k_is | ks_is | rfl | kernel_rfl); (case i => first | k_is | ks_is | rfl | kernel_rfl); (case l => first | k_is | ks_is | rfl | kernel_rfl); (case c => first | k_is | ks_is | rfl | kernel_rfl); (case k => first | k_is | ks_is | rfl | kernel_rfl)
      case M_init =>
        refine' K1.metf ?a ?i ?l ?c ?k
        (case a => first | k_is | ks_is | rfl | kernel_rfl); (case i => first | k_is | ks_is | rfl | kernel_rfl); (case l => first | k_is | ks_is | rfl | kernel_rfl); (case c => first | k_is | ks_is | rfl | kernel_rfl); (case k => first | k_is | ks_is | rfl | kernel_rfl)
      case T =>
        refine' K1.tx_mk ?pg ?hd ?pv ?sa ?nH ?nM ?nR ?nB
        (case pg => first | k_is | ks_is | rfl | kernel_rfl); (case hd => first | k_is | ks_is | rfl | kernel_rfl); (case pv => first | k_is | ks_is | rfl | kernel_rfl); (case sa => first | k_is | ks_is | rfl | kernel_rfl); (case nH => first | k_is | ks_is | rfl | kernel_rfl); (case nM => first | k_is | ks_is | rfl | kernel_rfl); (case nR => first | k_is | ks_is | rfl | kernel_rfl); (case nB => first | k_is | ks_is | rfl | kernel_rfl)
      case mkC => first | k_is | ks_is | rfl | kernel_rfl
      case kpC => first | k_is | ks_is | rfl | kernel_rfl
      case EF =>
        refine' ⟨K1.oex_mk ?xL ?rb ?sa ?eC ?tC ?kC, ?wd, ?st, ?mV, ?mN, ?sV, ?sN, ?vE, ?tV, ?fnV, ?iN, ?tN⟩
        (case xL => first | k_is | ks_is | rfl | kernel_rfl); (case rb => decide +kernel); (case sa => first | k_is | ks_is | rfl | kernel_rfl); (case eC => first | k_is | ks_is | rfl | kernel_rfl); (case tC => first | k_is | ks_is | rfl | kernel_rfl); (case kC => first | k_is | ks_is | rfl | kernel_rfl); (case wd => first | k_is | ks_is | rfl | kernel_rfl); (case st => first | k_is | ks_is | rfl | kernel_rfl); (case mV => first | k_is | ks_is | rfl | kernel_rfl); (case mN => first | k_is | ks_is | rfl | kernel_rfl); (case sV => first | k_is | ks_is | rfl | kernel_rfl); (case sN => first | k_is | ks_is | rfl | kernel_rfl); (case vE => first | k_is | ks_is | rfl | kernel_rfl); (case tV => first | k_is | ks_is | rfl | kernel_rfl); (case fnV => first | k_is | ks_is | rfl | kernel_rfl); (case iN => first | k_is | ks_is | rfl | kernel_rfl); (case tN => first | k_is | ks_is | rfl | kernel_rfl)
      case IV =>
        refine' K1.inif ?l ?c ?kc ?h2 ?hf ?k
        (case l => first | k_is | ks_is | rfl | kernel_rfl); (case c => first | k_is | ks_is | rfl | kernel_rfl); (case kc => first | k_is | ks_is | rfl | kernel_rfl); (case h2 => rfl); (case hf => decide +kernel); (case k => first | k_is | ks_is | rfl | kernel_rfl)
      case IN =>
        refine' K1.inif ?l ?c ?kc ?h2 ?hf ?k
        (case l => first | k_is | ks_is | rfl | kernel_rfl); (case c => first | k_is | ks_is | rfl | kernel_rfl); (case kc => first | k_is | ks_is | rfl | kernel_rfl); (case h2 => rfl); (case hf => decide +kernel); (case k => first | k_is | ks_is | rfl | kernel_rfl)
      case dV => refine K1.some_cls ?_; first | k_is | ks_is | rfl | kernel_rfl
      case dN => refine K1.some_cls ?_; first | k_is | ks_is | rfl | kernel_rfl
      case tp => decide +kernel
      case IC =>
        refine' E0.isc_mk ?cl ?ga ?gt ?sb ?ca ?sp ?tk ?ob
        (case cl => first | k_is | ks_is | rfl | kernel_rfl); (case ga => first | k_is | ks_is | rfl | kernel_rfl); (case gt => first | k_is | ks_is | rfl | kernel_rfl); (case sb => first | k_is | ks_is | rfl | kernel_rfl); (case ca => first | k_is | ks_is | rfl | kernel_rfl); (case sp => first | k_is | ks_is | rfl | kernel_rfl); (case tk => first | k_is | ks_is | rfl | kernel_rfl); (case ob => first | k_is | ks_is | rfl | kernel_rfl)
      case TC =>
        refine' ⟨E0.xfc_mk ?ga ?gg ?ex ?hd, ?mt, ?ty, ?nf⟩
        (case ga => first | k_is | ks_is | rfl | kernel_rfl); (case gg => first | k_is | ks_is | rfl | kernel_rfl); (case ex => first | k_is | ks_is | rfl | kernel_rfl); (case hd => first | k_is | ks_is | rfl | kernel_rfl); (case mt => first | k_is | ks_is | rfl | kernel_rfl); (case ty => first | k_is | ks_is | rfl | kernel_rfl); (case nf => first | k_is | ks_is | rfl | kernel_rfl)
      case FT =>
        refine' L2.fun_mk ?l ?c ?k
        (case l => first | k_is | ks_is | rfl | kernel_rfl); (case c => first | k_is | ks_is | rfl | kernel_rfl); (case k => first | k_is | ks_is | rfl | kernel_rfl)
      case xm => first | k_is | ks_is | rfl | kernel_rfl
      case kN => first | k_is | ks_is | rfl | kernel_rfl
      case kV => first | k_is | ks_is | rfl | kernel_rfl
      case pz =>
        refine' K1.pair_mk ?h ?l
        (case h => first | k_is | ks_is | rfl | kernel_rfl); (case l => first | k_is | ks_is | rfl | kernel_rfl)
      case po =>
        refine' K1.pair_mk ?h ?l
        (case h => first | k_is | ks_is | rfl | kernel_rfl); (case l => first | k_is | ks_is | rfl | kernel_rfl)
      case z_abs => first | k_is | ks_is | rfl | kernel_rfl
      case z_int => first | k_is | ks_is | rfl | kernel_rfl
      case z_bool => first | k_is | ks_is | rfl | kernel_rfl
      case z_len => first | k_is | ks_is | rfl | kernel_rfl
      case z_list => first | k_is | ks_is | rfl | kernel_rfl
      case z_tuple => first | k_is | ks_is | rfl | kernel_rfl
      case z_zip => first | k_is | ks_is | rfl | kernel_rfl
      case z_range => first | k_is | ks_is | rfl | kernel_rfl
      case z_enumerate => first | k_is | ks_is | rfl | kernel_rfl
      case z_all => first | k_is | ks_is | rfl | kernel_rfl
      case z_any => first | k_is | ks_is | rfl | kernel_rfl
      case z_isinstance => first | k_is | ks_is | rfl | kernel_rfl
      case z_ValueError => first | k_is | ks_is | rfl | kernel_rfl
      case z_super => first | k_is | ks_is | rfl | kernel_rfl
      case z_repr => first | k_is | ks_is | rfl | kernel_rfl
