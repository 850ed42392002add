import PyProof.Rows.All
import Wide.All
import OpenK.AllK
import Wide.FinOn
import HandS.ForMost
import HandS.Walk
import HandS.Zip
import HandS.Rev
import HandS.IsInst
import HandS.Style
import HandS.Wide
import KE.KEqDeep
import HandS.TryOnly
import HandS.Ends
import PySem.Challenge.RW_momentwright_k66_whole_how_much_weighs
set_option Elab.async false
set_option linter.all false
set_option maxRecDepth 100000
set_option maxHeartbeats 4000000
/-! Sizes of fractions. -/
namespace M66
def BIG : Nat := 67000000
/-! sizes -/
def Sz (n : Nat) (q : Rat) : Prop := 0 < n ∧ q.num.natAbs < 2 ^ n ∧ q.den < 2 ^ n
def S (q : Rat) : Prop := ∃ n, n ≤ BIG ∧ Sz n q
theorem pow2_mono {n m : Nat} (h : n ≤ m) : 2 ^ n ≤ 2 ^ m := Nat.pow_le_pow_right (by decide) h
theorem Sz.mono {n m : Nat} {q : Rat} (h : Sz n q) (hm : n ≤ m) : Sz m q := ⟨Nat.lt_of_lt_of_le h.1 hm, Nat.lt_of_lt_of_le h.2.1 (pow2_mono hm), Nat.lt_of_lt_of_le h.2.2 (pow2_mono hm)⟩
theorem Sz.s {n : Nat} {q : Rat} (h : Sz n q) (hm : n ≤ BIG) : S q := ⟨n, hm, h⟩
theorem sz_divInt {a b : Int} {n : Nat} (h0 : 0 < n) (ha : a.natAbs < 2 ^ n) (hb : b.natAbs < 2 ^ n) : Sz n (Rat.divInt a b) := by
  refine ⟨h0, ?_, ?_⟩
  · rw [Rat.num_divInt]
    have : (b.sign * a / (b.gcd a : Int)).natAbs ≤ a.natAbs := by
      refine Nat.le_trans (Int.natAbs_ediv_le_natAbs _ _) ?_
      rw [Int.natAbs_mul]
      rcases Int.lt_trichotomy b 0 with h | h | h
      · rw [Int.sign_eq_neg_one_of_neg h]; simp
      · subst h; simp
      · rw [Int.sign_eq_one_of_pos h]; simp
    omega
  · rw [Rat.den_divInt]
    split
    · have : 2 ^ 1 ≤ 2 ^ n := pow2_mono (by omega)
      omega
    · have := Nat.div_le_self b.natAbs (b.gcd a)
      omega
theorem lt_mul2 {a b n m : Nat} (ha : a < 2 ^ n) (hb : b < 2 ^ m) : a * b < 2 ^ (n + m) := by
  rw [Nat.pow_add]
  exact Nat.mul_lt_mul'' ha hb
theorem add_divInt (p q : Rat) : p + q = Rat.divInt (p.num * q.den + q.num * p.den) (p.den * q.den) := by
  rw [Rat.add_def', ← Int.natCast_mul]
  rfl
theorem sub_divInt (p q : Rat) : p - q = Rat.divInt (p.num * q.den - q.num * p.den) (p.den * q.den) := by
  rw [Rat.sub_def', ← Int.natCast_mul]
  rfl
theorem mul_divInt (p q : Rat) : p * q = Rat.divInt (p.num * q.num) (p.den * q.den) := by
  rw [Rat.mul_def', ← Int.natCast_mul]
  rfl
theorem div_divInt (p q : Rat) : p / q = Rat.divInt (p.num * q.den) (p.den * q.num) := by
  rw [Rat.div_def, Rat.inv_def]
  conv => lhs; arg 1; rw [← Rat.num_divInt_den p]
  rw [Rat.divInt_mul_divInt]
theorem abs_add_lt {a b : Int} {n : Nat} (ha : a.natAbs < 2 ^ n) (hb : b.natAbs < 2 ^ n) : (a + b).natAbs < 2 ^ (n + 1) := by
  rw [Nat.pow_succ]
  omega
theorem Sz.add {n m : Nat} {p q : Rat} (hp : Sz n p) (hq : Sz m q) : Sz (n + m + 1) (p + q) := by
  rw [add_divInt]
  refine sz_divInt (by omega) (abs_add_lt ?_ ?_) ?_
  · rw [Int.natAbs_mul]
    exact lt_mul2 hp.2.1 (by simpa using hq.2.2)
  · rw [Int.natAbs_mul, Nat.add_comm n m]
    exact lt_mul2 hq.2.1 (by simpa using hp.2.2)
  · rw [Int.natAbs_mul]
    exact Nat.lt_of_lt_of_le (lt_mul2 (n := n) (m := m) (by simpa using hp.2.2) (by simpa using hq.2.2)) (pow2_mono (by omega))
theorem Sz.neg {n : Nat} {p : Rat} (hp : Sz n p) : Sz n (-p) := ⟨hp.1, by rw [Rat.neg_num, Int.natAbs_neg]; exact hp.2.1, hp.2.2⟩
theorem Sz.sub {n m : Nat} {p q : Rat} (hp : Sz n p) (hq : Sz m q) : Sz (n + m + 1) (p - q) := by
  rw [Rat.sub_eq_add_neg]
  exact hp.add hq.neg
theorem Sz.mul {n m : Nat} {p q : Rat} (hp : Sz n p) (hq : Sz m q) : Sz (n + m) (p * q) := by
  rw [mul_divInt]
  refine sz_divInt (Nat.lt_of_lt_of_le hp.1 (Nat.le_add_right _ _)) ?_ ?_
  · rw [Int.natAbs_mul]
    exact lt_mul2 hp.2.1 hq.2.1
  · rw [Int.natAbs_mul]
    exact lt_mul2 (by simpa using hp.2.2) (by simpa using hq.2.2)
theorem Sz.div {n m : Nat} {p q : Rat} (hp : Sz n p) (hq : Sz m q) : Sz (n + m) (p / q) := by
  rw [div_divInt]
  refine sz_divInt (Nat.lt_of_lt_of_le hp.1 (Nat.le_add_right _ _)) ?_ ?_
  · rw [Int.natAbs_mul]
    exact lt_mul2 hp.2.1 (by simpa using hq.2.2)
  · rw [Int.natAbs_mul]
    exact lt_mul2 (by simpa using hp.2.2) hq.2.1
theorem sz_int {i : Int} {n : Nat} (h0 : 0 < n) (h : i.natAbs < 2 ^ n) : Sz n (i : Rat) := ⟨h0, by simpa using h, by
  have : 2 ^ 1 ≤ 2 ^ n := pow2_mono (by omega)
  show (1 : Nat) < 2 ^ n
  omega⟩

def sgn (q : Rat) : Int := if 0 < q then 1 else if q < 0 then -1 else 0
end M66
/-! Polynomials as lists of fractions: the mirror. -/
namespace M66
def SL (f : List Rat) : Prop := ∀ c ∈ f, S c
def SzL (n : Nat) (f : List Rat) : Prop := ∀ c ∈ f, Sz n c
theorem SzL.sl {n : Nat} {f : List Rat} (h : SzL n f) (hn : n ≤ BIG) : SL f := fun c hc => (h c hc).s hn
theorem SzL.mono {n m : Nat} {f : List Rat} (h : SzL n f) (hm : n ≤ m) : SzL m f := fun c hc => (h c hc).mono hm
theorem Sz.zero {n : Nat} (h : 0 < n) : Sz n 0 := sz_int (i := 0) h (by have : 2 ^ 1 ≤ 2 ^ n := pow2_mono (by omega); show 0 < 2 ^ n; omega)
theorem Sz.one {n : Nat} (h : 0 < n) : Sz n 1 := sz_int (i := 1) h (by have : 2 ^ 1 ≤ 2 ^ n := pow2_mono (by omega); show 1 < 2 ^ n; omega)
theorem S.zero : S 0 := (Sz.zero (n := 1) (by decide)).s (by decide)
theorem S.one : S 1 := (Sz.one (n := 1) (by decide)).s (by decide)

/-- without noughts at the end -/
def cln (f : List Rat) : List Rat := (f.reverse.dropWhile (fun c => decide (c = 0))).reverse
def cf (f : List Rat) (i : Nat) : Rat := f.getD i 0
def addP (f g : List Rat) : List Rat := cln ((List.range (max f.length g.length)).map fun i => cf f i + cf g i)
def subP (f g : List Rat) : List Rat := cln ((List.range (max f.length g.length)).map fun i => cf f i - cf g i)
def scl (f : List Rat) (c : Rat) : List Rat := cln (f.map (· * c))
def rai (f : List Rat) (k : Nat) : List Rat := if f = [] then [] else List.replicate k 0 ++ f
def mulF (f : List Rat) (acc : List Rat) (z : Rat × Nat) : List Rat := addP acc (rai (scl f z.1) z.2)
def mulP (f g : List Rat) : List Rat := g.zipIdx.foldl (mulF f) []
def pwr (k : Nat) : List Rat := List.replicate k 0 ++ [1]
def ev (f : List Rat) (x : Rat) : Rat := f.foldr (fun c acc => acc * x + c) 0
def slp (f : List Rat) : List Rat := cln ((f.zipIdx.map fun z => z.1 * (z.2 : Rat)).drop 1)
def lst (f : List Rat) : Rat := f.getLastD 0
def ledP (f : List Rat) : List Rat := f.map (· / lst f)
def neg (f : List Rat) : List Rat := scl f (-1)
def tot (f : List Rat) : Rat := f.foldl (· + ·) 0

theorem cf_nil (i : Nat) : cf [] i = 0 := by simp [cf]
theorem cf_of_le {f : List Rat} {i : Nat} (h : f.length ≤ i) : cf f i = 0 := by
  unfold cf
  rw [List.getD_eq_getElem?_getD, List.getElem?_eq_none h]
  rfl
theorem cf_lt {f : List Rat} {i : Nat} (h : i < f.length) : cf f i = f[i] := by
  unfold cf
  rw [List.getD_eq_getElem?_getD, List.getElem?_eq_getElem h]
  rfl
theorem cf_cons_zero (c : Rat) (f : List Rat) : cf (c :: f) 0 = c := rfl
theorem cf_cons_succ (c : Rat) (f : List Rat) (i : Nat) : cf (c :: f) (i + 1) = cf f i := by
  simp [cf]
theorem cln_concat (f : List Rat) (c : Rat) : cln (f ++ [c]) = if c = 0 then cln f else f ++ [c] := by
  unfold cln
  rw [List.reverse_append]
  show ((c :: f.reverse).dropWhile _).reverse = _
  rw [List.dropWhile_cons]
  by_cases h : c = 0
  · simp [h]
  · simp [h]
theorem cln_nil : cln [] = [] := rfl
theorem snoc_ind {P : List Rat → Prop} (h0 : P []) (h1 : ∀ f c, P f → P (f ++ [c])) : ∀ f, P f := by
  have key : ∀ n : Nat, ∀ f : List Rat, f.length = n → P f := by
    intro n
    induction n with
    | zero =>
      intro f hf
      have : f = [] := List.eq_nil_of_length_eq_zero hf
      rw [this]
      exact h0
    | succ n ih =>
      intro f hf
      have hne : f ≠ [] := by
        intro z
        rw [z] at hf
        cases hf
      rw [← List.dropLast_concat_getLast hne]
      exact h1 _ _ (ih _ (by rw [List.length_dropLast]; omega))
  exact fun f => key f.length f rfl
theorem cf_append_zero (f : List Rat) (i : Nat) : cf (f ++ [0]) i = cf f i := by
  by_cases h : i < f.length
  · rw [cf_lt (by rw [List.length_append]; omega), cf_lt h, List.getElem_append_left h]
  · rw [cf_of_le (f := f) (by omega)]
    by_cases h2 : i = f.length
    · subst h2
      rw [cf_lt (by rw [List.length_append]; exact Nat.lt_succ_self _), List.getElem_append_right (Nat.le_refl _)]
      simp
    · exact cf_of_le (by rw [List.length_append, List.length_singleton]; omega)
theorem cf_cln (f : List Rat) (i : Nat) : cf (cln f) i = cf f i := by
  refine snoc_ind (P := fun f => cf (cln f) i = cf f i) rfl (fun f c ih => ?_) f
  rw [cln_concat]
  by_cases h : c = 0
  · rw [if_pos h, ih, h, cf_append_zero]
  · rw [if_neg h]
/-- no nought at the end -/
def Nrm (f : List Rat) : Prop := f = [] ∨ lst f ≠ 0
theorem nrm_cln (f : List Rat) : Nrm (cln f) := by
  refine snoc_ind (P := fun f => Nrm (cln f)) (.inl rfl) (fun f c ih => ?_) f
  rw [cln_concat]
  by_cases h : c = 0
  · rw [if_pos h]
    exact ih
  · rw [if_neg h]
    refine .inr ?_
    unfold lst
    rw [List.getLastD_concat]
    exact h
theorem cln_nrm {f : List Rat} (h : Nrm f) : cln f = f := by
  revert h
  refine snoc_ind (P := fun f => Nrm f → cln f = f) (fun _ => rfl) (fun f c _ h => ?_) f
  rw [cln_concat]
  by_cases h0 : c = 0
  · rcases h with h | h
    · simp at h
    · unfold lst at h
      rw [List.getLastD_concat] at h
      exact absurd h0 h
  · rw [if_neg h0]
theorem lst_eq {f : List Rat} (h : f ≠ []) : lst f = cf f (f.length - 1) := by
  have hl : 0 < f.length := List.length_pos_iff.mpr h
  unfold lst
  rw [cf_lt (by omega), List.getLastD_eq_getLast?, List.getLast?_eq_getElem?, List.getElem?_eq_getElem (by omega)]
  rfl
/-- two without noughts at the end that agree at each place are one -/
theorem nrm_ext {f g : List Rat} (hf : Nrm f) (hg : Nrm g) (h : ∀ i, cf f i = cf g i) : f = g := by
  have hl : ∀ {f g : List Rat}, Nrm f → (∀ i, cf f i = cf g i) → f.length ≤ g.length := by
    intro f g hf h
    by_cases hn : f = []
    · rw [hn]
      exact Nat.zero_le _
    · apply Nat.le_of_not_lt
      intro hlt
      have h0 : cf f (f.length - 1) = 0 := by
        rw [h]
        exact cf_of_le (by omega)
      rcases hf with hf | hf
      · exact hn hf
      · exact hf (by rw [lst_eq hn]; exact h0)
  have e : f.length = g.length := Nat.le_antisymm (hl hf h) (hl hg fun i => (h i).symm)
  apply List.ext_getElem e
  intro i h1 h2
  have := h i
  rwa [cf_lt h1, cf_lt h2] at this
theorem cln_ext {f g : List Rat} (h : ∀ i, cf f i = cf g i) : cln f = cln g := nrm_ext (nrm_cln f) (nrm_cln g) fun i => by rw [cf_cln, cf_cln, h]
theorem cf_map_range {n : Nat} {h : Nat → Rat} (hz : ∀ i, n ≤ i → h i = 0) (i : Nat) : cf ((List.range n).map h) i = h i := by
  by_cases hi : i < n
  · rw [cf_lt (by simpa using hi)]
    simp
  · rw [cf_of_le (by simpa using hi), hz i (by omega)]
theorem cf_addP (f g : List Rat) (i : Nat) : cf (addP f g) i = cf f i + cf g i := by
  unfold addP
  rw [cf_cln, cf_map_range]
  intro j hj
  rw [cf_of_le (by omega), cf_of_le (by omega)]
  grind
theorem cf_subP (f g : List Rat) (i : Nat) : cf (subP f g) i = cf f i - cf g i := by
  unfold subP
  rw [cf_cln, cf_map_range]
  intro j hj
  rw [cf_of_le (by omega), cf_of_le (by omega)]
  grind
theorem cf_map (f : List Rat) (h : Rat → Rat) (h0 : h 0 = 0) (i : Nat) : cf (f.map h) i = h (cf f i) := by
  by_cases hi : i < f.length
  · rw [cf_lt (by simpa using hi), cf_lt hi]
    simp
  · rw [cf_of_le (by simpa using hi), cf_of_le (by omega), h0]
theorem cf_scl (f : List Rat) (c : Rat) (i : Nat) : cf (scl f c) i = cf f i * c := by
  unfold scl
  rw [cf_cln, cf_map f (· * c) (by grind)]
theorem cf_rai (f : List Rat) (k i : Nat) : cf (rai f k) i = if i < k then 0 else cf f (i - k) := by
  unfold rai
  by_cases h : f = []
  · subst h
    simp [cf_nil]
  · rw [if_neg h]
    by_cases hi : i < k
    · rw [if_pos hi, cf_lt (by rw [List.length_append, List.length_replicate]; omega), List.getElem_append_left (by rw [List.length_replicate]; exact hi)]
      simp
    · rw [if_neg hi]
      by_cases h2 : i - k < f.length
      · rw [cf_lt (by rw [List.length_append, List.length_replicate]; omega), List.getElem_append_right (by rw [List.length_replicate]; omega), cf_lt h2]
        simp
      · rw [cf_of_le (by rw [List.length_append, List.length_replicate]; omega), cf_of_le (by omega)]
theorem nrm_rai {f : List Rat} (h : Nrm f) (k : Nat) : Nrm (rai f k) := by
  unfold rai
  by_cases h0 : f = []
  · exact .inl (if_pos h0)
  · rw [if_neg h0]
    refine .inr ?_
    have hne : List.replicate k 0 ++ f ≠ [] := by simp [h0]
    unfold lst
    rw [List.getLastD_eq_getLast?, List.getLast?_append]
    rcases h with h | h
    · exact absurd h h0
    · unfold lst at h
      rw [List.getLastD_eq_getLast?] at h
      cases e : f.getLast? with
      | none => exact absurd (List.getLast?_eq_none_iff.mp e) h0
      | some v =>
        rw [e] at h
        simpa using h
theorem ev_cons (c : Rat) (f : List Rat) (x : Rat) : ev (c :: f) x = ev f x * x + c := rfl
theorem ev_nil (x : Rat) : ev [] x = 0 := rfl
theorem ev_append_zero (f : List Rat) (x : Rat) : ev (f ++ [0]) x = ev f x := by
  induction f with
  | nil => show (0 : Rat) * x + 0 = 0; grind
  | cons c f ih => rw [List.cons_append, ev_cons, ev_cons, ih]
theorem ev_cln (f : List Rat) (x : Rat) : ev (cln f) x = ev f x := by
  refine snoc_ind (P := fun f => ev (cln f) x = ev f x) rfl (fun f c ih => ?_) f
  rw [cln_concat]
  by_cases h : c = 0
  · rw [if_pos h, ih, h, ev_append_zero]
  · rw [if_neg h]
/-- the value by the numbers alone -/
def evN (h : Nat → Rat) (x : Rat) : Nat → Rat
  | 0 => 0
  | n + 1 => evN h x n + h n * x ^ n
theorem cln_length (f : List Rat) : (cln f).length ≤ f.length := by
  refine snoc_ind (P := fun f => (cln f).length ≤ f.length) (Nat.le_refl _) (fun f c ih => ?_) f
  rw [cln_concat, List.length_append]
  split
  · omega
  · rw [List.length_append]
    omega
theorem sl_rai {f : List Rat} (h : SL f) (k : Nat) : SL (rai f k) := by
  intro c hc
  unfold rai at hc
  split at hc
  · cases hc
  · rcases List.mem_append.mp hc with hc | hc
    · rw [List.eq_of_mem_replicate hc]
      exact S.zero
    · exact h c hc
theorem evN_shift (h : Nat → Rat) (x : Rat) : ∀ n, evN h x (n + 1) = evN (fun i => h (i + 1)) x n * x + h 0
  | 0 => by simp only [evN]; grind
  | n + 1 => by
    rw [evN, evN_shift h x n]
    simp only [evN]
    grind
theorem ev_evN (f : List Rat) (x : Rat) : ∀ n, f.length ≤ n → ev f x = evN (cf f) x n := by
  induction f with
  | nil =>
    intro n _
    induction n with
    | zero => rfl
    | succ n ih =>
      rw [evN, ← ih (Nat.zero_le _), cf_nil]
      show (0 : Rat) = 0 + 0 * x ^ n
      grind
  | cons c f ih =>
    intro n hn
    cases n with
    | zero => cases hn
    | succ n =>
      rw [evN_shift, ev_cons, ih n (by simpa using hn)]
      have : (fun i => cf (c :: f) (i + 1)) = cf f := funext fun i => cf_cons_succ c f i
      rw [this]
      rfl
theorem evN_add (h g : Nat → Rat) (x : Rat) : ∀ n, evN (fun i => h i + g i) x n = evN h x n + evN g x n
  | 0 => by simp only [evN]; grind
  | n + 1 => by simp only [evN, evN_add h g x n]; grind
theorem evN_sub (h g : Nat → Rat) (x : Rat) : ∀ n, evN (fun i => h i - g i) x n = evN h x n - evN g x n
  | 0 => by simp only [evN]; grind
  | n + 1 => by simp only [evN, evN_sub h g x n]; grind
theorem evN_mul (h : Nat → Rat) (c x : Rat) : ∀ n, evN (fun i => h i * c) x n = evN h x n * c
  | 0 => by simp only [evN]; grind
  | n + 1 => by simp only [evN, evN_mul h c x n]; grind
theorem ev_addP (f g : List Rat) (x : Rat) : ev (addP f g) x = ev f x + ev g x := by
  let n := max (addP f g).length (max f.length g.length)
  rw [ev_evN (addP f g) x n (by omega), ev_evN f x n (by omega), ev_evN g x n (by omega), ← evN_add]
  congr 1
  funext i
  exact cf_addP f g i
theorem ev_subP (f g : List Rat) (x : Rat) : ev (subP f g) x = ev f x - ev g x := by
  let n := max (subP f g).length (max f.length g.length)
  rw [ev_evN (subP f g) x n (by omega), ev_evN f x n (by omega), ev_evN g x n (by omega), ← evN_sub]
  congr 1
  funext i
  exact cf_subP f g i
theorem ev_scl (f : List Rat) (c x : Rat) : ev (scl f c) x = ev f x * c := by
  let n := max (scl f c).length f.length
  rw [ev_evN (scl f c) x n (by omega), ev_evN f x n (by omega), ← evN_mul]
  congr 1
  funext i
  exact cf_scl f c i
theorem ev_rep (k : Nat) (f : List Rat) (x : Rat) : ev (List.replicate k 0 ++ f) x = ev f x * x ^ k := by
  induction k with
  | zero => simp
  | succ k ih =>
    rw [List.replicate_succ, List.cons_append, ev_cons, ih]
    grind
theorem ev_rai (f : List Rat) (k : Nat) (x : Rat) : ev (rai f k) x = ev f x * x ^ k := by
  unfold rai
  by_cases h : f = []
  · subst h
    simp [ev_nil]
  · rw [if_neg h, ev_rep]
theorem ev_pwr (k : Nat) (x : Rat) : ev (pwr k) x = x ^ k := by
  unfold pwr
  rw [ev_rep]
  show ((0 : Rat) * x + 1) * x ^ k = x ^ k
  grind
theorem ev_mulP (f g : List Rat) (x : Rat) : ev (mulP f g) x = ev f x * ev g x := by
  have key : ∀ (g : List Rat) (k : Nat) (acc : List Rat), ev ((g.zipIdx k).foldl (mulF f) acc) x = ev acc x + ev f x * ev g x * x ^ k := by
    intro g
    induction g with
    | nil =>
      intro k acc
      show ev acc x = ev acc x + ev f x * 0 * x ^ k
      grind
    | cons c g ih =>
      intro k acc
      rw [List.zipIdx_cons, List.foldl_cons, ih, mulF, ev_addP, ev_rai, ev_scl, ev_cons]
      grind
  unfold mulP
  rw [key, ev_nil]
  grind
theorem nrm_addP (f g : List Rat) : Nrm (addP f g) := nrm_cln _
theorem nrm_subP (f g : List Rat) : Nrm (subP f g) := nrm_cln _
theorem nrm_scl (f : List Rat) (c : Rat) : Nrm (scl f c) := nrm_cln _
theorem nrm_foldl (f : List Rat) : ∀ (l : List (Rat × Nat)) (acc : List Rat), Nrm acc → Nrm (l.foldl (mulF f) acc)
  | [], _, h => h
  | z :: l, acc, _ => nrm_foldl f l _ (nrm_addP _ _)
theorem nrm_mulP (f g : List Rat) : Nrm (mulP f g) := nrm_foldl f _ [] (.inl rfl)
end M66
/-! Division of polynomials, shared ones, chains: the mirror. -/
namespace M66
def MulOk (f g : List Rat) : Prop := f.length + g.length ≤ 500 ∧ SL f ∧ SL g ∧ ∀ (i : Nat) (c : Rat), g[i]? = some c → SL (scl f c) ∧ SL (mulP f (g.take i)) ∧ (mulP f (g.take i)).length ≤ 1000
def EvOk (f : List Rat) (x : Rat) : Prop := SL f ∧ S x ∧ ∀ i, i ≤ f.length → 0 < i → S (ev (f.drop i) x) ∧ S (ev (f.drop i) x * x)
theorem take_snoc {α : Type} {f : List α} {i : Nat} {c : α} (h : f[i]? = some c) : f.take (i + 1) = f.take i ++ [c] := by
  rw [List.take_add_one, h]
  rfl
theorem mulP_snoc {f g : List Rat} {i : Nat} {c : Rat} (h : g[i]? = some c) : mulP f (g.take (i + 1)) = addP (mulP f (g.take i)) (rai (scl f c) i) := by
  have hi : i < g.length := (List.getElem?_eq_some_iff.mp h).1
  have e : (g.take i).length = i := by rw [List.length_take]; omega
  rw [take_snoc h]
  unfold mulP
  rw [List.zipIdx_append, List.foldl_append, e]
  show mulF f _ (c, 0 + i) = _
  rw [Nat.zero_add]
  rfl
theorem sl_get {f : List Rat} (h : SL f) (i : Nat) : S (cf f i) := by
  by_cases hi : i < f.length
  · rw [cf_lt hi]
    exact h _ (List.getElem_mem hi)
  · rw [cf_of_le (by omega)]
    exact S.zero
theorem szl_get {f : List Rat} {n : Nat} (h0 : 0 < n) (h : SzL n f) (i : Nat) : Sz n (cf f i) := by
  by_cases hi : i < f.length
  · rw [cf_lt hi]
    exact h _ (List.getElem_mem hi)
  · rw [cf_of_le (by omega)]
    exact Sz.zero h0
theorem szl_cln {f : List Rat} {n : Nat} (h : SzL n f) : SzL n (cln f) := by
  intro c hc
  refine h c ?_
  unfold cln at hc
  rw [List.mem_reverse] at hc
  exact List.mem_reverse.mp ((List.dropWhile_sublist _).subset hc)
theorem szl_addP {f g : List Rat} {n m : Nat} (h1 : 0 < n) (h2 : 0 < m) (hf : SzL n f) (hg : SzL m g) : SzL (n + m + 1) (addP f g) := by
  refine szl_cln fun c hc => ?_
  obtain ⟨i, _, rfl⟩ := List.mem_map.mp hc
  exact (szl_get h1 hf i).add (szl_get h2 hg i)
theorem szl_subP {f g : List Rat} {n m : Nat} (h1 : 0 < n) (h2 : 0 < m) (hf : SzL n f) (hg : SzL m g) : SzL (n + m + 1) (subP f g) := by
  refine szl_cln fun c hc => ?_
  obtain ⟨i, _, rfl⟩ := List.mem_map.mp hc
  exact (szl_get h1 hf i).sub (szl_get h2 hg i)
theorem szl_scl {f : List Rat} {c : Rat} {n m : Nat} (hf : SzL n f) (hc : Sz m c) : SzL (n + m) (scl f c) := by
  refine szl_cln fun d hd => ?_
  obtain ⟨i, hi, rfl⟩ := List.mem_map.mp hd
  exact (hf i hi).mul hc
theorem szl_rai {f : List Rat} {n : Nat} (h0 : 0 < n) (hf : SzL n f) (k : Nat) : SzL n (rai f k) := by
  intro c hc
  unfold rai at hc
  split at hc
  · cases hc
  · rcases List.mem_append.mp hc with hc | hc
    · rw [List.eq_of_mem_replicate hc]
      exact Sz.zero h0
    · exact hf c hc
theorem szl_nil {n : Nat} : SzL n [] := fun c hc => nomatch hc
theorem addP_length (f g : List Rat) : (addP f g).length ≤ max f.length g.length := by
  have := cln_length ((List.range (max f.length g.length)).map fun i => cf f i + cf g i)
  rwa [List.length_map, List.length_range] at this
theorem subP_length (f g : List Rat) : (subP f g).length ≤ max f.length g.length := by
  have := cln_length ((List.range (max f.length g.length)).map fun i => cf f i - cf g i)
  rwa [List.length_map, List.length_range] at this
theorem scl_length (f : List Rat) (c : Rat) : (scl f c).length ≤ f.length := by
  have := cln_length (f.map (· * c))
  rwa [List.length_map] at this
theorem rai_length (f : List Rat) (k : Nat) : (rai f k).length ≤ f.length + k := by
  unfold rai
  split
  · exact Nat.zero_le _
  · rw [List.length_append, List.length_replicate]
    omega
theorem mul_take_len (f g : List Rat) : ∀ i, (mulP f (g.take i)).length ≤ f.length + i
  | 0 => Nat.zero_le _
  | i + 1 => by
    cases h : g[i]? with
    | none =>
      have e : g.length ≤ i := List.getElem?_eq_none_iff.mp h
      rw [List.take_of_length_le (by omega), ← List.take_of_length_le (l := g) (i := i) e]
      have := mul_take_len f g i
      omega
    | some c =>
      rw [mulP_snoc h]
      have h1 := addP_length (mulP f (g.take i)) (rai (scl f c) i)
      have h2 := mul_take_len f g i
      have h3 := rai_length (scl f c) i
      have h4 := scl_length f c
      omega
theorem mulP_length (f g : List Rat) : (mulP f g).length ≤ f.length + g.length := by
  have := mul_take_len f g g.length
  rwa [List.take_length] at this
/-- sizes of the partial sums of a product -/
theorem szl_mul_take {f g : List Rat} {n m : Nat} (h1 : 0 < n) (h2 : 0 < m) (hf : SzL n f) (hg : SzL m g) : ∀ i, SzL (1 + i * (n + m + 1)) (mulP f (g.take i))
  | 0 => fun c hc => nomatch hc
  | i + 1 => by
    cases h : g[i]? with
    | none =>
      have e : g.length ≤ i := List.getElem?_eq_none_iff.mp h
      rw [List.take_of_length_le (by omega), ← List.take_of_length_le (l := g) (i := i) e]
      exact (szl_mul_take h1 h2 hf hg i).mono (by rw [Nat.add_mul]; omega)
    | some c =>
      rw [mulP_snoc h]
      have ih := szl_mul_take h1 h2 hf hg i
      refine (szl_addP (by omega) (by omega) ih (szl_rai (by omega) (szl_scl hf (hg c (List.mem_of_getElem? h))) i)).mono ?_
      rw [Nat.add_mul]
      omega
theorem szl_mulP {f g : List Rat} {n m : Nat} (h1 : 0 < n) (h2 : 0 < m) (hf : SzL n f) (hg : SzL m g) : SzL (1 + g.length * (n + m + 1)) (mulP f g) := by
  have := szl_mul_take h1 h2 hf hg g.length
  rwa [List.take_length] at this
theorem mulOk {f g : List Rat} {n m : Nat} (hl : f.length + g.length ≤ 500) (h1 : 0 < n) (h2 : 0 < m) (hf : SzL n f) (hg : SzL m g) (hb : 1 + g.length * (n + m + 1) + n + m ≤ BIG) : MulOk f g := by
  refine ⟨hl, hf.sl (by omega), hg.sl (by omega), fun i c hc => ?_⟩
  have hi : i < g.length := (List.getElem?_eq_some_iff.mp hc).1
  refine ⟨(szl_scl hf (hg c (List.mem_of_getElem? hc))).sl (by omega), (szl_mul_take h1 h2 hf hg i).sl ?_, ?_⟩
  · have : i * (n + m + 1) ≤ g.length * (n + m + 1) := Nat.mul_le_mul_right _ (Nat.le_of_lt hi)
    omega
  · have := mul_take_len f g i
    omega
/-- sizes along Horner -/
theorem sz_ev {f : List Rat} {x : Rat} {n m : Nat} (h1 : 0 < n) (h2 : 0 < m) (hf : SzL n f) (hx : Sz m x) : Sz (1 + f.length * (n + m + 1)) (ev f x) := by
  induction f with
  | nil => exact Sz.zero (by omega)
  | cons c f ih =>
    rw [ev_cons]
    have h3 := ih fun d hd => hf d (List.mem_cons_of_mem _ hd)
    refine ((h3.mul hx).add (hf c List.mem_cons_self)).mono ?_
    rw [List.length_cons, Nat.add_mul]
    omega
theorem evOk {f : List Rat} {x : Rat} {n m : Nat} (h1 : 0 < n) (h2 : 0 < m) (hf : SzL n f) (hx : Sz m x) (hb : 1 + f.length * (n + m + 1) + m + n ≤ BIG) : EvOk f x := by
  refine ⟨hf.sl (by omega), hx.s (by omega), fun i hi h0 => ?_⟩
  have h3 := sz_ev h1 h2 (f := f.drop i) (fun d hd => hf d (List.mem_of_mem_drop hd)) hx
  have h4 : (f.drop i).length * (n + m + 1) ≤ f.length * (n + m + 1) := Nat.mul_le_mul_right _ (by rw [List.length_drop]; omega)
  exact ⟨h3.s (by omega), (h3.mul hx).s (by omega)⟩

/-! products with a number times a power of x -/
theorem pwr_nrm (k : Nat) : Nrm (pwr k) := .inr (by
  unfold pwr lst
  rw [List.getLastD_concat]
  decide)
theorem cf_pwr (k i : Nat) : cf (pwr k) i = if i = k then 1 else 0 := by
  unfold pwr
  by_cases h : i < k
  · rw [cf_lt (by rw [List.length_append, List.length_replicate]; omega), List.getElem_append_left (by rw [List.length_replicate]; exact h), if_neg (by omega)]
    simp
  · by_cases h2 : i = k
    · subst h2
      rw [cf_lt (by rw [List.length_append, List.length_replicate]; exact Nat.lt_succ_self _), List.getElem_append_right (by simp), if_pos rfl]
      simp
    · rw [cf_of_le (by rw [List.length_append, List.length_replicate]; show k + 1 ≤ i; omega), if_neg h2]
theorem mul_zero_take {f g : List Rat} : ∀ i, (∀ j, j < i → cf g j = 0) → mulP f (g.take i) = []
  | 0, _ => rfl
  | i + 1, h => by
    have ih := mul_zero_take (f := f) i fun j hj => h j (by omega)
    cases e : g[i]? with
    | none =>
      have e2 : g.length ≤ i := List.getElem?_eq_none_iff.mp e
      rw [List.take_of_length_le (by omega), ← List.take_of_length_le (l := g) (i := i) e2]
      exact ih
    | some c =>
      have hc : c = 0 := by
        have h1 := h i (by omega)
        have hi := (List.getElem?_eq_some_iff.mp e).1
        rw [cf_lt hi] at h1
        rw [List.getElem?_eq_getElem hi] at e
        injection e with e
        rw [← e, h1]
      rw [mulP_snoc e, ih, hc]
      have h2 : rai (scl f 0) i = [] := nrm_ext (nrm_rai (nrm_scl f 0) i) (.inl rfl) fun j => by
        rw [cf_rai, cf_scl, cf_nil]
        split <;> grind
      rw [h2]
      rfl
theorem scl_pwr_cf (k i : Nat) (c : Rat) : cf (scl (pwr k) c) i = if i = k then c else 0 := by
  rw [cf_scl, cf_pwr]
  split <;> grind
theorem mul_mono (g : List Rat) (k : Nat) (c : Rat) : mulP g (scl (pwr k) c) = rai (scl g c) k := by
  by_cases h0 : c = 0
  · subst h0
    have e : scl (pwr k) 0 = [] := nrm_ext (nrm_scl _ _) (.inl rfl) fun i => by
      rw [scl_pwr_cf, cf_nil]
      split <;> rfl
    rw [e]
    refine nrm_ext (.inl rfl) (nrm_rai (nrm_scl g 0) k) fun i => ?_
    rw [show mulP g [] = [] from rfl, cf_rai, cf_scl, cf_nil]
    split <;> grind
  · have hl : (scl (pwr k) c).length = k + 1 := by
      have h1 := scl_length (pwr k) c
      have h2 : (pwr k).length = k + 1 := by unfold pwr; rw [List.length_append, List.length_replicate]; rfl
      apply Nat.le_antisymm (by omega)
      apply Nat.le_of_not_lt
      intro h
      have h3 := scl_pwr_cf k k c
      rw [cf_of_le (by omega), if_pos rfl] at h3
      exact h0 h3.symm
    have hk : (scl (pwr k) c)[k]? = some c := by
      have h3 := scl_pwr_cf k k c
      rw [cf_lt (by omega), if_pos rfl] at h3
      rw [List.getElem?_eq_getElem (by omega), h3]
    have e := mulP_snoc (f := g) hk
    rw [List.take_of_length_le (by omega), mul_zero_take k fun j hj => by rw [scl_pwr_cf, if_neg (by omega)]] at e
    rw [e]
    refine nrm_ext (nrm_addP _ _) (nrm_rai (nrm_scl g c) k) fun i => ?_
    rw [cf_addP, cf_nil]
    grind
theorem mulOk_mono {g : List Rat} {c : Rat} {k n m : Nat} (hl : g.length + k ≤ 400) (h1 : 0 < n) (h2 : 0 < m) (hg : SzL n g) (hc : Sz m c) (hb : n + m ≤ BIG) : MulOk g (scl (pwr k) c) := by
  have hl2 := scl_length (pwr k) c
  have hl3 : (pwr k).length = k + 1 := by unfold pwr; rw [List.length_append, List.length_replicate]; rfl
  have hs : SzL m (scl (pwr k) c) := fun d hd => by
    obtain ⟨i, hi, rfl⟩ := List.getElem_of_mem hd
    have := scl_pwr_cf k i c
    rw [cf_lt hi] at this
    rw [this]
    split
    · exact hc
    · exact Sz.zero h2
  refine ⟨by omega, hg.sl (by omega), hs.sl (by omega), fun i d hd => ?_⟩
  have hi : i < (scl (pwr k) c).length := (List.getElem?_eq_some_iff.mp hd).1
  refine ⟨(szl_scl hg (hs d (List.mem_of_getElem? hd))).sl (by omega), ?_⟩
  rw [mul_zero_take i fun j hj => by rw [scl_pwr_cf, if_neg (by omega)]]
  exact ⟨fun c hc => (nomatch hc), Nat.zero_le _⟩

/-! division -/
def divC (g r : List Rat) : Rat := lst r / lst g
def divPt (g r : List Rat) : List Rat := scl (pwr (r.length - g.length)) (divC g r)
def partF (g : List Rat) : Nat → List Rat → List Rat → List Rat × List Rat
  | 0, q, r => (q, r)
  | n + 1, q, r => if g.length ≤ r.length then partF g n (addP q (divPt g r)) (subP r (mulP g (divPt g r))) else (q, r)
def partP (f g : List Rat) : List Rat × List Rat := partF g (f.length + 1) [] f
/-- the sizes that division asks -/
def PartOk (g : List Rat) : Nat → List Rat → List Rat → Prop
  | 0, _, _ => True
  | n + 1, q, r => g.length ≤ r.length → S (lst r) ∧ S (lst g) ∧ S (divC g r) ∧ SL q ∧ SL (divPt g r) ∧ MulOk g (divPt g r) ∧ SL r ∧ SL (mulP g (divPt g r)) ∧ PartOk g n (addP q (divPt g r)) (subP r (mulP g (divPt g r)))
theorem len_le_of_cf {f : List Rat} {n : Nat} (hf : Nrm f) (h : ∀ i, n ≤ i → cf f i = 0) : f.length ≤ n := by
  apply Nat.le_of_not_lt
  intro hlt
  rcases hf with hf | hf
  · rw [hf] at hlt
    exact Nat.not_lt_zero _ hlt
  · have hne : f ≠ [] := by
      intro z
      rw [z] at hlt
      exact Nat.not_lt_zero _ hlt
    rw [lst_eq hne] at hf
    exact hf (h _ (by omega))
theorem part_less {g r : List Rat} (hg : g ≠ []) (h0 : lst g ≠ 0) (hl : g.length ≤ r.length) : (subP r (mulP g (divPt g r))).length < r.length := by
  have hgl : 0 < g.length := List.length_pos_iff.mpr hg
  have hr : r ≠ [] := by
    intro z
    rw [z] at hl
    simp at hl
    exact hg hl
  have : (subP r (mulP g (divPt g r))).length ≤ r.length - 1 := by
    refine len_le_of_cf (nrm_subP _ _) fun i hi => ?_
    unfold divPt
    rw [cf_subP, mul_mono, cf_rai, if_neg (by omega), cf_scl]
    by_cases h : i = r.length - 1
    · have e : i - (r.length - g.length) = g.length - 1 := by omega
      rw [e, ← lst_eq hg, h, ← lst_eq hr]
      unfold divC
      grind
    · rw [cf_of_le (f := r) (by omega), cf_of_le (f := g) (by omega)]
      grind
  omega
theorem part_stop {g : List Rat} (hg : g ≠ []) (h0 : lst g ≠ 0) : ∀ (n : Nat) (q r : List Rat), r.length < n → ∀ m, partF g (n + m) q r = partF g n q r
  | 0, _, _, h, _ => absurd h (Nat.not_lt_zero _)
  | n + 1, q, r, h, m => by
    rw [show n + 1 + m = (n + m) + 1 by omega]
    unfold partF
    split
    · rename_i hl
      have h1 := part_less hg h0 hl
      exact part_stop hg h0 n _ _ (by omega) m
    · rfl
/-- what division comes to -/
theorem partF_ev {g : List Rat} (x : Rat) : ∀ (n : Nat) (q r : List Rat), ev (partF g n q r).1 x * ev g x + ev (partF g n q r).2 x = ev q x * ev g x + ev r x
  | 0, _, _ => rfl
  | n + 1, q, r => by
    unfold partF
    split
    · rw [partF_ev x n, ev_addP, ev_subP, ev_mulP]
      grind
    · rfl
theorem partF_len {g : List Rat} (hg : g ≠ []) (h0 : lst g ≠ 0) : ∀ (n : Nat) (q r : List Rat), r.length < n → (partF g n q r).2.length < g.length
  | 0, _, _, h => absurd h (Nat.not_lt_zero _)
  | n + 1, q, r, h => by
    unfold partF
    split
    · rename_i hl
      have h1 := part_less hg h0 hl
      exact partF_len hg h0 n _ _ (by omega)
    · show r.length < g.length
      omega
theorem partF_nrm {g : List Rat} : ∀ (n : Nat) (q r : List Rat), Nrm q → Nrm r → Nrm (partF g n q r).1 ∧ Nrm (partF g n q r).2
  | 0, _, _, h1, h2 => ⟨h1, h2⟩
  | n + 1, q, r, h1, h2 => by
    unfold partF
    split
    · exact partF_nrm n _ _ (nrm_addP _ _) (nrm_subP _ _)
    · exact ⟨h1, h2⟩
theorem sz_lst {f : List Rat} {n : Nat} (h0 : 0 < n) (h : SzL n f) : Sz n (lst f) := by
  by_cases hf : f = []
  · rw [hf]
    exact Sz.zero h0
  · rw [lst_eq hf]
    exact szl_get h0 h _
theorem szl_divPt {g r : List Rat} {a m : Nat} (h1 : 0 < a) (h2 : 0 < m) (hr : SzL a r) (hg : SzL m g) : SzL (a + m) (divPt g r) := by
  intro d hd
  obtain ⟨i, hi, rfl⟩ := List.getElem_of_mem hd
  have := scl_pwr_cf (r.length - g.length) i (divC g r)
  have e : (divPt g r)[i] = cf (scl (pwr (r.length - g.length)) (divC g r)) i := (cf_lt hi).symm
  rw [e, this]
  split
  · exact (sz_lst h1 hr).div (sz_lst h2 hg)
  · exact Sz.zero (by omega)
theorem part_sizes {g : List Rat} {m : Nat} (h2 : 0 < m) (hg : SzL m g) : ∀ (n a b : Nat) (q r : List Rat), 0 < a → 0 < b → SzL a r → SzL b q → r.length ≤ 100 → g.length ≤ 100 → 3 ^ n * (a + 3 * m + b + 3) ≤ BIG → PartOk g n q r ∧ SzL (3 ^ n * (a + 3 * m + b + 3)) (partF g n q r).1 ∧ SzL (3 ^ n * (a + 3 * m + b + 3)) (partF g n q r).2
  | 0, a, b, q, r, h1, h3, hr, hq, _, _, _ => ⟨trivial, hq.mono (by omega), hr.mono (by omega)⟩
  | n + 1, a, b, q, r, h1, h3, hr, hq, lr, lg, hB => by
    have hpow : 3 ^ (n + 1) = 3 * 3 ^ n := by rw [Nat.pow_succ, Nat.mul_comm]
    have hpos : 0 < 3 ^ n := Nat.pow_pos (by decide)
    have hge : a + 3 * m + b + 3 ≤ 3 ^ n * (a + 3 * m + b + 3) := Nat.le_mul_of_pos_left _ hpos
    have hB2 : 3 * (3 ^ n * (a + 3 * m + b + 3)) ≤ BIG := by rw [hpow, Nat.mul_assoc] at hB; exact hB
    have hdp := szl_divPt h1 h2 hr hg
    have hmul : SzL (m + (a + m)) (mulP g (divPt g r)) := by
      unfold divPt
      rw [mul_mono]
      exact szl_rai (by omega) (szl_scl hg ((sz_lst h1 hr).div (sz_lst h2 hg))) _
    have hr' : SzL (a + (m + (a + m)) + 1) (subP r (mulP g (divPt g r))) := szl_subP h1 (by omega) hr hmul
    have hq' : SzL (b + (a + m) + 1) (addP q (divPt g r)) := szl_addP h3 (by omega) hq hdp
    have hle : (a + (m + (a + m)) + 1) + 3 * m + (b + (a + m) + 1) + 3 ≤ 3 * (a + 3 * m + b + 3) := by omega
    have hle2 : 3 ^ n * ((a + (m + (a + m)) + 1) + 3 * m + (b + (a + m) + 1) + 3) ≤ 3 ^ (n + 1) * (a + 3 * m + b + 3) := by
      rw [Nat.pow_succ, Nat.mul_assoc]
      exact Nat.mul_le_mul_left _ hle
    by_cases hl : g.length ≤ r.length
    · have lr' : (subP r (mulP g (divPt g r))).length ≤ 100 := by
        have e1 := subP_length r (mulP g (divPt g r))
        have e2 : (mulP g (divPt g r)).length ≤ r.length := by
          unfold divPt
          rw [mul_mono]
          have e3 := rai_length (scl g (divC g r)) (r.length - g.length)
          have e4 := scl_length g (divC g r)
          omega
        omega
      obtain ⟨p1, p2, p3⟩ := part_sizes h2 hg n _ _ (addP q (divPt g r)) (subP r (mulP g (divPt g r))) (by omega) (by omega) hr' hq' lr' lg (Nat.le_trans hle2 hB)
      refine ⟨fun _ => ⟨(sz_lst h1 hr).s (by omega), (sz_lst h2 hg).s (by omega), ((sz_lst h1 hr).div (sz_lst h2 hg)).s (by omega), hq.sl (by omega), hdp.sl (by omega), mulOk_mono (by omega) h2 (by omega) hg ((sz_lst h1 hr).div (sz_lst h2 hg)) (by omega), hr.sl (by omega), hmul.sl (by omega), p1⟩, ?_, ?_⟩
      · unfold partF
        rw [if_pos hl]
        exact p2.mono hle2
      · unfold partF
        rw [if_pos hl]
        exact p3.mono hle2
    · refine ⟨fun h => absurd h hl, ?_, ?_⟩
      · unfold partF
        rw [if_neg hl]
        exact hq.mono (by rw [hpow, Nat.mul_assoc]; omega)
      · unfold partF
        rw [if_neg hl]
        exact hr.mono (by rw [hpow, Nat.mul_assoc]; omega)
/-! the shared polynomial -/
def sharF : Nat → List Rat → List Rat → List Rat
  | 0, one, _ => one
  | n + 1, one, other => if other = [] then one else sharF n other (partP one other).2
def sharP (f g : List Rat) : List Rat := ledP (sharF (g.length + 1) f g)
def SharOk : Nat → List Rat → List Rat → Prop
  | 0, _, _ => True
  | n + 1, one, other => other = [] ∨ (lst other ≠ 0 ∧ one.length ≤ 100 ∧ other.length ≤ 100 ∧ PartOk other (one.length + 1) [] one ∧ SharOk n other (partP one other).2)
end M66
/-! Chains, changes of sign, stretches: the mirror. -/
namespace M66
def chainF : Nat → List Rat → List Rat → List (List Rat)
  | 0, _, _ => []
  | n + 1, a, more => if more = [] then [] else more :: chainF n more (neg (partP a more).2)
def chainP (f : List Rat) : List (List Rat) := f :: chainF (f.length + 1) f (slp f)
def ChainOk : Nat → List Rat → List Rat → Prop
  | 0, _, _ => True
  | n + 1, a, more => more = [] ∨ (lst more ≠ 0 ∧ a.length ≤ 100 ∧ more.length ≤ 100 ∧ more.length < n + 1 ∧ PartOk more (a.length + 1) [] a ∧ SL (partP a more).2 ∧ ChainOk n more (neg (partP a more).2))
def plainP (f : List Rat) : List Rat := (partP f (sharP f (slp f))).1
def PlainOk (f : List Rat) : Prop := SL f ∧ f.length ≤ 100 ∧ SharOk ((slp f).length + 1) f (slp f) ∧ SL (sharF ((slp f).length + 1) f (slp f)) ∧ (sharF ((slp f).length + 1) f (slp f)).length ≤ 1000 ∧
  (sharF ((slp f).length + 1) f (slp f) = [] ∨ lst (sharF ((slp f).length + 1) f (slp f)) ≠ 0) ∧ sharP f (slp f) ≠ [] ∧ lst (sharP f (slp f)) ≠ 0 ∧ (sharP f (slp f)).length ≤ 100 ∧ PartOk (sharP f (slp f)) (f.length + 1) [] f
def signFar (f : List Rat) (side : Int) : Int := if side < 0 ∧ f.length % 2 = 0 then 0 - sgn (lst f) else sgn (lst f)
def sg (x : Option Rat) (side : Int) (f : List Rat) : Int := match x with
  | none => signFar f side
  | some q => sgn (ev f q)
def alt (l : List Int) : Nat := (((l.filter fun s => !decide (s = 0)).zip ((l.filter fun s => !decide (s = 0)).drop 1)).filter fun z => !decide (z.1 = z.2)).length
def chg (ch : List (List Rat)) (x : Option Rat) (side : Int) : Nat := alt (ch.map (sg x side))
def btw (ch : List (List Rat)) (lo hi : Option Rat) : Int := (chg ch lo (-1) : Int) - (chg ch hi 1 : Int)
def ChOk (ch : List (List Rat)) (x : Option Rat) : Prop := ch.length ≤ 1000 ∧ ∀ f ∈ ch, f ≠ [] ∧ ∀ q, x = some q → EvOk f q
def absR (q : Rat) : Rat := if q < 0 then -q else q
def parts (f : List Rat) : List Rat := f.map fun c => absR c / absR (lst f)
def bnd (f : List Rat) : Rat := 1 + tot (parts f)
def BndOk (f : List Rat) : Prop := SL f ∧ f.length ≤ 1000 ∧ f ≠ [] ∧ lst f ≠ 0 ∧ SL (parts f) ∧ (∀ i, i < f.length → S (tot ((parts f).take i))) ∧ S (tot (parts f))
def mid (lo hi : Rat) : Rat := 1 / 2 * (lo + hi)
def MidOk (lo hi : Rat) : Prop := S lo ∧ S hi ∧ S (lo + hi)
def hlv (ch : List (List Rat)) (lo hi : Rat) : Rat × Rat := if btw ch (some lo) (some (mid lo hi)) = 1 then (lo, mid lo hi) else (mid lo hi, hi)
def HlvOk (ch : List (List Rat)) (lo hi : Rat) : Prop := MidOk lo hi ∧ ChOk ch (some lo) ∧ ChOk ch (some (mid lo hi))
/-- how apart goes on below one stretch: what it finds, in how many turns -/
inductive Ap (ch : List (List Rat)) : Rat → Rat → List (Rat × Rat) → Nat → Prop
  | no {lo hi : Rat} : ChOk ch (some lo) → ChOk ch (some hi) → btw ch (some lo) (some hi) < 1 → Ap ch lo hi [] 1
  | one {lo hi : Rat} : ChOk ch (some lo) → ChOk ch (some hi) → btw ch (some lo) (some hi) = 1 → Ap ch lo hi [(lo, hi)] 1
  | more {lo hi : Rat} {l1 l2 : List (Rat × Rat)} {n1 n2 : Nat} : ChOk ch (some lo) → ChOk ch (some hi) → 1 < btw ch (some lo) (some hi) → MidOk lo hi → Ap ch lo (mid lo hi) l1 n1 → Ap ch (mid lo hi) hi l2 n2 → Ap ch lo hi (l1 ++ l2) (n1 + n2 + 1)
/-- how narrowed goes on -/
inductive Nar (ch : List (List Rat)) (w : Rat) : Rat → Rat → Rat → Rat → Nat → Prop
  | stop {lo hi : Rat} : S lo → S hi → S (hi - lo) → ¬ w < hi - lo → Nar ch w lo hi lo hi 0
  | go {lo hi lo' hi' : Rat} {n : Nat} : S lo → S hi → S (hi - lo) → w < hi - lo → HlvOk ch lo hi → Nar ch w (hlv ch lo hi).1 (hlv ch lo hi).2 lo' hi' n → Nar ch w lo hi lo' hi' (n + 1)
end M66
/-! Powers of roots, steps, flocks, back: the mirror. -/
namespace M66
def isum (R l : List Rat) (k : Nat) : Nat → Rat
  | 0 => 0
  | j + 1 => isum R l k j + cf R (R.length - 1 - (j + 1)) * cf l (k - (j + 1))
def rpHere (R l : List Rat) (k : Nat) : Rat := if k ≤ R.length - 1 then isum R l k (min (k - 1) (R.length - 1)) + (k : Rat) * cf R (R.length - 1 - k) else isum R l k (min (k - 1) (R.length - 1))
def rpL (R : List Rat) : Nat → List Rat
  | 0 => [((R.length - 1 : Nat) : Rat)]
  | n + 1 => rpL R n ++ [-1 * rpHere R (rpL R n) (n + 1)]
theorem rpL_length (R : List Rat) : ∀ n, (rpL R n).length = n + 1
  | 0 => rfl
  | n + 1 => by rw [rpL, List.length_append, rpL_length R n]; rfl
/-- the sizes that root_powers asks -/
def RpOk (R : List Rat) (many : Nat) : Prop := SL R ∧ 0 < R.length ∧ R.length ≤ 100 ∧ ∀ n, n + 1 < many → SL (rpL R n) ∧
  (∀ j, j ≤ min n (R.length - 1) → S (isum R (rpL R n) (n + 1) j)) ∧ (∀ j, j < min n (R.length - 1) → S (cf R (R.length - 1 - (j + 1)) * cf (rpL R n) (n + 1 - (j + 1)))) ∧
  (n + 1 ≤ R.length - 1 → S (((n + 1 : Nat) : Rat) * cf R (R.length - 1 - (n + 1)))) ∧ S (rpHere R (rpL R n) (n + 1))
/-- steps -/
abbrev Stp := List Rat × Rat
def lastS (some : List Stp) : Stp := some.getLastD ([], 0)
def prevS (some : List Stp) : Stp := some.dropLast.getLastD ([], 0)
def nst0 (p : List Rat) (t : Rat) : List Rat := subP (rai p 1) (scl p t)
def nstep (some : List Stp) (t : Rat) : List Rat := if 1 < some.length then subP (nst0 (lastS some).1 t) (scl (prevS some).1 ((lastS some).2 / (prevS some).2)) else nst0 (lastS some).1 t
def wor (sums f : List Rat) : List Rat := (f.zip sums).map fun z => z.1 * z.2
def WorOk (sums f : List Rat) : Prop := f.length ≤ sums.length ∧ sums.length ≤ 1000 ∧ SL f ∧ SL sums ∧ SL (wor sums f) ∧ ∀ i, i < (wor sums f).length → S (tot ((wor sums f).take i))
def sqs (sums f g : List Rat) : Rat := tot (wor sums (mulP f g))
def SqOk (sums f g : List Rat) : Prop := MulOk f g ∧ WorOk sums (mulP f g)
def trn (sums : List Rat) (some : List Stp) : Rat := sqs sums (rai (lastS some).1 1) (lastS some).1 / (lastS some).2
def NstOk (some : List Stp) (t : Rat) : Prop := some ≠ [] ∧ SL (lastS some).1 ∧ (lastS some).1.length ≤ 200 ∧ S t ∧ SL (scl (lastS some).1 t) ∧
  (1 < some.length → S (lastS some).2 ∧ S (prevS some).2 ∧ (prevS some).2 ≠ 0 ∧ SL (prevS some).1 ∧ (prevS some).1.length ≤ 200 ∧ S ((lastS some).2 / (prevS some).2) ∧ SL (nst0 (lastS some).1 t) ∧ SL (scl (prevS some).1 ((lastS some).2 / (prevS some).2)))
def TrnOk (sums : List Rat) (some : List Stp) : Prop := some ≠ [] ∧ (lastS some).1.length ≤ 200 ∧ SqOk sums (rai (lastS some).1 1) (lastS some).1 ∧ S (sqs sums (rai (lastS some).1 1) (lastS some).1) ∧ S (lastS some).2 ∧ (lastS some).2 ≠ 0
/-- how steps go on from some, to which end -/
inductive Sts (sums : List Rat) : List Stp → List Stp → Nat → Prop
  | stop {some : List Stp} : some ≠ [] → ¬ (0 < (lastS some).2 ∧ 2 * some.length < sums.length) → Sts sums some some 0
  | go {some res : List Stp} {n : Nat} : some ≠ [] → 0 < (lastS some).2 → 2 * some.length < sums.length → TrnOk sums some → NstOk some (trn sums some) → SqOk sums (nstep some (trn sums some)) (nstep some (trn sums some)) →
      Sts sums (some ++ [(nstep some (trn sums some), sqs sums (nstep some (trn sums some)) (nstep some (trn sums some)))]) res n → Sts sums some res (n + 1)
def st0 (sums : List Rat) : List Stp := [([1], cf sums 0)]
def StsOk (sums : List Rat) (res : List Stp) : Prop := sums ≠ [] ∧ sums.length ≤ 200 ∧ ∃ n, Sts sums (st0 sums) res n
/-- Gauss -/
def rowLess (r o : List Rat) (by_ : Rat) : List Rat := (r.zip o).map fun z => z.1 - z.2 * by_
def RlOk (r o : List Rat) (by_ : Rat) : Prop := SL r ∧ SL o ∧ S by_ ∧ (∀ c ∈ o, S (c * by_)) ∧ r.length ≤ 1000
def rowAt (rows : List (List Rat)) (i : Nat) : List Rat := rows.getD i []
def pivRow (rows : List (List Rat)) (p : Nat) : List Rat := (rowAt rows p).map (· / cf (rowAt rows p) p)
/-- the rows ahead of k done by the row at p -/
def elim (rows : List (List Rat)) (p k : Nat) : List (List Rat) := if k = p then rows else rows.set k (rowLess (rowAt rows k) (rowAt rows p) (cf (rowAt rows k) p))
def elimTo (rows : List (List Rat)) (p : Nat) : Nat → List (List Rat)
  | 0 => rows
  | k + 1 => elim (elimTo rows p k) p k
def gaus (rows : List (List Rat)) (p : Nat) : List (List Rat) := elimTo (rows.set p (pivRow rows p)) p rows.length
def gausTo (rows : List (List Rat)) : Nat → List (List Rat)
  | 0 => rows
  | p + 1 => gaus (gausTo rows p) p
def slv (rows : List (List Rat)) : List Rat := (gausTo rows rows.length).map lst
def GausOk (rows : List (List Rat)) (p : Nat) : Prop := (rowAt rows p).length ≤ 1000 ∧ p < (rowAt rows p).length ∧ cf (rowAt rows p) p ≠ 0 ∧ SL (rowAt rows p) ∧ (∀ k, p ≤ k → k < rows.length → p < (rowAt rows k).length) ∧
  ∀ k, k < rows.length → k ≠ p → p < (rowAt (elimTo (rows.set p (pivRow rows p)) p k) k).length ∧ RlOk (rowAt (elimTo (rows.set p (pivRow rows p)) p k) k) (rowAt (elimTo (rows.set p (pivRow rows p)) p k) p) (cf (rowAt (elimTo (rows.set p (pivRow rows p)) p k) k) p)
def SlvOk (rows : List (List Rat)) : Prop := rows.length ≤ 100 ∧ (∀ p, p < rows.length → GausOk (gausTo rows p) p) ∧ ∀ r ∈ gausTo rows rows.length, r ≠ []
/-- the flock by roots -/
def fbrRows (sums R : List Rat) : List (List Rat) := (List.range (R.length - 1)).map fun k => ((rpL R (2 * (R.length - 1) - 1)).drop k).take (R.length - 1) ++ [cf sums k]
def fbr (sums R : List Rat) : List Rat × List Rat := (R, cln (slv (fbrRows sums R)))
def FbrOk (sums R : List Rat) : Prop := 1 < R.length ∧ R.length ≤ 20 ∧ RpOk R (2 * (R.length - 1)) ∧ R.length - 1 ≤ sums.length ∧ SlvOk (fbrRows sums R)
/-- bars -/
inductive Bar (sums f : List Rat) : Option Nat → Prop
  | none : (∀ k, f.length + k ≤ sums.length → SqOk sums f (pwr k) ∧ sqs sums f (pwr k) = 0) → Bar sums f none
  | some {k : Nat} : f.length + k ≤ sums.length → (∀ j, j ≤ k → SqOk sums f (pwr j)) → (∀ j, j < k → sqs sums f (pwr j) = 0) → sqs sums f (pwr k) ≠ 0 → Bar sums f (some k)
/-- what back tells -/
inductive Bk where
  | below (f : List Rat) | nought (f : List Rat) (k : Nat) | flock (w : List Rat × List Rat)
inductive Back (sums : List Rat) : Bk → Prop
  | below {some : List Stp} : StsOk sums some → (lastS some).2 < 0 → Back sums (.below (lastS some).1)
  | opn {some : List Stp} : StsOk sums some → 0 < (lastS some).2 → sums.length % 2 = 1 → NstOk some 0 → FbrOk sums (nstep some 0) → Back sums (.flock (fbr sums (nstep some 0)))
  | bar {some : List Stp} {k : Nat} : StsOk sums some → (lastS some).2 = 0 → (lastS some).1.length ≤ sums.length → Bar sums (lastS some).1 (Option.some k) → Back sums (.nought (lastS some).1 k)
  | tight {some : List Stp} : StsOk sums some → (lastS some).2 = 0 → (lastS some).1.length ≤ sums.length → Bar sums (lastS some).1 none → FbrOk sums (lastS some).1 → Back sums (.flock (fbr sums (lastS some).1))
end M66
/-! Spots: the mirror. -/
namespace M66
/-- what flock_at tells -/
inductive FlAt (sums : List Rat) (a : Rat) : Option (List Rat × List Rat) → Prop
  | tin {some : List Stp} {w : List Rat × List Rat} : sums.length % 2 = 1 → Back sums (.flock w) → StsOk sums some → EvOk (lastS some).1 a → (lastS some).2 = 0 → ev (lastS some).1 a = 0 → FlAt sums a (Option.some w)
  | tout {some : List Stp} {w : List Rat × List Rat} : sums.length % 2 = 1 → Back sums (.flock w) → StsOk sums some → EvOk (lastS some).1 a → (lastS some).2 = 0 → ev (lastS some).1 a ≠ 0 → FlAt sums a none
  | no {some : List Stp} {w : List Rat × List Rat} : sums.length % 2 = 1 → Back sums (.flock w) → StsOk sums some → EvOk (lastS some).1 a → (lastS some).2 ≠ 0 → ev (lastS some).1 a = 0 → FlAt sums a none
  | opn {some : List Stp} {w : List Rat × List Rat} : sums.length % 2 = 1 → Back sums (.flock w) → StsOk sums some → EvOk (lastS some).1 a → (lastS some).2 ≠ 0 → ev (lastS some).1 a ≠ 0 → NstOk some 0 → EvOk (nstep some 0) a →
      S (ev (nstep some 0) a) → S (ev (lastS some).1 a) → NstOk some (ev (nstep some 0) a / ev (lastS some).1 a) → FbrOk sums (nstep some (ev (nstep some 0) a / ev (lastS some).1 a)) →
      FlAt sums a (Option.some (fbr sums (nstep some (ev (nstep some 0) a / ev (lastS some).1 a))))
/-- the kernel at a -/
def lsA (a : Rat) (acc : List Rat) (s : Stp) : List Rat := addP acc (scl s.1 (ev s.1 a / s.2))
def lsF (a : Rat) (some : List Stp) : List Rat := some.foldl (lsA a) []
def LsOk (some : List Stp) (a : Rat) : Prop := (∀ (i : Nat) (s : Stp), some[i]? = Option.some s → EvOk s.1 a ∧ S (ev s.1 a) ∧ S s.2 ∧ s.2 ≠ 0 ∧ SL s.1 ∧ s.1.length ≤ 1000 ∧ S (ev s.1 a / s.2) ∧ SL (lsF a (some.take i)) ∧ (lsF a (some.take i)).length ≤ 1000 ∧ SL (scl s.1 (ev s.1 a / s.2))) ∧
  EvOk (lsF a some) a ∧ S (ev (lsF a some) a) ∧ ev (lsF a some) a ≠ 0 ∧ (lsF a some).length ≤ 1000 ∧ S (1 / ev (lsF a some) a)
def lsN (a : Rat) (some : List Stp) : Rat := 1 / ev (lsF a some) a
def lsP (a : Rat) (some : List Stp) : List Rat := scl (lsF a some) (lsN a some)
inductive LsAt (sums : List Rat) (a : Rat) : Rat → List Rat → Prop
  | out {some : List Stp} {w : List Rat × List Rat} : Back sums (.flock w) → StsOk sums some → (lastS some).2 = 0 → EvOk (lastS some).1 a → S (ev (lastS some).1 a) → ev (lastS some).1 a ≠ 0 → (lastS some).1.length ≤ 1000 → S (1 / ev (lastS some).1 a) → LsAt sums a 0 (scl (lastS some).1 (1 / ev (lastS some).1 a))
  | inn {some : List Stp} {w : List Rat × List Rat} : Back sums (.flock w) → StsOk sums some → (lastS some).2 = 0 → EvOk (lastS some).1 a → ev (lastS some).1 a = 0 → LsOk some.dropLast a → LsAt sums a (lsN a some.dropLast) (lsP a some.dropLast)
  | opn {some : List Stp} {w : List Rat × List Rat} : Back sums (.flock w) → StsOk sums some → (lastS some).2 ≠ 0 → LsOk some a → LsAt sums a (lsN a some) (lsP a some)
def HmOk (f : List Rat) (hi : Option Rat) : Prop := f ≠ [] ∧ PlainOk f ∧ plainP f ≠ [] ∧ SL (plainP f) ∧ (plainP f).length ≤ 100 ∧ ChainOk ((plainP f).length + 1) (plainP f) (slp (plainP f)) ∧ ChOk (chainP (plainP f)) none ∧ ChOk (chainP (plainP f)) hi
/-- weight_up_to -/
def steepP (w : List Rat × List Rat) : Rat := 1 + ev ((slp w.2).map absR) (bnd w.1)
def wideP (w : List Rat × List Rat) (width : Rat) (k : Nat) : Rat := width / (((2 * k : Nat) : Rat) * steepP w)
def offP (w : List Rat × List Rat) (width : Rat) (k : Nat) : Rat := (k : Rat) * (wideP w width k * steepP w)
def endsP (l : List ((Rat × Rat) × (Rat × Rat))) (k : Nat) : List Rat := (l.map fun z => z.2.2).take k
def fndP (w : List Rat × List Rat) (l : List ((Rat × Rat) × (Rat × Rat))) (k : Nat) : List Rat := (endsP l k).map (ev w.2)
end M66
/-! The law's own helpers: the mirror. -/
namespace M66
def StOk (x : Int) (b : Bool) : Prop := b = true ∨ x.natAbs ≤ 2147483647
def nx1 (x : Int) : Int := (x * 48271 + 29).fmod 2147483647
def mx1 (y : Int) : Int := (y * y + 39373 * y + 7).fmod 2147483629
def mx2 (m : Int) : Int := (m * m + 16807 * m).fmod 2147483587
def takeV (x : Int) (b : Bool) (m : Int) : Int := if b then x.fmod m else ((mx2 (mx1 (nx1 x))).fdiv 8).fmod m
def takeX (x : Int) (b : Bool) (m : Int) : Int := if b then x.fdiv m else nx1 x
theorem fmod_rng {x m : Int} (h : 0 < m) : 0 ≤ x.fmod m ∧ x.fmod m < m := by
  rw [Int.fmod_eq_emod_of_nonneg _ (Int.le_of_lt h)]
  exact ⟨Int.emod_nonneg _ (by omega), Int.emod_lt_of_pos _ h⟩
theorem takeV_rng {x : Int} {b : Bool} {m : Int} (h : 0 < m) : 0 ≤ takeV x b m ∧ takeV x b m < m := by
  unfold takeV
  split <;> exact fmod_rng h
theorem nx1_rng (x : Int) : (nx1 x).natAbs ≤ 2147483647 := by
  have := fmod_rng (x := x * 48271 + 29) (m := 2147483647) (by decide)
  unfold nx1
  omega
theorem takeX_ok {x : Int} {b : Bool} {m : Int} (h : StOk x b) : StOk (takeX x b m) b := by
  unfold takeX StOk at *
  rcases h with h | h
  · exact .inl h
  · by_cases hb : b = true
    · exact .inl hb
    · rw [if_neg hb]
      exact .inr (nx1_rng x)
def smallV (x : Int) (b : Bool) : Int := takeV x b 13 - 6
def aboveV (x : Int) (b : Bool) : Int := 1 + takeV x b 6
theorem smallV_rng (x : Int) (b : Bool) : -6 ≤ smallV x b ∧ smallV x b ≤ 6 := by
  have := takeV_rng (x := x) (b := b) (m := 13) (by decide)
  unfold smallV
  omega
theorem aboveV_rng (x : Int) (b : Bool) : 1 ≤ aboveV x b ∧ aboveV x b ≤ 6 := by
  have := takeV_rng (x := x) (b := b) (m := 6) (by decide)
  unfold aboveV
  omega
/-- a crowd of whole spots, whole weights -/
abbrev ICr := List (Int × Int)
def crowdF (b : Bool) : Nat → Int → Int → ICr × Int
  | 0, x, _ => ([], x)
  | n + 1, x, s => ((s, aboveV x b) :: (crowdF b n (takeX (takeX x b 6) b 6) (s + aboveV (takeX x b 6) b)).1, (crowdF b n (takeX (takeX x b 6) b 6) (s + aboveV (takeX x b 6) b)).2)
def crowdP (x : Int) (b : Bool) (most : Nat) : ICr × Int := crowdF b (takeV (takeX x b 13) b ((most : Int) + 1)).toNat (takeX (takeX x b 13) b ((most : Int) + 1)) (smallV x b)
def spotCrowd (x : Int) (b : Bool) (most : Nat) : ICr × Int :=
  if (crowdP x b most).1 = [] then ([(smallV (crowdP x b most).2 b, aboveV (takeX (crowdP x b most).2 b 13) b)], takeX (takeX (crowdP x b most).2 b 13) b 6) else crowdP x b most
theorem crowdF_ok {b : Bool} : ∀ {n : Nat} {x s : Int}, StOk x b → StOk (crowdF b n x s).2 b
  | 0, _, _, h => h
  | n + 1, _, _, h => crowdF_ok (n := n) (takeX_ok (takeX_ok h))
theorem crowdP_ok {b : Bool} {x : Int} {most : Nat} (h : StOk x b) : StOk (crowdP x b most).2 b := crowdF_ok (takeX_ok (takeX_ok h))
theorem spotCrowd_ok {b : Bool} {x : Int} {most : Nat} (h : StOk x b) : StOk (spotCrowd x b most).2 b := by
  unfold spotCrowd
  split
  · exact takeX_ok (takeX_ok (crowdP_ok h))
  · exact crowdP_ok h
/-- the crowds of the law -/
def CrOk (C : ICr) : Prop := (∃ x w : Int, C = [(x, w)] ∧ -6 ≤ x ∧ x ≤ 6 ∧ 1 ≤ w ∧ w ≤ 6) ∨ (∃ x w d w2 : Int, C = [(x, w), (x + d, w2)] ∧ -6 ≤ x ∧ x ≤ 6 ∧ 1 ≤ w ∧ w ≤ 6 ∧ 1 ≤ d ∧ d ≤ 6 ∧ 1 ≤ w2 ∧ w2 ≤ 6) ∨
  ∃ x w d w2 d2 w3 : Int, C = [(x, w), (x + d, w2), (x + d + d2, w3)] ∧ -6 ≤ x ∧ x ≤ 6 ∧ 1 ≤ w ∧ w ≤ 6 ∧ 1 ≤ d ∧ d ≤ 6 ∧ 1 ≤ w2 ∧ w2 ≤ 6 ∧ 1 ≤ d2 ∧ d2 ≤ 6 ∧ 1 ≤ w3 ∧ w3 ≤ 6
theorem spotCrowd_cr {b : Bool} {x : Int} : CrOk (spotCrowd x b 3).1 := by
  unfold spotCrowd
  split
  · have h1 := smallV_rng (crowdP x b 3).2 b
    have h2 := aboveV_rng (takeX (crowdP x b 3).2 b 13) b
    exact .inl ⟨_, _, rfl, h1.1, h1.2, h2.1, h2.2⟩
  · rename_i hne
    have h1 := smallV_rng x b
    unfold crowdP at hne ⊢
    have hr := takeV_rng (x := takeX x b 13) (b := b) (m := ((3 : Nat) : Int) + 1) (by decide)
    generalize hn : (takeV (takeX x b 13) b (((3 : Nat) : Int) + 1)).toNat = n at *
    have hn3 : n ≤ 3 := by omega
    generalize takeX (takeX x b 13) b (((3 : Nat) : Int) + 1) = y at *
    match n, hn3, hne with
    | 0, _, hne => exact absurd rfl hne
    | 1, _, _ =>
      have h2 := aboveV_rng y b
      exact .inl ⟨_, _, rfl, h1.1, h1.2, h2.1, h2.2⟩
    | 2, _, _ =>
      have h2 := aboveV_rng y b
      have h3 := aboveV_rng (takeX y b 6) b
      have h4 := aboveV_rng (takeX (takeX y b 6) b 6) b
      exact .inr (.inl ⟨_, _, _, _, rfl, h1.1, h1.2, h2.1, h2.2, h3.1, h3.2, h4.1, h4.2⟩)
    | 3, _, _ =>
      have h2 := aboveV_rng y b
      have h3 := aboveV_rng (takeX y b 6) b
      have h4 := aboveV_rng (takeX (takeX y b 6) b 6) b
      have h5 := aboveV_rng (takeX (takeX (takeX y b 6) b 6) b 6) b
      have h6 := aboveV_rng (takeX (takeX (takeX (takeX y b 6) b 6) b 6) b 6) b
      exact .inr (.inr ⟨_, _, _, _, _, _, rfl, h1.1, h1.2, h2.1, h2.2, h3.1, h3.2, h4.1, h4.2, h5.1, h5.2, h6.1, h6.2⟩)
    | n + 4, h, _ => exact absurd h (by omega)
/-- as fractions -/
def crR (C : ICr) : List (Rat × Rat) := C.map fun z => ((z.1 : Rat), (z.2 : Rat))
def powsC (C : ICr) (k : Nat) : List Rat := C.map fun z => (z.2 : Rat) * (z.1 : Rat) ^ k
def sumsC (C : ICr) (m : Nat) : List Rat := (List.range m).map fun k => tot (powsC C k)
def SumsOk (C : ICr) (m : Nat) : Prop := C.length ≤ 100 ∧ m ≤ 100 ∧ (∀ z ∈ C, S (z.1 : Rat)) ∧ ∀ k, k < m → SL (powsC C k) ∧ ∀ i, i ≤ C.length → S (tot ((powsC C k).take i))
def belS (a : Rat) (acc : Rat) (z : Int × Int) : Rat := if (z.1 : Rat) < a then acc + (z.2 : Rat) else acc
def upS (a : Rat) (acc : Rat) (z : Int × Int) : Rat := if a < (z.1 : Rat) then acc else acc + (z.2 : Rat)
def belC (C : ICr) (a : Rat) : Rat := C.foldl (belS a) 0
def upC (C : ICr) (a : Rat) : Rat := C.foldl (upS a) 0
def WgOk (C : ICr) (a : Rat) : Prop := C.length ≤ 100 ∧ S a ∧ (∀ z ∈ C, S (z.1 : Rat) ∧ S (z.2 : Rat)) ∧ ∀ i, i ≤ C.length → S (belC (C.take i) a) ∧ S (upC (C.take i) a)
/-- the number that is too much -/
def tmN (n : Rat) (more : Int) : Rat := Rat.divInt ((n.num * more).fdiv n.den + 1) more
def tmAt (c a : Rat) (k : Nat) : Rat := c * a ^ k
def tmL (sums : List Rat) (c a : Rat) : List Rat := sums.zipIdx.map fun z => z.1 - tmAt c a z.2
end M66
/-! What the law asks of the plain side. -/
namespace M66
/-- the first sum of a flock -/
def flsL (w : List Rat × List Rat) : List Rat := w.2.zipIdx.map fun z => z.1 * cf (rpL w.1 w.2.length) z.2
def FlsOk (w : List Rat × List Rat) : Prop := w.2.length ≤ 100 ∧ RpOk w.1 (1 + w.2.length) ∧ SL w.2 ∧ SL (rpL w.1 w.2.length) ∧ SL (flsL w) ∧ ∀ i, i < (flsL w).length → S (tot ((flsL w).take i))
def FsOk (f : List Rat) (l : List (Rat × Rat)) : Prop := PlainOk f ∧ plainP f ≠ [] ∧ SL (plainP f) ∧ (plainP f).length ≤ 100 ∧ ChainOk ((plainP f).length + 1) (plainP f) (slp (plainP f)) ∧ BndOk (plainP f) ∧ S (bnd (plainP f)) ∧ ∃ n, n ≤ 300000 ∧ Ap (chainP (plainP f)) (0 - bnd (plainP f)) (bnd (plainP f)) l n
def SmOk (sums : List Rat) (a : Rat) (f : List Rat) : Prop := (∃ w, Back sums (.flock w)) ∧ f.length ≤ 1000 ∧ Nrm f ∧ 2 * f.length ≤ sums.length + 1 ∧ sums.length ≤ 1000 ∧ EvOk f a ∧ SqOk sums f f
inductive WuAt (w : List Rat × List Rat) (a width : Rat) : Rat → Rat → Prop
  | all {k : Nat} : HmOk w.1 (some a) → btw (chainP (plainP w.1)) none (some a) = (k : Int) → 0 < k → k = w.1.length - 1 → FlsOk w → WuAt w a width (tot (flsL w)) (tot (flsL w))
  | part {k : Nat} {l : List ((Rat × Rat) × (Rat × Rat))} : HmOk w.1 (some a) → btw (chainP (plainP w.1)) none (some a) = (k : Int) → 0 < k → k < w.1.length - 1 → w.1.length ≤ 100 → SL w.2 → w.2.length ≤ 1000 → BndOk w.1 → EvOk ((slp w.2).map absR) (bnd w.1) →
      S (ev ((slp w.2).map absR) (bnd w.1)) → S (steepP w) → steepP w ≠ 0 → S width → S (((2 * k : Nat) : Rat) * steepP w) → FsOk w.1 (l.map (·.1)) → S (wideP w width k) → l.length ≤ 1000 → (∀ z ∈ l, ∃ n, Nar (chainP (plainP w.1)) (wideP w width k) z.1.1 z.1.2 z.2.1 z.2.2 n) →
      (∀ e ∈ endsP l k, EvOk w.2 e) → SL (fndP w l k) → (∀ i, i < (fndP w l k).length → S (tot ((fndP w l k).take i))) → S (tot (fndP w l k)) → S (wideP w width k * steepP w) → S (offP w width k) →
      WuAt w a width (tot (fndP w l k) - offP w width k) (tot (fndP w l k) + offP w width k)
def BdOk (C : ICr) (sums : List Rat) (a width : Rat) : Prop := WgOk C a ∧ ∃ n f, LsAt sums a n f ∧ S n ∧ S (upC C a - belC C a) ∧ ¬ n < upC C a - belC C a ∧ SmOk sums a f ∧ ev f a = 1 ∧ sqs sums f f = n ∧ ∃ r, FlAt sums a r ∧
  (r = none ∨ ∃ w lo hi, r = some w ∧ EvOk w.2 a ∧ ev w.2 a = n ∧ WuAt w a width lo hi ∧ S lo ∧ S hi ∧ S (lo - n) ∧ ¬ hi < upC C a ∧ ¬ belC C a < lo - n)
def notFl : Bk → Prop
  | .flock _ => False
  | _ => True
def TmOk (sums : List Rat) (a : Rat) (more : Int) : Prop := sums.length ≤ 100 ∧ SL sums ∧ S a ∧ 0 < more ∧ more ≤ 1000 ∧ ∃ n f, LsAt sums a n f ∧ S n ∧ (∀ k, k < sums.length → S (tmAt (tmN n more) a k)) ∧ ∃ b, Back (tmL sums (tmN n more) a) b ∧ notFl b
/-- what the plain law must give -/
def WdOk (width : Rat) : Prop := width = 1 ∨ width = 1 / 4 ∨ ∃ i : Int, 1 ≤ i ∧ i ≤ 6 ∧ width = (i : Rat)
def PlainLaw : Prop := ∀ (C : ICr) (j : Nat) (a : Int) (width : Rat), CrOk C → j ≤ 5 → -6 ≤ a → a ≤ 18 → WdOk width → SumsOk C (1 + 2 * j) ∧ BdOk C (sumsC C (1 + 2 * j)) (a : Rat) width ∧ TmOk (sumsC C (1 + 2 * j)) (a : Rat) 64
end M66
/-! Layer W, part 1: deep data, what stands for it in a heap, environments of slots. -/
namespace M66
open PySem PySem.Spec PyProof.Rows L2

/-- deep data; scr: the script, a list of whole numbers that is only read -/
inductive D where
  | non | bl (b : Bool) | int (i : Int) | str (x : Str) | tup (ds : List D) | lst (ds : List D) | scr (ns : List Int)

abbrev OS := Addr → Prop
/-- a tuple of the written part -/
def WrT (K : PySem.W.Frag) (a : Addr) (vs : List V) : Prop := SqT K (fun _ => none) a vs
def WrL (K : PySem.W.Frag) (a : Addr) (vs : List V) : Prop := SqL K (fun _ => none) a vs

mutual
/-- the value stands for the datum; no tracked object that it leans on is owned -/
inductive Dv (K : PySem.W.Frag) (O : OS) (H : Hp) : V → D → Prop
  | non : Dv K O H .non .non
  | bl (b : Bool) : Dv K O H (.bl b) (.bl b)
  | int (i : Int) : Dv K O H (.int i) (.int i)
  | str (x : Str) : Dv K O H (.str x) (.str x)
  | tup {a : Addr} {vs : List V} {ds : List D} : H a = some (.tup vs) → ¬ O a → DvL K O H vs ds → Dv K O H (.ref a) (.tup ds)
  | tupK {a : Addr} {vs : List V} {ds : List D} : WrT K a vs → DvL K O H vs ds → Dv K O H (.ref a) (.tup ds)
  | lst {a : Addr} {vs : List V} {ds : List D} : H a = some (.lst vs) → ¬ O a → DvL K O H vs ds → Dv K O H (.ref a) (.lst ds)
  | scr {a : Addr} {ns : List Int} : Rd H a (.lst (ns.map V.int)) → ¬ O a → Dv K O H (.ref a) (.scr ns)
  | scrK {a : Addr} {ns : List Int} : WrL K a (ns.map V.int) → Dv K O H (.ref a) (.scr ns)
inductive DvL (K : PySem.W.Frag) (O : OS) (H : Hp) : List V → List D → Prop
  | nil : DvL K O H [] []
  | cons {v : V} {vs : List V} {d : D} {ds : List D} : Dv K O H v d → DvL K O H vs ds → DvL K O H (v :: vs) (d :: ds)
end

/-- what is not owned stays, and stays so -/
def FrO (O : OS) (H : Hp) (O' : OS) (H' : Hp) : Prop := ∀ a o, H a = some o → ¬ O a → H' a = some o ∧ ¬ O' a
theorem FrO.refl {O : OS} {H : Hp} : FrO O H O H := fun _ _ h n => ⟨h, n⟩
theorem FrO.trans {O O1 O2 : OS} {H H1 H2 : Hp} (x : FrO O H O1 H1) (y : FrO O1 H1 O2 H2) : FrO O H O2 H2 := fun a o h n =>
  let ⟨h1, n1⟩ := x a o h n
  y a o h1 n1
theorem FrO.of_same {O : OS} {H H' : Hp} (s : Same H H') : FrO O H O H' := fun a o h n => ⟨s a o h, n⟩

mutual
theorem Dv.fr {K : PySem.W.Frag} {O O' : OS} {H H' : Hp} (f : FrO O H O' H') : ∀ {v : V} {d : D}, Dv K O H v d → Dv K O' H' v d
  | _, _, .non => .non
  | _, _, .bl b => .bl b
  | _, _, .int i => .int i
  | _, _, .str x => .str x
  | _, _, .tup h n t => .tup (f _ _ h n).1 (f _ _ h n).2 (DvL.fr f t)
  | _, _, .tupK w t => .tupK w (DvL.fr f t)
  | _, _, .lst h n t => .lst (f _ _ h n).1 (f _ _ h n).2 (DvL.fr f t)
  | _, _, .scr (.inl h) n => .scr (.inl (f _ _ h n).1) (f _ _ h n).2
  | _, _, .scr (.inr ⟨o, h⟩) n => .scr (.inr ⟨o, (f _ _ h n).1⟩) (f _ _ h n).2
  | _, _, .scrK w => .scrK w
theorem DvL.fr {K : PySem.W.Frag} {O O' : OS} {H H' : Hp} (f : FrO O H O' H') : ∀ {vs : List V} {ds : List D}, DvL K O H vs ds → DvL K O' H' vs ds
  | _, _, .nil => .nil
  | _, _, .cons h t => .cons (Dv.fr f h) (DvL.fr f t)
end
theorem Dv.same {K : PySem.W.Frag} {O : OS} {H H' : Hp} (s : Same H H') {v : V} {d : D} (h : Dv K O H v d) : Dv K O H' v d := h.fr (FrO.of_same s)
theorem DvL.same {K : PySem.W.Frag} {O : OS} {H H' : Hp} (s : Same H H') {v : List V} {d : List D} (h : DvL K O H v d) : DvL K O H' v d := h.fr (FrO.of_same s)

section
variable {K : PySem.W.Frag} {O : OS} {H : Hp}
theorem DvL.length : ∀ {vs : List V} {ds : List D}, DvL K O H vs ds → vs.length = ds.length
  | _, _, .nil => rfl
  | _, _, .cons _ t => congrArg (· + 1) t.length
theorem DvL.get : ∀ {vs : List V} {ds : List D} {i : Nat} {d : D}, DvL K O H vs ds → ds[i]? = some d → ∃ v, vs[i]? = some v ∧ Dv K O H v d
  | _, _, _, _, .nil, e => by simp at e
  | _, _, 0, _, .cons h _, e => by
    simp at e
    subst e
    exact ⟨_, rfl, h⟩
  | _, _, i + 1, _, .cons _ t, e => by
    obtain ⟨v, h1, h2⟩ := t.get (i := i) (by simpa using e)
    exact ⟨v, by simpa using h1, h2⟩
theorem DvL.append : ∀ {vs ws : List V} {ds es : List D}, DvL K O H vs ds → DvL K O H ws es → DvL K O H (vs ++ ws) (ds ++ es)
  | _, _, _, _, .nil, s => s
  | _, _, _, _, .cons h t, s => .cons h (t.append s)
theorem DvL.set {v : V} {d : D} (h : Dv K O H v d) : ∀ {vs : List V} {ds : List D} (i : Nat), DvL K O H vs ds → DvL K O H (vs.set i v) (ds.set i d)
  | _, _, _, .nil => .nil
  | _, _, 0, .cons _ t => .cons h t
  | _, _, i + 1, .cons q t => .cons q (DvL.set h i t)
theorem DvL.take : ∀ {vs : List V} {ds : List D} (n : Nat), DvL K O H vs ds → DvL K O H (vs.take n) (ds.take n)
  | _, _, 0, _ => .nil
  | _, _, _ + 1, .nil => .nil
  | _, _, n + 1, .cons h t => .cons h (t.take n)
theorem DvL.drop : ∀ {vs : List V} {ds : List D} (n : Nat), DvL K O H vs ds → DvL K O H (vs.drop n) (ds.drop n)
  | _, _, 0, r => r
  | _, _, _ + 1, .nil => .nil
  | _, _, n + 1, .cons _ t => t.drop n
theorem DvL.of_get : ∀ {vs : List V} {ds : List D}, vs.length = ds.length → (∀ (i : Nat) (v : V) (d : D), vs[i]? = some v → ds[i]? = some d → Dv K O H v d) → DvL K O H vs ds
  | [], [], _, _ => .nil
  | v :: vs, d :: ds, hl, h => .cons (h 0 v d rfl rfl) (DvL.of_get (by simpa using hl) fun i v d h1 h2 => h (i + 1) v d (by simpa using h1) (by simpa using h2))
theorem DvL.reverse {vs : List V} {ds : List D} (h : DvL K O H vs ds) : DvL K O H vs.reverse ds.reverse := by
  have key : ∀ {vs : List V} {ds : List D} {ws : List V} {es : List D}, DvL K O H vs ds → DvL K O H ws es → DvL K O H (vs.reverseAux ws) (ds.reverseAux es) := by
    intro vs
    induction vs with
    | nil =>
      intro ds ws es h q
      cases h
      exact q
    | cons v vs ih =>
      intro ds ws es h q
      cases h with
      | cons h t => exact @ih _ (v :: ws) (_ :: es) t (DvL.cons h q)
  exact key h .nil
theorem DvL.rep {vs : List V} {ds : List D} (h : DvL K O H vs ds) : ∀ k : Nat, DvL K O H (List.replicate k vs).flatten (List.replicate k ds).flatten
  | 0 => .nil
  | k + 1 => by
    rw [List.replicate_succ, List.replicate_succ, List.flatten_cons, List.flatten_cons]
    exact h.append (DvL.rep h k)
theorem WrT.sq {a : Addr} {vs : List V} (w : WrT K a vs) : SqT K H a vs := by
  rcases w with w | w
  · rcases w with w | ⟨o, w⟩
    · cases w
    · cases w
  · exact .inr w
theorem WrL.sq {a : Addr} {vs : List V} (w : WrL K a vs) : SqL K H a vs := by
  rcases w with w | w
  · rcases w with w | ⟨o, w⟩
    · cases w
    · cases w
  · exact .inr w
theorem Dv.tup_inv {v : V} {ds : List D} (h : Dv K O H v (.tup ds)) : ∃ a vs, v = .ref a ∧ SqT K H a vs ∧ DvL K O H vs ds := by
  cases h with
  | tup e n t => exact ⟨_, _, rfl, .inl (.inl e), t⟩
  | tupK w t => exact ⟨_, _, rfl, w.sq, t⟩
theorem Dv.lst_inv {v : V} {ds : List D} (h : Dv K O H v (.lst ds)) : ∃ a vs, v = .ref a ∧ H a = some (.lst vs) ∧ ¬ O a ∧ DvL K O H vs ds := by
  cases h with
  | lst e n t => exact ⟨_, _, rfl, e, n, t⟩
theorem Dv.scr_inv {v : V} {ns : List Int} (h : Dv K O H v (.scr ns)) : ∃ a, v = .ref a ∧ SqL K H a (ns.map V.int) ∧ (¬ O a ∨ WrL K a (ns.map V.int)) := by
  cases h with
  | scr e n => exact ⟨_, rfl, .inl e, .inl n⟩
  | scrK w => exact ⟨_, rfl, w.sq, .inr w⟩
theorem Dv.int_inv {v : V} {i : Int} (h : Dv K O H v (.int i)) : v = .int i := by cases h; rfl
theorem Dv.bl_inv {v : V} {i : Bool} (h : Dv K O H v (.bl i)) : v = .bl i := by cases h; rfl
theorem Dv.str_inv {v : V} {i : Str} (h : Dv K O H v (.str i)) : v = .str i := by cases h; rfl
theorem Dv.non_inv {v : V} (h : Dv K O H v .non) : v = .non := by cases h; rfl
end

/-! ### slots, environments -/
inductive Sl where
  | un | val (d : D) | own (ds : List D) | bor (ds : List D)
/-- a def's call: the written part, what is owned at its entry, the heap there, the one list of the caller's that it may change (slot 0) -/
structure Wd where
  O : OS
  H : Hp
  mu : Option Addr

structure EnvAt (K : PySem.W.Frag) (W : Wd) (O : OS) (H : Hp) (σ : L2.St) (ρ : List Sl) : Prop where
  len : σ.length = ρ.length
  ext : ∀ a o, W.H a = some o → W.mu ≠ some a → H a = some o
  domW : ∀ a, W.O a → ∃ o, W.H a = some o
  dom : ∀ a, O a → ∃ o, H a = some o
  sub : ∀ a, W.O a → O a
  val : ∀ (i : Nat) (d : D), ρ[i]? = some (.val d) → ∃ v, σ[i]? = some (some v) ∧ Dv K O H v d
  own : ∀ (i : Nat) (ds : List D), ρ[i]? = some (.own ds) → ∃ a vs, σ[i]? = some (some (.ref a)) ∧ O a ∧ (W.mu = some a ∨ W.H a = none) ∧ H a = some (.lst vs) ∧ DvL K O H vs ds ∧
    ∀ (j : Nat) (es : List D), j ≠ i → ρ[j]? = some (.own es) → σ[j]? ≠ some (some (.ref a))
  bor : ∀ (i : Nat) (ds : List D), ρ[i]? = some (.bor ds) → ∃ a vs, σ[i]? = some (some (.ref a)) ∧ W.O a ∧ W.mu ≠ some a ∧ W.H a = some (.lst vs) ∧ DvL K O H vs ds
  mu0 : ∀ a, W.mu = some a → W.O a ∧ σ[0]? = some (some (.ref a)) ∧ ∃ ds, ρ[0]? = some (.own ds)

/-- the heap has grown -/
theorem EnvAt.grow {K : PySem.W.Frag} {W : Wd} {O : OS} {H H' : Hp} {σ : L2.St} {ρ : List Sl} (E : EnvAt K W O H σ ρ) (s : Same H H') : EnvAt K W O H' σ ρ where
  len := E.len
  ext := fun a o h n => s a o (E.ext a o h n)
  domW := E.domW
  dom := fun a h => let ⟨o, e⟩ := E.dom a h; ⟨o, s a o e⟩
  sub := E.sub
  val := fun i d h => let ⟨v, e, q⟩ := E.val i d h; ⟨v, e, q.same s⟩
  own := fun i ds h => let ⟨a, vs, e, o, m, q, t, z⟩ := E.own i ds h; ⟨a, vs, e, o, m, s _ _ q, t.same s, z⟩
  bor := fun i ds h => let ⟨a, vs, e, o, m, q, t⟩ := E.bor i ds h; ⟨a, vs, e, o, m, q, t.same s⟩
  mu0 := E.mu0
theorem EnvAt.fresh {K : PySem.W.Frag} {W : Wd} {O : OS} {H : Hp} {σ : L2.St} {ρ : List Sl} (E : EnvAt K W O H σ ρ) {a : Addr} (h : H a = none) : ¬ O a := fun o => by
  obtain ⟨u, e⟩ := E.dom a o
  rw [h] at e
  cases e
theorem EnvAt.freshW {K : PySem.W.Frag} {W : Wd} {O : OS} {H : Hp} {σ : L2.St} {ρ : List Sl} (E : EnvAt K W O H σ ρ) {a : Addr} (h : H a = none) : W.H a = none := by
  cases e : W.H a with
  | none => rfl
  | some o =>
    by_cases m : W.mu = some a
    · exact absurd (E.sub a (E.mu0 a m).1) (E.fresh h)
    · have q := E.ext a o e m
      rw [h] at q
      cases q
theorem EnvAt.bor_now {K : PySem.W.Frag} {W : Wd} {O : OS} {H : Hp} {σ : L2.St} {ρ : List Sl} (E : EnvAt K W O H σ ρ) {i : Nat} {ds : List D} (h : ρ[i]? = some (.bor ds)) :
    ∃ a vs, σ[i]? = some (some (.ref a)) ∧ O a ∧ H a = some (.lst vs) ∧ DvL K O H vs ds := by
  obtain ⟨a, vs, e, o, m, q, t⟩ := E.bor i ds h
  exact ⟨a, vs, e, E.sub _ o, E.ext _ _ q m, t⟩
theorem EnvAt.lt {K : PySem.W.Frag} {W : Wd} {O : OS} {H : Hp} {σ : L2.St} {ρ : List Sl} (E : EnvAt K W O H σ ρ) {i : Nat} {s : Sl} (h : ρ[i]? = some s) : i < σ.length := by
  rw [E.len]
  exact (List.getElem?_eq_some_iff.mp h).1

/-- a list of one's own is changed -/
theorem EnvAt.change {K : PySem.W.Frag} {W : Wd} {O : OS} {H : Hp} {σ : L2.St} {ρ : List Sl} (E : EnvAt K W O H σ ρ) {i : Nat} {ds es : List D} {a : Addr} {ws : List V} (h : ρ[i]? = some (.own ds)) (ha : σ[i]? = some (some (.ref a)))
    (q : DvL K O H ws es) : EnvAt K W O (upd H a (.lst ws)) σ (ρ.set i (.own es)) ∧ FrO O H O (upd H a (.lst ws)) := by
  obtain ⟨a', vs, e, o, m, hh, t, z⟩ := E.own i ds h
  obtain rfl : a = a' := by
    have := ha.symm.trans e
    injection this with this
    injection this with this
    injection this
  have fr : FrO O H O (upd H a (.lst ws)) := fun b u hb n => by
    have nb : b ≠ a := fun z => n (z ▸ o)
    rw [upd_ne nb]
    exact ⟨hb, n⟩
  have hi : i < ρ.length := (List.getElem?_eq_some_iff.mp h).1
  refine ⟨⟨by rw [List.length_set]; exact E.len, fun b u hb nm => ?_, E.domW, fun b ob => ?_, E.sub, fun j d hj => ?_, fun j fs hj => ?_, fun j fs hj => ?_, fun b hb => ?_⟩, fr⟩
  · have nb : b ≠ a := fun zz => by
      rcases m with m | m
      · exact nm (zz ▸ m)
      · rw [zz, m] at hb
        cases hb
    rw [upd_ne nb]
    exact E.ext b u hb nm
  · by_cases nb : b = a
    · exact ⟨_, by rw [nb]; exact upd_same⟩
    · rw [upd_ne nb]
      exact E.dom b ob
  · have nj : j ≠ i := fun zz => by
      rw [zz, List.getElem?_set_self hi] at hj
      cases hj
    rw [List.getElem?_set_ne (Ne.symm nj)] at hj
    obtain ⟨v, e1, e2⟩ := E.val j d hj
    exact ⟨v, e1, e2.fr fr⟩
  · by_cases nj : j = i
    · subst nj
      rw [List.getElem?_set_self hi] at hj
      injection hj with hj
      injection hj with hj
      subst hj
      refine ⟨a, ws, e, o, m, upd_same, q.fr fr, fun k es' nk hk => ?_⟩
      rw [List.getElem?_set_ne (Ne.symm nk)] at hk
      exact z k es' nk hk
    · rw [List.getElem?_set_ne (Ne.symm nj)] at hj
      obtain ⟨b, us, e1, o1, m1, h1, t1, z1⟩ := E.own j fs hj
      have nb : b ≠ a := fun zz => by
        subst zz
        exact z j fs nj hj e1
      refine ⟨b, us, e1, o1, m1, by rw [upd_ne nb]; exact h1, t1.fr fr, fun k es' nk hk => ?_⟩
      by_cases ki : k = i
      · subst ki
        exact z1 k ds nk h
      · rw [List.getElem?_set_ne (Ne.symm ki)] at hk
        exact z1 k es' nk hk
  · have nj : j ≠ i := fun zz => by
      rw [zz, List.getElem?_set_self hi] at hj
      cases hj
    rw [List.getElem?_set_ne (Ne.symm nj)] at hj
    obtain ⟨b, us, e1, o1, m1, h1, t1⟩ := E.bor j fs hj
    exact ⟨b, us, e1, o1, m1, h1, t1.fr fr⟩
  · obtain ⟨w1, w2, es', w3⟩ := E.mu0 b hb
    refine ⟨w1, w2, ?_⟩
    by_cases i0 : i = 0
    · subst i0
      exact ⟨es, List.getElem?_set_self hi⟩
    · rw [List.getElem?_set_ne i0]
      exact ⟨es', w3⟩

/-- slot i gets a datum -/
theorem EnvAt.put {K : PySem.W.Frag} {W : Wd} {O : OS} {H : Hp} {σ : L2.St} {ρ : List Sl} (E : EnvAt K W O H σ ρ) {i : Nat} {v : V} {d : D} (hm : W.mu = none ∨ i ≠ 0) (q : Dv K O H v d) :
    EnvAt K W O H (σ.set i (some v)) (ρ.set i (.val d)) := by
  refine ⟨by rw [List.length_set, List.length_set]; exact E.len, E.ext, E.domW, E.dom, E.sub, fun j e hj => ?_, fun j fs hj => ?_, fun j fs hj => ?_, fun b hb => ?_⟩
  · by_cases nj : j = i
    · subst nj
      have hi : j < ρ.length := by
        have := (List.getElem?_eq_some_iff.mp hj).1
        rwa [List.length_set] at this
      rw [List.getElem?_set_self hi] at hj
      injection hj with hj
      injection hj with hj
      subst hj
      exact ⟨v, List.getElem?_set_self (by rw [E.len]; exact hi), q⟩
    · rw [List.getElem?_set_ne (Ne.symm nj)] at hj ⊢
      exact E.val j e hj
  · have nj : j ≠ i := fun zz => by
      subst zz
      have hi : j < ρ.length := by
        have := (List.getElem?_eq_some_iff.mp hj).1
        rwa [List.length_set] at this
      rw [List.getElem?_set_self hi] at hj
      cases hj
    rw [List.getElem?_set_ne (Ne.symm nj)] at hj ⊢
    obtain ⟨a, vs, e, o, m, hh, t, z⟩ := E.own j fs hj
    refine ⟨a, vs, e, o, m, hh, t, fun k es' nk hk => ?_⟩
    by_cases ki : k = i
    · subst ki
      have hi : k < ρ.length := by
        have := (List.getElem?_eq_some_iff.mp hk).1
        rwa [List.length_set] at this
      rw [List.getElem?_set_self hi] at hk
      cases hk
    · rw [List.getElem?_set_ne (Ne.symm ki)] at hk ⊢
      exact z k es' nk hk
  · have nj : j ≠ i := fun zz => by
      subst zz
      have hi : j < ρ.length := by
        have := (List.getElem?_eq_some_iff.mp hj).1
        rwa [List.length_set] at this
      rw [List.getElem?_set_self hi] at hj
      cases hj
    rw [List.getElem?_set_ne (Ne.symm nj)] at hj ⊢
    exact E.bor j fs hj
  · have i0 : i ≠ 0 := by
      rcases hm with hm | hm
      · rw [hm] at hb
        cases hb
      · exact hm
    rw [List.getElem?_set_ne i0, List.getElem?_set_ne i0]
    exact E.mu0 b hb

/-- a new list, known to nobody, becomes slot i's own -/
theorem EnvAt.keep {K : PySem.W.Frag} {W : Wd} {O : OS} {H H' : Hp} {σ : L2.St} {ρ : List Sl} (E : EnvAt K W O H σ ρ) {i : Nat} {a : Addr} {vs : List V} {ds : List D} (hm : W.mu = none ∨ i ≠ 0) (hi : i < ρ.length)
    (na : H a = none) (s : Same H H') (ha : H' a = some (.lst vs)) (q : DvL K (fun b => O b ∨ b = a) H' vs ds) :
    EnvAt K W (fun b => O b ∨ b = a) H' (σ.set i (some (.ref a))) (ρ.set i (.own ds)) ∧ FrO O H (fun b => O b ∨ b = a) H' := by
  have fr : FrO O H (fun b => O b ∨ b = a) H' := fun b u hb n => ⟨s b u hb, fun z => by
    rcases z with z | z
    · exact n z
    · rw [z, na] at hb
      cases hb⟩
  have ne : ∀ b u, H b = some u → b ≠ a := fun b u hb z => by
    rw [z, na] at hb
    cases hb
  refine ⟨⟨by rw [List.length_set, List.length_set]; exact E.len, fun b u hb nm => s b u (E.ext b u hb nm), E.domW, fun b hb => ?_, fun b hb => .inl (E.sub b hb), fun j e hj => ?_, fun j fs hj => ?_, fun j fs hj => ?_, fun b hb => ?_⟩, fr⟩
  · rcases hb with hb | hb
    · obtain ⟨o, e⟩ := E.dom b hb
      exact ⟨o, s b o e⟩
    · exact ⟨_, by rw [hb]; exact ha⟩
  · have nj : j ≠ i := fun zz => by
      subst zz
      rw [List.getElem?_set_self hi] at hj
      cases hj
    rw [List.getElem?_set_ne (Ne.symm nj)] at hj ⊢
    obtain ⟨v, e1, e2⟩ := E.val j e hj
    exact ⟨v, e1, e2.fr fr⟩
  · by_cases nj : j = i
    · subst nj
      rw [List.getElem?_set_self hi] at hj
      injection hj with hj
      injection hj with hj
      subst hj
      refine ⟨a, vs, List.getElem?_set_self (by rw [E.len]; exact hi), .inr rfl, .inr (E.freshW na), ha, q, fun k es' nk hk => ?_⟩
      rw [List.getElem?_set_ne (Ne.symm nk)] at hk ⊢
      obtain ⟨b, us, e1, o1, m1, h1, t1, z1⟩ := E.own k es' hk
      rw [e1]
      intro z
      injection z with z
      injection z with z
      injection z with z
      exact ne b _ h1 z
    · rw [List.getElem?_set_ne (Ne.symm nj)] at hj ⊢
      obtain ⟨b, us, e1, o1, m1, h1, t1, z1⟩ := E.own j fs hj
      refine ⟨b, us, e1, .inl o1, m1, s _ _ h1, t1.fr fr, fun k es' nk hk => ?_⟩
      by_cases ki : k = i
      · subst ki
        rw [List.getElem?_set_self (by rw [E.len]; exact hi)]
        intro z
        injection z with z
        injection z with z
        injection z with z
        exact ne b _ h1 z.symm
      · rw [List.getElem?_set_ne (Ne.symm ki)] at hk ⊢
        exact z1 k es' nk hk
  · have nj : j ≠ i := fun zz => by
      subst zz
      rw [List.getElem?_set_self hi] at hj
      cases hj
    rw [List.getElem?_set_ne (Ne.symm nj)] at hj ⊢
    obtain ⟨b, us, e1, o1, m1, h1, t1⟩ := E.bor j fs hj
    exact ⟨b, us, e1, o1, m1, h1, t1.fr fr⟩
  · have i0 : i ≠ 0 := by
      rcases hm with hm | hm
      · rw [hm] at hb
        cases hb
      · exact hm
    rw [List.getElem?_set_ne i0, List.getElem?_set_ne i0]
    exact E.mu0 b hb

/-- a list of one's own is given up: from here on it is a datum -/
theorem EnvAt.freeze {K : PySem.W.Frag} {W : Wd} {O : OS} {H : Hp} {σ : L2.St} {ρ : List Sl} (E : EnvAt K W O H σ ρ) {i : Nat} {ds : List D} (hm : W.mu = none ∨ i ≠ 0) (h : ρ[i]? = some (.own ds)) :
    ∃ O', EnvAt K W O' H σ (ρ.set i (.val (.lst ds))) ∧ FrO O H O' H := by
  obtain ⟨a, vs, e, o, m, hh, t, z⟩ := E.own i ds h
  have hi : i < ρ.length := (List.getElem?_eq_some_iff.mp h).1
  have na : W.mu ≠ some a := fun q => by
    rcases hm with hm | hm
    · rw [hm] at q
      cases q
    · obtain ⟨_, q1, es, q2⟩ := E.mu0 a q
      exact z 0 es (Ne.symm hm) q2 q1
  have nW : W.H a = none := m.resolve_left na
  have fr : FrO O H (fun b => O b ∧ b ≠ a) H := fun b u hb n => ⟨hb, fun q => n q.1⟩
  refine ⟨fun b => O b ∧ b ≠ a, ⟨by rw [List.length_set]; exact E.len, E.ext, E.domW, fun b hb => E.dom b hb.1, fun b hb => ⟨E.sub b hb, fun q => ?_⟩, fun j d hj => ?_, fun j fs hj => ?_, fun j fs hj => ?_, fun b hb => ?_⟩, fr⟩
  · obtain ⟨u, hu⟩ := E.domW b hb
    rw [q, nW] at hu
    cases hu
  · by_cases nj : j = i
    · subst nj
      rw [List.getElem?_set_self hi] at hj
      injection hj with hj
      injection hj with hj
      subst hj
      exact ⟨_, e, .lst hh (fun q => q.2 rfl) (t.fr fr)⟩
    · rw [List.getElem?_set_ne (Ne.symm nj)] at hj
      obtain ⟨v, e1, e2⟩ := E.val j d hj
      exact ⟨v, e1, e2.fr fr⟩
  · have nj : j ≠ i := fun zz => by
      subst zz
      rw [List.getElem?_set_self hi] at hj
      cases hj
    rw [List.getElem?_set_ne (Ne.symm nj)] at hj
    obtain ⟨b, us, e1, o1, m1, h1, t1, z1⟩ := E.own j fs hj
    refine ⟨b, us, e1, ⟨o1, fun q => ?_⟩, m1, h1, t1.fr fr, fun k es' nk hk => ?_⟩
    · rw [q] at e1
      exact z j fs nj hj e1
    · by_cases ki : k = i
      · subst ki
        rw [List.getElem?_set_self hi] at hk
        cases hk
      · rw [List.getElem?_set_ne (Ne.symm ki)] at hk
        exact z1 k es' nk hk
  · have nj : j ≠ i := fun zz => by
      subst zz
      rw [List.getElem?_set_self hi] at hj
      cases hj
    rw [List.getElem?_set_ne (Ne.symm nj)] at hj
    obtain ⟨b, us, e1, o1, m1, h1, t1⟩ := E.bor j fs hj
    exact ⟨b, us, e1, o1, m1, h1, t1.fr fr⟩
  · have i0 : i ≠ 0 := by
      rcases hm with hm | hm
      · rw [hm] at hb
        cases hb
      · exact hm
    rw [List.getElem?_set_ne i0]
    exact E.mu0 b hb

/-- slots forgotten: each slot is as it was, or unknown -/
theorem EnvAt.weak {K : PySem.W.Frag} {W : Wd} {O : OS} {H : Hp} {σ σ' : L2.St} {ρ ρ' : List Sl} (E : EnvAt K W O H σ ρ) (hl : σ'.length = ρ'.length) (hw : ∀ (i : Nat) (s : Sl), ρ'[i]? = some s → s ≠ .un → ρ[i]? = some s ∧ σ'[i]? = σ[i]?)
    (hm : W.mu = none) : EnvAt K W O H σ' ρ' where
  len := hl
  ext := E.ext
  domW := E.domW
  dom := E.dom
  sub := E.sub
  val := fun i d h => by
    obtain ⟨h1, h2⟩ := hw i _ h (fun z => by cases z)
    rw [h2]
    exact E.val i d h1
  own := fun i ds h => by
    obtain ⟨h1, h2⟩ := hw i _ h (fun z => by cases z)
    obtain ⟨a, vs, e, o, m, q, t, z⟩ := E.own i ds h1
    refine ⟨a, vs, by rw [h2]; exact e, o, m, q, t, fun j es nj hj => ?_⟩
    obtain ⟨h3, h4⟩ := hw j _ hj (fun z => by cases z)
    rw [h4]
    exact z j es nj h3
  bor := fun i ds h => by
    obtain ⟨h1, h2⟩ := hw i _ h (fun z => by cases z)
    rw [h2]
    exact E.bor i ds h1
  mu0 := fun a h => by
    rw [hm] at h
    cases h
end M66
/-! Layer W, part 2: expressions. -/
namespace M66
open PySem PySem.Spec PyProof.Rows L2

/-- the weakest reading of an expression, a test, arguments -/
def sem (X : Cx) (e : Expr) : TE := fun σ H Q => ∀ pins s, Inv X pins σ H s → wpAny (model X.prog X.w) X.A (eval e X.env) (EP X pins σ Q) X.xe s
def semT (X : Cx) (e : Expr) : TT := fun σ H Q => ∀ pins s, Inv X pins σ H s → wpAny (model X.prog X.w) X.A (isTrue e X.env (eval e X.env)) (TP X pins σ Q) X.xe s
def semA (X : Cx) (es : List Expr) : TA := fun σ H Q => ∀ pos pins s, Inv X pins σ H s → wpAny (model X.prog X.w) X.A (spliced (backTo pos (starEach es X.env))) (AP X pins σ Q) X.xe s
section
variable {X : Cx} {e : Expr} {es : List Expr} {σ : L2.St} {H : Hp}
theorem sem_pe : PE X e (sem X e) := ⟨fun pins s σ H Q I h => h pins s I⟩
theorem of_pe {t : TE} (h : PE X e t) {Q : VK} (q : t σ H Q) : sem X e σ H Q := fun pins s I => h.run pins s σ H Q I q
theorem semT_pt : PT X e (semT X e) := ⟨fun pins s σ H Q I h => h pins s I⟩
theorem of_pt {t : TT} (h : PT X e t) {Q : Bool → Hp → Prop} (q : t σ H Q) : semT X e σ H Q := fun pins s I => h.run pins s σ H Q I q
theorem semA_pa : PA X es (semA X es) := ⟨fun pos pins s σ H Q I h => h pos pins s I⟩
theorem of_pa {t : TA} (h : PA X es t) {Q : List V → Hp → Prop} (q : t σ H Q) : semA X es σ H Q := fun pos pins s I => h.run pos pins s σ H Q I q
end

/-- behind an expression: the environment, what is kept; p: it has changed nothing -/
structure Post (K : PySem.W.Frag) (W : Wd) (O : OS) (σ : L2.St) (p : Bool) (ρ ρ' : List Sl) (H H' : Hp) : Prop where
  env : EnvAt K W O H' σ ρ'
  fr : FrO O H O H'
  pu : p = true → ρ' = ρ ∧ Same H H'
section
variable {K : PySem.W.Frag} {W : Wd} {O : OS} {σ : L2.St} {p : Bool} {ρ ρ1 ρ2 : List Sl} {H H1 H2 : Hp}
theorem Post.refl (E : EnvAt K W O H σ ρ) : Post K W O σ p ρ ρ H H := ⟨E, FrO.refl, fun _ => ⟨rfl, Same.refl H⟩⟩
theorem Post.trans (a : Post K W O σ p ρ ρ1 H H1) (b : Post K W O σ p ρ1 ρ2 H1 H2) : Post K W O σ p ρ ρ2 H H2 :=
  ⟨b.env, a.fr.trans b.fr, fun h => ⟨(b.pu h).1.trans (a.pu h).1, (a.pu h).2.trans (b.pu h).2⟩⟩
theorem Post.grow (a : Post K W O σ p ρ ρ1 H H1) (s : Same H1 H2) : Post K W O σ p ρ ρ1 H H2 :=
  ⟨a.env.grow s, a.fr.trans (FrO.of_same s), fun h => ⟨(a.pu h).1, (a.pu h).2.trans s⟩⟩
end

def Ev (X : Cx) (W : Wd) (p : Bool) (e : Expr) (ρ ρ' : List Sl) (d : D) : Prop :=
  ∀ (O : OS) (σ : L2.St) (H : Hp), EnvAt X.K W O H σ ρ → ∀ Q : VK, (∀ v H', Post X.K W O σ p ρ ρ' H H' → Dv X.K O H' v d → Q v H') → sem X e σ H Q
/-- a new list, known to nobody -/
def EvF (X : Cx) (W : Wd) (p : Bool) (e : Expr) (ρ ρ' : List Sl) (ds : List D) : Prop :=
  ∀ (O : OS) (σ : L2.St) (H : Hp), EnvAt X.K W O H σ ρ → ∀ Q : VK, (∀ a vs H1 H', Post X.K W O σ p ρ ρ' H H1 → Same H1 H' → H1 a = none → H' a = some (.lst vs) → DvL X.K (fun b => O b ∨ b = a) H' vs ds → Q (.ref a) H') → sem X e σ H Q
def EvT (X : Cx) (W : Wd) (p : Bool) (e : Expr) (ρ ρ' : List Sl) (c : Bool) : Prop :=
  ∀ (O : OS) (σ : L2.St) (H : Hp), EnvAt X.K W O H σ ρ → ∀ Q : Bool → Hp → Prop, (∀ H', Post X.K W O σ p ρ ρ' H H' → Q c H') → semT X e σ H Q
inductive Ar where
  | v (d : D) | b (ds : List D)
def ArOk (K : PySem.W.Frag) (O : OS) (H : Hp) (x : V) : Ar → Prop
  | .v d => Dv K O H x d
  | .b ds => ∃ a vs, x = .ref a ∧ O a ∧ H a = some (.lst vs) ∧ DvL K O H vs ds
inductive ArsOk (K : PySem.W.Frag) (O : OS) (H : Hp) : List V → List Ar → Prop
  | nil : ArsOk K O H [] []
  | cons {x : V} {vs : List V} {a : Ar} {as : List Ar} : ArOk K O H x a → ArsOk K O H vs as → ArsOk K O H (x :: vs) (a :: as)
def EvA (X : Cx) (W : Wd) (p : Bool) (es : List Expr) (ρ ρ' : List Sl) (as : List Ar) : Prop :=
  ∀ (O : OS) (σ : L2.St) (H : Hp), EnvAt X.K W O H σ ρ → ∀ Q : List V → Hp → Prop, (∀ vs H', Post X.K W O σ p ρ ρ' H H' → ArsOk X.K O H' vs as → Q vs H') → semA X es σ H Q

section
variable {X : Cx} {W : Wd} {p : Bool} {ρ ρ1 ρ2 ρ3 : List Sl} {e ea eb ec : Expr} {es : List Expr} {d d1 d2 d3 : D} {ds : List D} {as : List Ar} {pos : Pos}

theorem DvL.own {K : PySem.W.Frag} {O : OS} {H : Hp} {a : Addr} (na : H a = none) {vs : List V} (h : DvL K O H vs ds) {o : HO} : DvL K (fun b => O b ∨ b = a) (upd H a o) vs ds :=
  h.fr fun b u hb n => by
    have nb : b ≠ a := ne_of_none hb na
    exact ⟨by rw [upd_ne nb]; exact hb, fun z => z.elim n nb⟩
theorem same_new {H : Hp} {a : Addr} {o : HO} (na : H a = none) : Same H (upd H a o) := fun b u hb => by
  rw [upd_ne (ne_of_none hb na)]
  exact hb

theorem EvF.ev (h : EvF X W p e ρ ρ1 ds) : Ev X W p e ρ ρ1 (.lst ds) := fun O σ H E Q q => h O σ H E Q fun a vs H1 H' P s na ha t =>
  q (.ref a) H' (P.grow s) (.lst ha (P.env.fresh na) (t.fr fun b u hb n => ⟨hb, fun z => n (.inl z)⟩))
theorem Ev.cast (h : Ev X W p e ρ ρ1 d) (e0 : d = d1) : Ev X W p e ρ ρ1 d1 := e0 ▸ h
theorem Ev.weak (h : Ev X W true e ρ ρ1 d) : Ev X W p e ρ ρ1 d := fun O σ H E Q q => h O σ H E Q fun v H' P hd => q v H' ⟨P.env, P.fr, fun _ => P.pu rfl⟩ hd

/-! names, constants -/
theorem ev_var (i : Nat) {x : Str} (h : ρ[i]? = some (.val d)) (hN : X.N[i]? = some x) (hv : Vis X.env.scope x) (hd : (x == ("__debug__" : Str)) = false := by decide) (hcd : (x == ("__classdict__" : Str)) = false := by decide) :
    Ev X W p (.Name x pos) ρ ρ d := fun O σ H E Q q => of_pe (pe_var hN hv hd hcd) (by
  obtain ⟨v, e1, e2⟩ := E.val i d h
  exact ⟨v, e1, q v H (Post.refl E) e2⟩)
theorem ev_int {i : Int} {j : Nat} : Ev X W p (.Constant (.int i) j pos) ρ ρ (.int i) := fun O σ H E Q q => of_pe pe_int (q _ H (Post.refl E) (.int i))
theorem ev_bl {b : Bool} {j : Nat} : Ev X W p (.Constant (.bool b) j pos) ρ ρ (.bl b) := fun O σ H E Q q => of_pe pe_bl (q _ H (Post.refl E) (.bl b))
theorem ev_non {j : Nat} : Ev X W p (.Constant .none j pos) ρ ρ .non := fun O σ H E Q q => of_pe pe_non (q _ H (Post.refl E) .non)
theorem ev_str {x : Str} {j : Nat} : Ev X W p (.Constant (.str x) j pos) ρ ρ (.str x) := fun O σ H E Q q => of_pe pe_str (q _ H (Post.refl E) (.str x))
theorem dvl_ints {K : PySem.W.Frag} {O : OS} {H : Hp} : ∀ ns : List Int, DvL K O H (ns.map V.int) (ns.map D.int)
  | [] => .nil
  | n :: ns => .cons (.int n) (dvl_ints ns)
/-- a constant of the module: a tuple of whole numbers -/
theorem ev_glob {x : Str} {a : Addr} {ns : List Int} (hg : Gl X x) (hm : X.mg x = some (.ref a)) (w : WrT X.K a (ns.map V.int)) (hd : (x == ("__debug__" : Str)) = false := by decide) :
    Ev X W p (.Name x pos) ρ ρ (.tup (ns.map D.int)) := fun O σ H E Q q => of_pe (pe_glob (v := .ref a) hg hm rfl hd) (q _ H (Post.refl E) (.tupK w (dvl_ints ns)))

/-! operators -/
def RO (K : PySem.W.Frag) (r : R2) (d1 d2 d : D) : Prop := ∀ (O : OS) (H : Hp) (x y : V), (∀ a, O a → ∃ o, H a = some o) → Dv K O H x d1 → Dv K O H y d2 → ∀ Q : VK, (∀ v H', Same H H' → Dv K O H' v d → Q v H') → r x y H Q
theorem ev_op {op : Operator} {r : R2} (ho : OpR X (binaryOp op) r) (a : Ev X W p ea ρ ρ1 d1) (b : Ev X W p eb ρ1 ρ2 d2) (hr : RO X.K r d1 d2 d) : Ev X W p (.BinOp ea op eb pos) ρ ρ2 d :=
  fun O σ H E Q q => of_pe (pe_op ho sem_pe sem_pe) (a O σ H E _ fun x H1 P1 q1 => b O σ H1 P1.env _ fun y H2 P2 q2 =>
    hr O H2 x y P2.env.dom (q1.fr P2.fr) q2 Q fun z H3 s q3 => q z H3 ((P1.trans P2).grow s) q3)
theorem ev_cmp {op : CmpOp} {r : R2} (ho : OpR X (compareOp op) r) (hm : behindInMarks op eb = false) (a : Ev X W p ea ρ ρ1 d1) (b : Ev X W p eb ρ1 ρ2 d2) (hr : RO X.K r d1 d2 d) : Ev X W p (.Compare ea [op] [eb] pos) ρ ρ2 d :=
  fun O σ H E Q q => of_pe (pe_cmpR ho sem_pe sem_pe hm) (a O σ H E _ fun x H1 P1 q1 => b O σ H1 P1.env _ fun y H2 P2 q2 =>
    hr O H2 x y P2.env.dom (q1.fr P2.fr) q2 Q fun z H3 s q3 => q z H3 ((P1.trans P2).grow s) q3)
theorem et_cmp {op : CmpOp} {r : R2} {c : Bool} (ho : OpR X (compareOp op) r) (hm : behindInMarks op eb = false) (a : Ev X W p ea ρ ρ1 d1) (b : Ev X W p eb ρ1 ρ2 d2) (hr : RO X.K r d1 d2 (.bl c)) : EvT X W p (.Compare ea [op] [eb] pos) ρ ρ2 c :=
  fun O σ H E Q q => of_pt (pt_cmpR ho sem_pe sem_pe hm) (a O σ H E _ fun x H1 P1 q1 => b O σ H1 P1.env _ fun y H2 P2 q2 =>
    hr O H2 x y P2.env.dom (q1.fr P2.fr) q2 _ fun z H3 s q3 => ⟨c, q3.bl_inv, q H3 ((P1.trans P2).grow s)⟩)
section
variable {K : PySem.W.Frag} {i j : Int}
theorem ro_i0 {g : Int → Int → Int} : RO K (rI0 fun i j => .int (g i j)) (.int i) (.int j) (.int (g i j)) := fun O H x y _ hx hy Q q => ⟨i, j, hx.int_inv, hy.int_inv, q _ H (Same.refl H) (.int _)⟩
theorem ro_i {C : Int → Int → Prop} {g : Int → Int → Int} (h : C i j) : RO K (rI C fun i j => .int (g i j)) (.int i) (.int j) (.int (g i j)) := fun O H x y _ hx hy Q q => ⟨i, j, hx.int_inv, hy.int_inv, h, q _ H (Same.refl H) (.int _)⟩
theorem ro_b0 {g : Int → Int → Bool} : RO K (rI0 fun i j => .bl (g i j)) (.int i) (.int j) (.bl (g i j)) := fun O H x y _ hx hy Q q => ⟨i, j, hx.int_inv, hy.int_inv, q _ H (Same.refl H) (.bl _)⟩
theorem ro_eqI : RO K rEq (.int i) (.int j) (.bl (decide (i = j))) := fun O H x y _ hx hy Q q => by
  rw [hx.int_inv, hy.int_inv]
  exact ⟨rfl, q _ H (Same.refl H) (by rw [show decide (V.int i = V.int j) = decide (i = j) by simp]; exact .bl _)⟩
theorem ro_neI : RO K rNe (.int i) (.int j) (.bl (!decide (i = j))) := fun O H x y _ hx hy Q q => by
  rw [hx.int_inv, hy.int_inv]
  exact ⟨rfl, q _ H (Same.refl H) (by rw [show decide (V.int i = V.int j) = decide (i = j) by simp]; exact .bl _)⟩
theorem ro_eqS {x y : Str} : RO K rEq (.str x) (.str y) (.bl (decide (x = y))) := fun O H u v _ hx hy Q q => by
  rw [hx.str_inv, hy.str_inv]
  exact ⟨rfl, q _ H (Same.refl H) (by rw [show decide (V.str x = V.str y) = decide (x = y) by simp]; exact .bl _)⟩
theorem ro_neS {x y : Str} : RO K rNe (.str x) (.str y) (.bl (!decide (x = y))) := fun O H u v _ hx hy Q q => by
  rw [hx.str_inv, hy.str_inv]
  exact ⟨rfl, q _ H (Same.refl H) (by rw [show decide (V.str x = V.str y) = decide (x = y) by simp]; exact .bl _)⟩
/-- factors of together at most 2^27 bits -/
def Few (i : Int) : Prop := i.natAbs < 2 ^ BIG
def CMulB (i j : Int) : Prop := Few i ∧ Few j
theorem CMulB.ok {i j : Int} (h : CMulB i j) : IntMulOk i j := by
  have b : ∀ x : Int, Few x → Builtin.Int.intBits x ≤ BIG := fun x hx => by
    unfold Builtin.Int.intBits
    split
    · omega
    · rename_i h0
      have hx0 : x.natAbs ≠ 0 := by
        intro z
        have : x = 0 := by omega
        subst this
        simp at h0
      have := (Nat.log2_lt hx0).mpr hx
      omega
  have h1 := b i h.1
  have h2 := b j h.2
  have e : bitsLine = 134217728 := by decide
  have eB : BIG = 67000000 := rfl
  unfold IntMulOk
  intro z
  rw [Bool.and_eq_true] at z
  have z2 := z.2
  unfold Builtin.Int.intTooBig at z2
  have z3 := of_decide_eq_true z2
  rw [e] at z3
  omega
end
theorem op_mulB : OpR X (binaryOp .Mult) (rI CMulB fun i j => .int (i * j)) := opI fun _ _ _ _ _ _ _ hc q => mul_int q hc.ok
variable {i j : Int}
theorem ev_add (a : Ev X W p ea ρ ρ1 (.int i)) (b : Ev X W p eb ρ1 ρ2 (.int j)) : Ev X W p (.BinOp ea .Add eb pos) ρ ρ2 (.int (i + j)) := ev_op op_add a b ro_i0
theorem ev_sub (a : Ev X W p ea ρ ρ1 (.int i)) (b : Ev X W p eb ρ1 ρ2 (.int j)) : Ev X W p (.BinOp ea .Sub eb pos) ρ ρ2 (.int (i - j)) := ev_op op_sub a b ro_i0
theorem ev_mul (a : Ev X W p ea ρ ρ1 (.int i)) (b : Ev X W p eb ρ1 ρ2 (.int j)) (h : Few i ∧ Few j) : Ev X W p (.BinOp ea .Mult eb pos) ρ ρ2 (.int (i * j)) := ev_op op_mulB a b (ro_i (C := CMulB) h)
theorem ev_mod (a : Ev X W p ea ρ ρ1 (.int i)) (b : Ev X W p eb ρ1 ρ2 (.int j)) (h : j ≠ 0) : Ev X W p (.BinOp ea .Mod eb pos) ρ ρ2 (.int (i.fmod j)) := ev_op op_modN a b (ro_i (C := fun _ j => j ≠ 0) h)
theorem ev_fdivN (a : Ev X W p ea ρ ρ1 (.int i)) (b : Ev X W p eb ρ1 ρ2 (.int j)) (h : j ≠ 0 ∧ j.natAbs < 1073741824) : Ev X W p (.BinOp ea .FloorDiv eb pos) ρ ρ2 (.int (i.fdiv j)) := ev_op op_fdivN a b (ro_i (C := CDivN) h)
theorem ev_pow (a : Ev X W p ea ρ ρ1 (.int i)) (b : Ev X W p eb ρ1 ρ2 (.int j)) (h : CPow i j) : Ev X W p (.BinOp ea .Pow eb pos) ρ ρ2 (.int (i ^ j.toNat)) := ev_op op_pow a b (ro_i (C := CPow) h)
theorem ev_neg (a : Ev X W p ea ρ ρ1 (.int i)) : Ev X W p (.UnaryOp .USub ea pos) ρ ρ1 (.int (-i)) := fun O σ H E Q q => of_pe (pe_un un_neg sem_pe) (a O σ H E _ fun x H1 P1 q1 => ⟨i, q1.int_inv, q _ H1 P1 (.int _)⟩)

/-! comparisons of whole numbers: as values, as tests -/
theorem ev_lt (a : Ev X W p ea ρ ρ1 (.int i)) (b : Ev X W p eb ρ1 ρ2 (.int j)) : Ev X W p (.Compare ea [.Lt] [eb] pos) ρ ρ2 (.bl (decide (i < j))) := ev_cmp op_lt (nomark _) a b ro_b0
theorem ev_gt (a : Ev X W p ea ρ ρ1 (.int i)) (b : Ev X W p eb ρ1 ρ2 (.int j)) : Ev X W p (.Compare ea [.Gt] [eb] pos) ρ ρ2 (.bl (decide (j < i))) := ev_cmp op_gt (nomark _) a b ro_b0
theorem ev_eqI (a : Ev X W p ea ρ ρ1 (.int i)) (b : Ev X W p eb ρ1 ρ2 (.int j)) : Ev X W p (.Compare ea [.Eq] [eb] pos) ρ ρ2 (.bl (decide (i = j))) := ev_cmp op_eq (nomark _) a b ro_eqI
theorem et_lt (a : Ev X W p ea ρ ρ1 (.int i)) (b : Ev X W p eb ρ1 ρ2 (.int j)) : EvT X W p (.Compare ea [.Lt] [eb] pos) ρ ρ2 (decide (i < j)) := et_cmp op_lt (nomark _) a b ro_b0
theorem et_gt (a : Ev X W p ea ρ ρ1 (.int i)) (b : Ev X W p eb ρ1 ρ2 (.int j)) : EvT X W p (.Compare ea [.Gt] [eb] pos) ρ ρ2 (decide (j < i)) := et_cmp op_gt (nomark _) a b ro_b0
theorem et_le (a : Ev X W p ea ρ ρ1 (.int i)) (b : Ev X W p eb ρ1 ρ2 (.int j)) : EvT X W p (.Compare ea [.LtE] [eb] pos) ρ ρ2 (decide (i ≤ j)) := et_cmp op_le (nomark _) a b ro_b0
theorem et_ge (a : Ev X W p ea ρ ρ1 (.int i)) (b : Ev X W p eb ρ1 ρ2 (.int j)) : EvT X W p (.Compare ea [.GtE] [eb] pos) ρ ρ2 (decide (j ≤ i)) := et_cmp op_ge (nomark _) a b ro_b0
theorem et_eqI (a : Ev X W p ea ρ ρ1 (.int i)) (b : Ev X W p eb ρ1 ρ2 (.int j)) : EvT X W p (.Compare ea [.Eq] [eb] pos) ρ ρ2 (decide (i = j)) := et_cmp op_eq (nomark _) a b ro_eqI
theorem et_neI (a : Ev X W p ea ρ ρ1 (.int i)) (b : Ev X W p eb ρ1 ρ2 (.int j)) : EvT X W p (.Compare ea [.NotEq] [eb] pos) ρ ρ2 (!decide (i = j)) := et_cmp op_ne (nomark _) a b ro_neI
theorem et_neS {x y : Str} (a : Ev X W p ea ρ ρ1 (.str x)) (b : Ev X W p eb ρ1 ρ2 (.str y)) : EvT X W p (.Compare ea [.NotEq] [eb] pos) ρ ρ2 (!decide (x = y)) := et_cmp op_ne (nomark _) a b ro_neS
theorem ev_neS {x y : Str} (a : Ev X W p ea ρ ρ1 (.str x)) (b : Ev X W p eb ρ1 ρ2 (.str y)) : Ev X W p (.Compare ea [.NotEq] [eb] pos) ρ ρ2 (.bl (!decide (x = y))) := ev_cmp op_ne (nomark _) a b ro_neS
/-- is None, is not None -/
def isNon : D → Bool
  | .non => true
  | _ => false
theorem Dv.isNon {K : PySem.W.Frag} {O : OS} {H : Hp} {v : V} (h : Dv K O H v d) : decide (v = .non) = isNon d := by cases h <;> rfl
theorem et_isN (a : Ev X W p ea ρ ρ1 d) {j : Nat} {pos' : Pos} : EvT X W p (.Compare ea [.Is] [.Constant .none j pos'] pos) ρ ρ1 (isNon d) := fun O σ H E Q q =>
  of_pt (pt_cmpR op_isN sem_pe pe_non (nomark _)) (a O σ H E _ fun x H1 P1 q1 => ⟨rfl, _, rfl, by rw [q1.isNon]; exact q H1 P1⟩)
theorem et_notN (a : Ev X W p ea ρ ρ1 d) {j : Nat} {pos' : Pos} : EvT X W p (.Compare ea [.IsNot] [.Constant .none j pos'] pos) ρ ρ1 (!isNon d) := fun O σ H E Q q =>
  of_pt (pt_cmpR op_notN sem_pe pe_non (nomark _)) (a O σ H E _ fun x H1 P1 q1 => ⟨rfl, _, rfl, by rw [q1.isNon]; exact q H1 P1⟩)
theorem et_notBl {c k : Bool} (a : Ev X W p ea ρ ρ1 (.bl c)) (b : Ev X W p eb ρ1 ρ2 (.bl k)) : EvT X W p (.Compare ea [.IsNot] [eb] pos) ρ ρ2 (!decide (c = k)) :=
  et_cmp op_notBl (nomark _) a b fun O H x y _ hx hy Q q => ⟨c, k, hx.bl_inv, hy.bl_inv, q _ H (Same.refl H) (.bl _)⟩

/-! and, or, not -/
theorem et_val {c : Bool} (a : Ev X W p e ρ ρ1 (.bl c)) (he : ∀ whole, isTrue e X.env whole = (do let v ← whole; standAt e.pos; holding [v] (truthy v)) := by intro _; rfl) : EvT X W p e ρ ρ1 c := fun O σ H E Q q =>
  of_pt (pt_val sem_pe he) (a O σ H E _ fun x H1 P1 q1 => ⟨c, q1.bl_inv, q H1 P1⟩)
theorem et_not {c : Bool} (a : EvT X W p ea ρ ρ1 c) : EvT X W p (.UnaryOp .Not ea pos) ρ ρ1 (!c) := fun O σ H E Q q => of_pt (pt_not semT_pt) (a O σ H E _ fun H1 P1 => q H1 P1)
theorem ev_not {c : Bool} (a : Ev X W p ea ρ ρ1 (.bl c)) : Ev X W p (.UnaryOp .Not ea pos) ρ ρ1 (.bl (!c)) := fun O σ H E Q q => of_pe (pe_not sem_pe) (a O σ H E _ fun x H1 P1 q1 => ⟨c, q1.bl_inv, q _ H1 P1 (.bl _)⟩)
/-- the whole of an and, an or as a test -/
def EvW (X : Cx) (W : Wd) (e : Expr) (ρ : List Sl) (c : Bool) : Prop :=
  ∃ t : TT, PW X e t ∧ ∀ (O : OS) (σ : L2.St) (H : Hp), EnvAt X.K W O H σ ρ → ∀ Q : Bool → Hp → Prop, (∀ H', Same H H' → Q c H') → t σ H Q
theorem EvT.pure {c : Bool} (a : EvT X W true ea ρ ρ1 c) (O : OS) (σ : L2.St) (H : Hp) (E : EnvAt X.K W O H σ ρ) (Q : Bool → Hp → Prop) (q : ∀ H', Same H H' → Q c H') : semT X ea σ H Q := a O σ H E Q fun H' P => q H' (P.pu rfl).2
theorem ew_and1 {c : Bool} (a : EvT X W true ea ρ ρ c) : EvW X W (.BoolOp .And [ea] pos) ρ c := ⟨_, pw_and1 semT_pt, fun O σ H E Q q => a.pure O σ H E Q q⟩
theorem ew_or1 {c : Bool} (a : EvT X W true ea ρ ρ c) : EvW X W (.BoolOp .Or [ea] pos) ρ c := ⟨_, pw_or1 semT_pt, fun O σ H E Q q => a.pure O σ H E Q q⟩
theorem ew_and {c k : Bool} {eb : Expr} (a : EvT X W true ea ρ ρ c) (b : c = true → EvW X W (.BoolOp .And (eb :: es) pos) ρ k) (hb : EvW X W (.BoolOp .And (eb :: es) pos) ρ k ∨ ∃ t, PW X (.BoolOp .And (eb :: es) pos) t) : EvW X W (.BoolOp .And (ea :: eb :: es) pos) ρ (c && k) := by
  cases c with
  | true =>
    obtain ⟨t, h1, h2⟩ := b rfl
    exact ⟨_, pw_and semT_pt h1, fun O σ H E Q q => a.pure O σ H E _ fun H1 s => h2 O σ H1 (E.grow s) Q fun H2 s2 => q H2 (s.trans s2)⟩
  | false =>
    obtain ⟨t, h1⟩ : ∃ t, PW X (.BoolOp .And (eb :: es) pos) t := by
      rcases hb with ⟨t, h1, _⟩ | h
      · exact ⟨t, h1⟩
      · exact h
    exact ⟨_, pw_and semT_pt h1, fun O σ H E Q q => a.pure O σ H E _ fun H1 s => q H1 s⟩
theorem ew_or {c k : Bool} {eb : Expr} (a : EvT X W true ea ρ ρ c) (b : c = false → EvW X W (.BoolOp .Or (eb :: es) pos) ρ k) (hb : EvW X W (.BoolOp .Or (eb :: es) pos) ρ k ∨ ∃ t, PW X (.BoolOp .Or (eb :: es) pos) t) : EvW X W (.BoolOp .Or (ea :: eb :: es) pos) ρ (c || k) := by
  cases c with
  | false =>
    obtain ⟨t, h1, h2⟩ := b rfl
    exact ⟨_, pw_or semT_pt h1, fun O σ H E Q q => a.pure O σ H E _ fun H1 s => h2 O σ H1 (E.grow s) Q fun H2 s2 => q H2 (s.trans s2)⟩
  | true =>
    obtain ⟨t, h1⟩ : ∃ t, PW X (.BoolOp .Or (eb :: es) pos) t := by
      rcases hb with ⟨t, h1, _⟩ | h
      · exact ⟨t, h1⟩
      · exact h
    exact ⟨_, pw_or semT_pt h1, fun O σ H E Q q => a.pure O σ H E _ fun H1 s => q H1 s⟩
theorem pw_any_and : ∀ {es : List Expr} {ea : Expr}, ∃ t, PW X (.BoolOp .And (ea :: es) pos) t
  | [], _ => ⟨_, pw_and1 semT_pt⟩
  | _ :: es, _ => let ⟨_, h⟩ := pw_any_and (es := es); ⟨_, pw_and semT_pt h⟩
theorem pw_any_or : ∀ {es : List Expr} {ea : Expr}, ∃ t, PW X (.BoolOp .Or (ea :: es) pos) t
  | [], _ => ⟨_, pw_or1 semT_pt⟩
  | _ :: es, _ => let ⟨_, h⟩ := pw_any_or (es := es); ⟨_, pw_or semT_pt h⟩
theorem EvW.et {c : Bool} (h : EvW X W e ρ c) : EvT X W p e ρ ρ c := fun O σ H E Q q => by
  obtain ⟨t, h1, h2⟩ := h
  exact of_pt h1.pt (h2 O σ H E Q fun H' s => q H' ((Post.refl E).grow s))
theorem et_and2 {c k : Bool} (a : EvT X W true ea ρ ρ c) (b : c = true → EvT X W true eb ρ ρ k) : EvT X W p (.BoolOp .And [ea, eb] pos) ρ ρ (c && k) := (ew_and a (fun h => ew_and1 (b h)) (.inr pw_any_and)).et
theorem et_or2 {c k : Bool} (a : EvT X W true ea ρ ρ c) (b : c = false → EvT X W true eb ρ ρ k) : EvT X W p (.BoolOp .Or [ea, eb] pos) ρ ρ (c || k) := (ew_or a (fun h => ew_or1 (b h)) (.inr pw_any_or)).et
theorem et_and3 {c k l : Bool} (a : EvT X W true ea ρ ρ c) (b : c = true → EvT X W true eb ρ ρ k) (b2 : c = true → k = true → EvT X W true ec ρ ρ l) : EvT X W p (.BoolOp .And [ea, eb, ec] pos) ρ ρ (c && (k && l)) :=
  (ew_and a (fun h => ew_and (b h) (fun h2 => ew_and1 (b2 h h2)) (.inr pw_any_and)) (.inr pw_any_and)).et
theorem et_or3 {c k l : Bool} (a : EvT X W true ea ρ ρ c) (b : c = false → EvT X W true eb ρ ρ k) (b2 : c = false → k = false → EvT X W true ec ρ ρ l) : EvT X W p (.BoolOp .Or [ea, eb, ec] pos) ρ ρ (c || (k || l)) :=
  (ew_or a (fun h => ew_or (b h) (fun h2 => ew_or1 (b2 h h2)) (.inr pw_any_or)) (.inr pw_any_or)).et
theorem et_or4 {ed : Expr} {c k l m : Bool} (a : EvT X W true ea ρ ρ c) (b : c = false → EvT X W true eb ρ ρ k) (b2 : c = false → k = false → EvT X W true ec ρ ρ l) (b3 : c = false → k = false → l = false → EvT X W true ed ρ ρ m) : EvT X W p (.BoolOp .Or [ea, eb, ec, ed] pos) ρ ρ (c || (k || (l || m))) :=
  (ew_or a (fun h => ew_or (b h) (fun h2 => ew_or (b2 h h2) (fun h3 => ew_or1 (b3 h h2 h3)) (.inr pw_any_or)) (.inr pw_any_or)) (.inr pw_any_or)).et
theorem ev_and2 {c k : Bool} (a : Ev X W true ea ρ ρ (.bl c)) (b : c = true → Ev X W true eb ρ ρ (.bl k)) : Ev X W p (.BoolOp .And [ea, eb] pos) ρ ρ (.bl (c && k)) := fun O σ H E Q q =>
  of_pe (pe_and sem_pe (pe_one sem_pe)) (a O σ H E _ fun x H1 P1 q1 => ⟨c, q1.bl_inv, by
    cases c with
    | true => exact b rfl O σ H1 P1.env Q fun y H2 P2 q2 => q y H2 (((Post.refl E).grow (P1.pu rfl).2).grow (P2.pu rfl).2) q2
    | false => exact q _ H1 ((Post.refl E).grow (P1.pu rfl).2) (.bl false)⟩)
theorem ev_or2 {c k : Bool} (a : Ev X W true ea ρ ρ (.bl c)) (b : c = false → Ev X W true eb ρ ρ (.bl k)) : Ev X W p (.BoolOp .Or [ea, eb] pos) ρ ρ (.bl (c || k)) := fun O σ H E Q q =>
  of_pe (pe_or sem_pe (pe_one sem_pe)) (a O σ H E _ fun x H1 P1 q1 => ⟨c, q1.bl_inv, by
    cases c with
    | false => exact b rfl O σ H1 P1.env Q fun y H2 P2 q2 => q y H2 (((Post.refl E).grow (P1.pu rfl).2).grow (P2.pu rfl).2) q2
    | true => exact q _ H1 ((Post.refl E).grow (P1.pu rfl).2) (.bl true)⟩)
theorem ev_if {c : Bool} {et : Expr} (t : EvT X W true et ρ ρ c) (a : c = true → Ev X W true ea ρ ρ d) (b : c = false → Ev X W true eb ρ ρ d) : Ev X W p (.IfExp et ea eb pos) ρ ρ d := fun O σ H E Q q =>
  of_pe (pe_ifExp semT_pt sem_pe sem_pe) (t O σ H E _ fun H1 P1 => by
    cases c with
    | true => exact a rfl O σ H1 P1.env Q fun y H2 P2 q2 => q y H2 (((Post.refl E).grow (P1.pu rfl).2).grow (P2.pu rfl).2) q2
    | false => exact b rfl O σ H1 P1.env Q fun y H2 P2 q2 => q y H2 (((Post.refl E).grow (P1.pu rfl).2).grow (P2.pu rfl).2) q2)

/-! arguments, displays -/
theorem ArOk.fr {K : PySem.W.Frag} {O : OS} {H H' : Hp} {x : V} {a : Ar} (s : Same H H') (h : ArOk K O H x a) : ArOk K O H' x a := by
  cases a with
  | v d => exact Dv.same s h
  | b ds =>
    obtain ⟨a, vs, e, o, hh, t⟩ := h
    exact ⟨a, vs, e, o, s _ _ hh, t.same s⟩
theorem ea_nil : EvA X W p [] ρ ρ [] := fun O σ H E Q q => of_pa pa_nil (q [] H (Post.refl E) .nil)
theorem ea_cons (a : Ev X W p e ρ ρ1 d) (b : EvA X W p es ρ1 ρ2 as) (hs : starEach (e :: es) X.env = (false, eval e X.env) :: starEach es X.env := by rfl) : EvA X W p (e :: es) ρ ρ2 (.v d :: as) := fun O σ H E Q q =>
  of_pa (pa_cons sem_pe semA_pa hs) (a O σ H E _ fun x H1 P1 q1 => b O σ H1 P1.env _ fun vs H2 P2 q2 => q _ H2 (P1.trans P2) (.cons (show Dv X.K O H2 x d from q1.fr P2.fr) q2))
/-- a list that is lent: an own one, or one that was lent already -/
theorem ea_bor (i : Nat) {x : Str} {pos' : Pos} (h : ρ[i]? = some (.own ds) ∨ ρ[i]? = some (.bor ds)) (b : EvA X W true es ρ ρ as) (hN : X.N[i]? = some x) (hv : Vis X.env.scope x)
    (hs : starEach (.Name x pos' :: es) X.env = (false, eval (.Name x pos') X.env) :: starEach es X.env := by rfl) (hd : (x == ("__debug__" : Str)) = false := by decide) (hcd : (x == ("__classdict__" : Str)) = false := by decide) :
    EvA X W p (.Name x pos' :: es) ρ ρ (.b ds :: as) := fun O σ H E Q q =>
  of_pa (pa_cons (pe_var hN hv hd hcd) semA_pa hs) (by
    obtain ⟨a, vs, e, o, hh, t⟩ : ∃ a vs, σ[i]? = some (some (.ref a)) ∧ O a ∧ H a = some (.lst vs) ∧ DvL X.K O H vs ds := by
      rcases h with h | h
      · obtain ⟨a, vs, e, o, _, hh, t, _⟩ := E.own i ds h
        exact ⟨a, vs, e, o, hh, t⟩
      · exact E.bor_now h
    exact ⟨.ref a, e, b O σ H E _ fun ws H2 P2 q2 => q _ H2 ((Post.refl E).grow (P2.pu rfl).2) (.cons ⟨a, vs, rfl, o, (P2.pu rfl).2 _ _ hh, t.same (P2.pu rfl).2⟩ q2)⟩)
theorem ArsOk.vals {K : PySem.W.Frag} {O : OS} {H : Hp} : ∀ {vs : List V} {ds : List D}, ArsOk K O H vs (ds.map Ar.v) → DvL K O H vs ds
  | _, [], .nil => .nil
  | _, _ :: _, .cons h t => .cons h t.vals
theorem ev_tup {k : Nat} (a : EvA X W p es ρ ρ1 (ds.map Ar.v)) (hl : ds.length ≤ 1000) : Ev X W p (.Tuple es k pos) ρ ρ1 (.tup ds) := fun O σ H E Q q =>
  of_pe (pe_tup semA_pa) (a O σ H E _ fun vs H1 P1 q1 => ⟨by
    have := q1.vals.length
    rw [this]
    exact Nat.le_trans hl (by decide), fun b nb => q _ _ (P1.grow (same_new nb)) (.tup upd_same (P1.env.fresh nb) (q1.vals.same (same_new nb)))⟩)
theorem ef_lst (a : EvA X W p es ρ ρ1 (ds.map Ar.v)) (hl : ds.length ≤ 1000) : EvF X W p (.List es pos) ρ ρ1 ds := fun O σ H E Q q =>
  of_pe (pe_lst semA_pa) (a O σ H E _ fun vs H1 P1 q1 => ⟨by
    have := q1.vals.length
    rw [this]
    exact Nat.le_trans hl (by decide), fun b nb => q b vs H1 _ P1 (same_new nb) nb upd_same (q1.vals.own nb)⟩)

/-! items -/
theorem dvl_at {K : PySem.W.Frag} {O : OS} {H : Hp} {vs : List V} {i : Int} (h : DvL K O H vs ds) (hd : atI ds i = some d) : ∃ v, atI vs i = some v ∧ Dv K O H v d := by
  unfold atI at hd ⊢
  rw [h.length]
  cases e : ixN ds.length i with
  | none =>
    rw [e] at hd
    cases hd
  | some j =>
    rw [e] at hd
    exact h.get hd
theorem ev_ixL {n : Int} (a : Ev X W p ea ρ ρ1 (.lst ds)) (b : Ev X W p eb ρ1 ρ2 (.int n)) (hd : atI ds n = some d) (hs : PlainIx eb := by intro _ _; rfl) : Ev X W p (.Subscript ea eb pos) ρ ρ2 d := fun O σ H E Q q =>
  of_pe (pe_ix ix_list sem_pe sem_pe hs) (a O σ H E _ fun x H1 P1 q1 => b O σ H1 P1.env _ fun y H2 P2 q2 => by
    obtain ⟨l, vs, rfl, hh, _, t⟩ := (q1.fr P2.fr).lst_inv
    obtain ⟨v, e1, e2⟩ := dvl_at t hd
    exact ⟨l, vs, n, v, rfl, q2.int_inv, SqL.of hh, e1, q v H2 (P1.trans P2) e2⟩)
theorem ev_ixT {n : Int} (a : Ev X W p ea ρ ρ1 (.tup ds)) (b : Ev X W p eb ρ1 ρ2 (.int n)) (hd : atI ds n = some d) (hs : PlainIx eb := by intro _ _; rfl) : Ev X W p (.Subscript ea eb pos) ρ ρ2 d := fun O σ H E Q q =>
  of_pe (pe_ix ix_tup sem_pe sem_pe hs) (a O σ H E _ fun x H1 P1 q1 => b O σ H1 P1.env _ fun y H2 P2 q2 => by
    obtain ⟨l, vs, rfl, hh, t⟩ := (q1.fr P2.fr).tup_inv
    obtain ⟨v, e1, e2⟩ := dvl_at t hd
    exact ⟨l, vs, n, v, rfl, q2.int_inv, hh, e1, q v H2 (P1.trans P2) e2⟩)
theorem ev_ixS {n m : Int} {ns : List Int} (a : Ev X W p ea ρ ρ1 (.scr ns)) (b : Ev X W p eb ρ1 ρ2 (.int n)) (hd : atI ns n = some m) (hs : PlainIx eb := by intro _ _; rfl) : Ev X W p (.Subscript ea eb pos) ρ ρ2 (.int m) := fun O σ H E Q q =>
  of_pe (pe_ix ix_list sem_pe sem_pe hs) (a O σ H E _ fun x H1 P1 q1 => b O σ H1 P1.env _ fun y H2 P2 q2 => by
    obtain ⟨l, rfl, hh, _⟩ := (q1.fr P2.fr).scr_inv
    refine ⟨l, _, n, .int m, rfl, q2.int_inv, hh, ?_, q _ H2 (P1.trans P2) (.int m)⟩
    unfold atI at hd ⊢
    rw [List.length_map]
    cases e : ixN ns.length n with
    | none =>
      rw [e] at hd
      cases hd
    | some j =>
      rw [e] at hd
      show (ns.map V.int)[j]? = _
      rw [List.getElem?_map, show ns[j]? = some m from hd]
      rfl)
/-- an item of an own or lent list -/
theorem ev_ixO (i : Nat) {x : Str} {pos' : Pos} {n : Int} (h : ρ[i]? = some (.own ds) ∨ ρ[i]? = some (.bor ds)) (b : Ev X W true eb ρ ρ (.int n)) (hd : atI ds n = some d) (hN : X.N[i]? = some x) (hv : Vis X.env.scope x) (hs : PlainIx eb := by intro _ _; rfl)
    (hdd : (x == ("__debug__" : Str)) = false := by decide) (hcd : (x == ("__classdict__" : Str)) = false := by decide) : Ev X W p (.Subscript (.Name x pos') eb pos) ρ ρ d := fun O σ H E Q q =>
  of_pe (pe_ix ix_list (pe_var hN hv hdd hcd) sem_pe hs) (by
    obtain ⟨a, vs, e, o, hh, t⟩ : ∃ a vs, σ[i]? = some (some (.ref a)) ∧ O a ∧ H a = some (.lst vs) ∧ DvL X.K O H vs ds := by
      rcases h with h | h
      · obtain ⟨a, vs, e, o, _, hh, t, _⟩ := E.own i ds h
        exact ⟨a, vs, e, o, hh, t⟩
      · exact E.bor_now h
    refine ⟨.ref a, e, b O σ H E _ fun y H2 P2 q2 => ?_⟩
    have s2 := (P2.pu rfl).2
    obtain ⟨v, e1, e2⟩ := dvl_at (t.same s2) hd
    exact ⟨a, vs, n, v, rfl, q2.int_inv, SqL.of (s2 _ _ hh), e1, q v H2 ((Post.refl E).grow s2) e2⟩)

/-! slices of lists -/
def EvP (X : Cx) (W : Wd) (p : Bool) (e : Option Expr) (ρ : List Sl) (o : Option Int) : Prop :=
  ∃ t : TO, PO X e t ∧ ∀ (O : OS) (σ : L2.St) (H : Hp), EnvAt X.K W O H σ ρ → ∀ Q : Option Int → Hp → Prop, (∀ H', Same H H' → Q o H') → t σ H Q
theorem ep_none : EvP X W p none ρ none := ⟨_, po_none, fun O σ H E Q q => q H (Same.refl H)⟩
theorem ep_some {i : Int} (a : Ev X W true e ρ ρ (.int i)) : EvP X W p (some e) ρ (some i) := ⟨_, po_some sem_pe, fun O σ H E Q q => a O σ H E _ fun x H1 P1 q1 => ⟨i, q1.int_inv, q H1 (P1.pu rfl).2⟩⟩
theorem DvL.cut {K : PySem.W.Frag} {O : OS} {H : Hp} {vs : List V} (h : DvL K O H vs ds) (lo hi : Option Int) : DvL K O H (cutV vs lo hi) ((ds.drop (HT.sIx ds.length 0 lo)).take (HT.sIx ds.length ds.length hi - HT.sIx ds.length 0 lo)) := by
  unfold cutV
  rw [h.length]
  exact (h.drop _).take _
def cutD (ds : List D) (lo hi : Option Int) : List D := (ds.drop (HT.sIx ds.length 0 lo)).take (HT.sIx ds.length ds.length hi - HT.sIx ds.length 0 lo)
theorem ef_slice {lo hi : Option Expr} {l u : Option Int} {p2 : Pos} (a : Ev X W true ea ρ ρ (.lst ds)) (hl : EvP X W p lo ρ l) (hu : EvP X W p hi ρ u) : EvF X W p (.Subscript ea (.Slice lo hi none p2) pos) ρ ρ (cutD ds l u) := fun O σ H E Q q => by
  obtain ⟨tl, l1, l2⟩ := hl
  obtain ⟨tu, u1, u2⟩ := hu
  refine of_pe (pe_slice sl_list sem_pe l1 u1) (a O σ H E _ fun x H1 P1 q1 => l2 O σ H1 P1.env _ fun H2 s2 => u2 O σ H2 (P1.env.grow s2) _ fun H3 s3 => ?_)
  have s := ((P1.pu rfl).2.trans s2).trans s3
  obtain ⟨a', vs, rfl, hh, _, t⟩ := ((q1.same s2).same s3).lst_inv
  exact ⟨a', vs, rfl, SqL.of hh, fun b nb => q b _ H3 _ ((Post.refl E).grow s) (same_new nb) nb upd_same ((t.cut l u).own nb)⟩
/-- + and * of lists -/
theorem ef_cat {ds es : List D} (a : Ev X W true ea ρ ρ (.lst ds)) (b : Ev X W true eb ρ ρ (.lst es)) (hl : ds.length + es.length ≤ 1000000) : EvF X W p (.BinOp ea .Add eb pos) ρ ρ (ds ++ es) := fun O σ H E Q q =>
  of_pe (pe_op op_cat sem_pe sem_pe) (a O σ H E _ fun x H1 P1 q1 => b O σ H1 P1.env _ fun y H2 P2 q2 => by
    obtain ⟨l, vs, rfl, hh, _, t⟩ := (q1.fr P2.fr).lst_inv
    obtain ⟨m, ws, rfl, hh2, _, t2⟩ := q2.lst_inv
    refine ⟨l, m, vs, ws, rfl, rfl, hh, hh2, ?_, fun c nc => ?_⟩
    · rw [t.length, t2.length]
      exact Nat.le_trans hl (by decide)
    · exact q c _ H2 _ ((Post.refl E).grow ((P1.pu rfl).2.trans (P2.pu rfl).2)) (same_new nc) nc upd_same ((t.append t2).own nc))
theorem ef_rep {ds : List D} {k : Int} (a : Ev X W true ea ρ ρ (.lst ds)) (b : Ev X W true eb ρ ρ (.int k)) (h0 : 0 ≤ k) (hl : ds.length * k.toNat ≤ 1000000) (hk : k ≤ 1000000) : EvF X W p (.BinOp ea .Mult eb pos) ρ ρ (List.replicate k.toNat ds).flatten := fun O σ H E Q q =>
  of_pe (pe_op op_rep sem_pe sem_pe) (a O σ H E _ fun x H1 P1 q1 => b O σ H1 P1.env _ fun y H2 P2 q2 => by
    obtain ⟨l, vs, rfl, hh, _, t⟩ := (q1.fr P2.fr).lst_inv
    refine ⟨l, k, vs, rfl, q2.int_inv, hh, Int.le_trans (by decide) h0, Int.lt_of_le_of_lt hk (by decide), ?_, fun c nc => ?_⟩
    · rw [t.length]
      exact Nat.le_trans hl (by decide)
    · exact q c _ H2 _ ((Post.refl E).grow ((P1.pu rfl).2.trans (P2.pu rfl).2)) (same_new nc) nc upd_same ((t.rep k.toNat).own nc))
end
end M66
/-! Layer W, part 3: calls, built-ins, equality of data. -/
namespace M66
open PySem PySem.Spec PyProof.Rows L2

/-! ### equality of data -/
mutual
def D.py : D → PyData
  | .non => .none
  | .bl b => .bool b
  | .int i => .int i
  | .str x => .str x
  | .tup ds => .tuple (D.pys ds)
  | .lst ds => .list (D.pys ds)
  | .scr ns => .list (ns.map PyData.int)
def D.pys : List D → List PyData
  | [] => []
  | d :: ds => D.py d :: D.pys ds
end
section
variable {K : PySem.W.Frag} {O : OS} {H : Hp}
theorem dpa_ints : ∀ ns : List Int, DpAll K H (ns.map V.int) (ns.map PyData.int)
  | [] => .nil
  | n :: ns => .cons (.int n) (dpa_ints ns)
mutual
theorem Dv.dp : ∀ {v : V} {d : D}, Dv K O H v d → Dp K H v d.py
  | _, _, .non => by rw [D.py]; exact .non
  | _, _, .bl b => by rw [D.py]; exact .bl b
  | _, _, .int i => by rw [D.py]; exact .int i
  | _, _, .str x => by rw [D.py]; exact .str x
  | _, _, .tup h n t => by rw [D.py]; exact .tup (.inl (.inl h)) (DvL.dp t)
  | _, _, .tupK w t => by rw [D.py]; exact .tup w.sq (DvL.dp t)
  | _, _, .lst h n t => by rw [D.py]; exact .lst (.inl (.inl h)) (DvL.dp t)
  | _, _, .scr h n => by rw [D.py]; exact .lst (.inl h) (dpa_ints _)
  | _, _, .scrK w => by rw [D.py]; exact .lst w.sq (dpa_ints _)
theorem DvL.dp : ∀ {vs : List V} {ds : List D}, DvL K O H vs ds → DpAll K H vs (D.pys ds)
  | _, _, .nil => by rw [D.pys]; exact .nil
  | _, _, .cons h t => by rw [D.pys]; exact .cons (Dv.dp h) (DvL.dp t)
end
end
theorem pys_ints : ∀ ns : List Int, D.pys (ns.map D.int) = ns.map PyData.int
  | [] => by rw [List.map_nil, List.map_nil, D.pys]
  | n :: ns => by rw [List.map_cons, List.map_cons, D.pys, D.py, pys_ints ns]
/-- the datum may be compared -/
def Sh (d : D) : Prop := SeqAt.shaped d.py = true
def ShL (n : Nat) (ds : List D) : Prop := PyData.canLayAll0 (D.pys ds) = true ∧ PyData.depthAll (D.pys ds) ≤ n
theorem ShL.nil {n : Nat} : ShL n [] := ⟨by rw [D.pys, PyData.canLayAll0], by rw [D.pys, PyData.depthAll]; exact Nat.zero_le _⟩
theorem ShL.cons {n : Nat} {d : D} {ds : List D} (h1 : d.py.canLay0 = true ∧ d.py.depth ≤ n) (h2 : ShL n ds) : ShL n (d :: ds) := by
  refine ⟨?_, ?_⟩
  · rw [D.pys, PyData.canLayAll0, h1.1, h2.1]
    rfl
  · rw [D.pys, PyData.depthAll]
    exact Nat.max_le.mpr ⟨h1.2, h2.2⟩
theorem ShL.ints {n : Nat} : ∀ ns : List Int, ShL n (ns.map D.int)
  | [] => .nil
  | i :: ns => .cons ⟨by rw [D.py, PyData.canLay0], by rw [D.py, PyData.depth]; exact Nat.zero_le _⟩ (ShL.ints ns)
theorem ShL.tup {n : Nat} {ds : List D} (h : ShL n ds) : (D.tup ds).py.canLay0 = true ∧ (D.tup ds).py.depth ≤ n + 1 := by
  rw [D.py, PyData.canLay0, PyData.depth]
  exact ⟨h.1, Nat.succ_le_succ h.2⟩
theorem ShL.lst {n : Nat} {ds : List D} (h : ShL n ds) : (D.lst ds).py.canLay0 = true ∧ (D.lst ds).py.depth ≤ n + 1 := by
  rw [D.py, PyData.canLay0, PyData.depth]
  exact ⟨h.1, Nat.succ_le_succ h.2⟩
theorem ShL.of {n : Nat} : ∀ {ds : List D}, (∀ d ∈ ds, d.py.canLay0 = true ∧ d.py.depth ≤ n) → ShL n ds
  | [], _ => .nil
  | d :: ds, h => .cons (h d List.mem_cons_self) (ShL.of fun e he => h e (List.mem_cons_of_mem _ he))
theorem ShL.sh {n : Nat} {ds : List D} (h : ShL n ds) (hn : n ≤ 63) : Sh (.lst ds) := by
  have := h.lst
  unfold Sh SeqAt.shaped
  rw [this.1, decide_eq_true (Nat.le_trans this.2 (by omega))]
  rfl
theorem ShL.shT {n : Nat} {ds : List D} (h : ShL n ds) (hn : n ≤ 63) : Sh (.tup ds) := by
  have := h.tup
  unfold Sh SeqAt.shaped
  rw [this.1, decide_eq_true (Nat.le_trans this.2 (by omega))]
  rfl
section
variable {K : PySem.W.Frag}
theorem ro_eqD {d e : D} (h1 : Sh d) (h2 : Sh e) : RO K (rEqD K) d e (.bl (PyData.eqv d.py e.py)) := fun O H x y _ hx hy Q q => ⟨_, _, hx.dp, hy.dp, h1, h2, q _ H (Same.refl H) (.bl _)⟩
theorem ro_neD {d e : D} (h1 : Sh d) (h2 : Sh e) : RO K (rNeD K) d e (.bl (!PyData.eqv d.py e.py)) := fun O H x y _ hx hy Q q => ⟨_, _, hx.dp, hy.dp, h1, h2, q _ H (Same.refl H) (.bl _)⟩
theorem eqv_tups {ns ms : List Int} : PyData.eqv (D.tup (ns.map D.int)).py (D.tup (ms.map D.int)).py = decide (ns = ms) := by
  rw [D.py, D.py, PyData.eqv, pys_ints, pys_ints]
  exact PySem.W.ked_eqvAll ns ms
theorem eqv_nil {ds : List D} : PyData.eqv (D.lst ds).py (D.lst []).py = ds.isEmpty := by
  rw [D.py, D.py, PyData.eqv]
  cases ds with
  | nil => rw [D.pys, PyData.eqvAll]; rfl
  | cons d ds => rw [D.pys, D.pys, PyData.eqvAll]; rfl
end

section
variable {X : Cx} {W : Wd} {p : Bool} {ρ ρ1 ρ2 ρ3 : List Sl} {e ea eb ec : Expr} {es : List Expr} {d d1 d2 d3 : D} {ds : List D} {as : List Ar} {pos : Pos} {k : Nat}
theorem Room.u64 {A : Around} (r : Room k A) : A.units + 64 < cLine := r.units
theorem ev_eqT {ns ms : List Int} (hr : Room k X.A) (a : Ev X W p ea ρ ρ1 (.tup (ns.map D.int))) (b : Ev X W p eb ρ1 ρ2 (.tup (ms.map D.int))) : Ev X W p (.Compare ea [.Eq] [eb] pos) ρ ρ2 (.bl (decide (ns = ms))) :=
  ev_cmp (op_eqD hr.units) (nomark _) a b (by rw [← eqv_tups]; exact ro_eqD ((ShL.ints ns).shT (n := 0) (by decide)) ((ShL.ints ms).shT (n := 0) (by decide)))
theorem ev_neT {ns ms : List Int} (hr : Room k X.A) (a : Ev X W p ea ρ ρ1 (.tup (ns.map D.int))) (b : Ev X W p eb ρ1 ρ2 (.tup (ms.map D.int))) : Ev X W p (.Compare ea [.NotEq] [eb] pos) ρ ρ2 (.bl (!decide (ns = ms))) :=
  ev_cmp (op_neD hr.units) (nomark _) a b (by rw [← eqv_tups]; exact ro_neD ((ShL.ints ns).shT (n := 0) (by decide)) ((ShL.ints ms).shT (n := 0) (by decide)))
theorem et_eqT {ns ms : List Int} (hr : Room k X.A) (a : Ev X W p ea ρ ρ1 (.tup (ns.map D.int))) (b : Ev X W p eb ρ1 ρ2 (.tup (ms.map D.int))) : EvT X W p (.Compare ea [.Eq] [eb] pos) ρ ρ2 (decide (ns = ms)) :=
  et_cmp (op_eqD hr.units) (nomark _) a b (by rw [← eqv_tups]; exact ro_eqD ((ShL.ints ns).shT (n := 0) (by decide)) ((ShL.ints ms).shT (n := 0) (by decide)))
theorem et_neT {ns ms : List Int} (hr : Room k X.A) (a : Ev X W p ea ρ ρ1 (.tup (ns.map D.int))) (b : Ev X W p eb ρ1 ρ2 (.tup (ms.map D.int))) : EvT X W p (.Compare ea [.NotEq] [eb] pos) ρ ρ2 (!decide (ns = ms)) :=
  et_cmp (op_neD hr.units) (nomark _) a b (by rw [← eqv_tups]; exact ro_neD ((ShL.ints ns).shT (n := 0) (by decide)) ((ShL.ints ms).shT (n := 0) (by decide)))
/-- f == [], f != [] -/
theorem ev_eqNil {j : Nat} {pos' : Pos} (hr : Room k X.A) (h : Sh (.lst ds)) (a : Ev X W p ea ρ ρ1 (.lst ds)) : Ev X W p (.Compare ea [.Eq] [.List [] pos'] pos) ρ ρ1 (.bl ds.isEmpty) :=
  ev_cmp (op_eqD hr.units) (nomark _) a (EvF.ev (ef_lst (ds := []) ea_nil (Nat.zero_le _))) (by rw [← eqv_nil]; exact ro_eqD h (ShL.nil.sh (n := 0) (by decide)))
theorem et_eqNil {pos' : Pos} (hr : Room k X.A) (h : Sh (.lst ds)) (a : Ev X W p ea ρ ρ1 (.lst ds)) : EvT X W p (.Compare ea [.Eq] [.List [] pos'] pos) ρ ρ1 ds.isEmpty :=
  et_cmp (op_eqD hr.units) (nomark _) a (EvF.ev (ef_lst (ds := []) ea_nil (Nat.zero_le _))) (by rw [← eqv_nil]; exact ro_eqD h (ShL.nil.sh (n := 0) (by decide)))
theorem et_neNil {pos' : Pos} (hr : Room k X.A) (h : Sh (.lst ds)) (a : Ev X W p ea ρ ρ1 (.lst ds)) : EvT X W p (.Compare ea [.NotEq] [.List [] pos'] pos) ρ ρ1 (!ds.isEmpty) :=
  et_cmp (op_neD hr.units) (nomark _) a (EvF.ev (ef_lst (ds := []) ea_nil (Nat.zero_le _))) (by rw [← eqv_nil]; exact ro_neD h (ShL.nil.sh (n := 0) (by decide)))
/-- .. of an own list -/
theorem et_neNilO (i : Nat) {x : Str} {pos' pos2 : Pos} (hr : Room k X.A) (h : ρ[i]? = some (.own ds)) (hs : Sh (.lst ds)) (hN : X.N[i]? = some x) (hv : Vis X.env.scope x)
    (hdd : (x == ("__debug__" : Str)) = false := by decide) (hcd : (x == ("__classdict__" : Str)) = false := by decide) : EvT X W p (.Compare (.Name x pos2) [.NotEq] [.List [] pos'] pos) ρ ρ (!ds.isEmpty) := fun O σ H E Q q =>
  of_pt (pt_cmpR (op_neD hr.units) (pe_var hN hv hdd hcd) (pe_lst pa_nil) (nomark _)) (by
    obtain ⟨a, vs, e, o, _, hh, t, _⟩ := E.own i ds h
    refine ⟨.ref a, e, Nat.zero_le _, fun b nb => ?_⟩
    have s := same_new (o := .lst []) nb
    refine ⟨.list (D.pys ds), .list [], .lst (SqL.of (s _ _ hh)) (t.same s).dp, .lst (SqL.of upd_same) .nil, ?_, ?_, ?_⟩
    · have := hs
      unfold Sh at this
      rw [D.py] at this
      exact this
    · decide
    · refine ⟨_, rfl, ?_⟩
      rw [show PyData.eqv (.list (D.pys ds)) (.list []) = ds.isEmpty by
        have := eqv_nil (ds := ds)
        rw [D.py, D.py, D.pys] at this
        exact this]
      exact q _ ((Post.refl E).grow s))

/-! ### built-ins -/
def RCa (K : PySem.W.Frag) (r : List V → Hp → VK → Prop) (as : List Ar) (d : D) : Prop := ∀ (O : OS) (H : Hp) (vs : List V), (∀ a, O a → ∃ o, H a = some o) → ArsOk K O H vs as → ∀ Q : VK, (∀ v H', Same H H' → Dv K O H' v d → Q v H') → r vs H Q
theorem ev_callB {x : Str} {p' : Pos} {id : String} {r : List V → Hp → VK → Prop} (hc : CallR X (.builtin id) r) (hr : RCa X.K r as d) (ha : EvA X W p (e :: es) ρ ρ1 as) (hg : Gl X x) (hm : X.mg x = none) (hv : bootBuiltins x = some (.builtin id)) (hn : x ≠ "__name__" := by decide) (hdb : (x == ("__debug__" : Str)) = false := by decide)
    (hs : starEach (e :: es) X.env = (false, eval e X.env) :: starEach es X.env := by rfl) (hpl : (backTo pos (starEach es X.env)).any (·.1) = false := by rfl) : Ev X W p (.Call (.Name x p') (e :: es) [] pos) ρ ρ1 d := fun O σ H E Q q =>
  of_pe (pe_callB hc hg hm hv semA_pa hn hdb hs hpl) (ha O σ H E _ fun vs H1 P1 q1 => hr O H1 vs P1.env.dom q1 Q fun v H2 s q2 => q v H2 (P1.grow s) q2)
theorem ev_callTy {x : Str} {p' : Pos} {id : String} {r : List V → Hp → VK → Prop} (hc : CallR X (.type id) r) (hr : RCa X.K r as d) (ha : EvA X W p (e :: es) ρ ρ1 as) (hg : Gl X x) (hm : X.mg x = none) (hv : bootBuiltins x = some (.type id)) (hn : x ≠ "__name__" := by decide) (hdb : (x == ("__debug__" : Str)) = false := by decide)
    (hs : starEach (e :: es) X.env = (false, eval e X.env) :: starEach es X.env := by rfl) (hpl : (backTo pos (starEach es X.env)).any (·.1) = false := by rfl) : Ev X W p (.Call (.Name x p') (e :: es) [] pos) ρ ρ1 d := fun O σ H E Q q =>
  of_pe (pe_callTy hc hg hm hv semA_pa hn hdb hs hpl) (ha O σ H E _ fun vs H1 P1 q1 => hr O H1 vs P1.env.dom q1 Q fun v H2 s q2 => q v H2 (P1.grow s) q2)
section
variable {K : PySem.W.Frag} {i j : Int} {b : Bool}
theorem rc_abs : RCa K (fun xs H Q => ∃ i, xs = [.int i] ∧ Q (.int (if i < 0 then -i else i)) H) [.v (.int i)] (.int (if i < 0 then -i else i)) := fun O H vs _ h Q q => by
  cases h with
  | cons h t =>
    cases t
    have e : _ = V.int i := Dv.int_inv h
    subst e
    exact ⟨i, rfl, q _ H (Same.refl H) (.int _)⟩
theorem rc_intB : RCa K (fun xs H Q => (∃ i, xs = [.int i] ∧ Q (.int i) H) ∨ ∃ k, xs = [.bl k] ∧ Q (.int (if k then 1 else 0)) H) [.v (.bl b)] (.int (if b then 1 else 0)) := fun O H vs _ h Q q => by
  cases h with
  | cons h t =>
    cases t
    have e : _ = V.bl b := Dv.bl_inv h
    subst e
    exact .inr ⟨b, rfl, q _ H (Same.refl H) (.int _)⟩
theorem rc_max : RCa K (fun xs H Q => ∃ i j, xs = [.int i, .int j] ∧ Q (.int (if j > i then j else i)) H) [.v (.int i), .v (.int j)] (.int (max i j)) := fun O H vs _ h Q q => by
  cases h with
  | cons h t =>
    cases t with
    | cons h2 t =>
      cases t
      have e : _ = V.int i := Dv.int_inv h
      have e2 : _ = V.int j := Dv.int_inv h2
      subst e e2
      refine ⟨i, j, rfl, ?_⟩
      rw [show (if j > i then j else i) = max i j by split <;> omega]
      exact q _ H (Same.refl H) (.int _)
theorem rc_min : RCa K (fun xs H Q => ∃ i j, xs = [.int i, .int j] ∧ Q (.int (if j < i then j else i)) H) [.v (.int i), .v (.int j)] (.int (min i j)) := fun O H vs _ h Q q => by
  cases h with
  | cons h t =>
    cases t with
    | cons h2 t =>
      cases t
      have e : _ = V.int i := Dv.int_inv h
      have e2 : _ = V.int j := Dv.int_inv h2
      subst e e2
      refine ⟨i, j, rfl, ?_⟩
      rw [show (if j < i then j else i) = min i j by split <;> omega]
      exact q _ H (Same.refl H) (.int _)
theorem rc_lenL : RCa K (fun xs H Q => ∃ p ys, xs = [.ref p] ∧ (SqL K H p ys ∨ SqT K H p ys) ∧ Q (.int ys.length) H) [.v (.lst ds)] (.int ds.length) := fun O H vs _ h Q q => by
  cases h with
  | cons h t =>
    cases t
    obtain ⟨a, ws, rfl, hh, _, t⟩ := Dv.lst_inv h
    refine ⟨a, ws, rfl, .inl (SqL.of hh), ?_⟩
    rw [t.length]
    exact q _ H (Same.refl H) (.int _)
theorem rc_lenB : RCa K (fun xs H Q => ∃ p ys, xs = [.ref p] ∧ (SqL K H p ys ∨ SqT K H p ys) ∧ Q (.int ys.length) H) [.b ds] (.int ds.length) := fun O H vs _ h Q q => by
  cases h with
  | cons h t =>
    cases t
    obtain ⟨a, ws, rfl, _, hh, t⟩ := h
    refine ⟨a, ws, rfl, .inl (SqL.of hh), ?_⟩
    rw [t.length]
    exact q _ H (Same.refl H) (.int _)
theorem rc_lenT : RCa K (fun xs H Q => ∃ p ys, xs = [.ref p] ∧ (SqL K H p ys ∨ SqT K H p ys) ∧ Q (.int ys.length) H) [.v (.tup ds)] (.int ds.length) := fun O H vs _ h Q q => by
  cases h with
  | cons h t =>
    cases t
    obtain ⟨a, ws, rfl, hh, t⟩ := Dv.tup_inv h
    refine ⟨a, ws, rfl, .inr hh, ?_⟩
    rw [t.length]
    exact q _ H (Same.refl H) (.int _)
theorem rc_lenS {ns : List Int} : RCa K (fun xs H Q => ∃ p ys, xs = [.ref p] ∧ (SqL K H p ys ∨ SqT K H p ys) ∧ Q (.int ys.length) H) [.v (.scr ns)] (.int ns.length) := fun O H vs _ h Q q => by
  cases h with
  | cons h t =>
    cases t
    obtain ⟨a, rfl, hh, _⟩ := Dv.scr_inv h
    refine ⟨a, _, rfl, .inl hh, ?_⟩
    rw [List.length_map]
    exact q _ H (Same.refl H) (.int _)
end
theorem ev_len {x : Str} {p' : Pos} (h : as = [.v (.lst ds)] ∨ as = [.b ds] ∨ as = [.v (.tup ds)]) (ha : EvA X W p [e] ρ ρ1 as) (hg : Gl X x) (hm : X.mg x = none) (hv : bootBuiltins x = some (.builtin "len")) (hn : x ≠ "__name__" := by decide) (hdb : (x == ("__debug__" : Str)) = false := by decide)
    (hs : starEach [e] X.env = (false, eval e X.env) :: starEach [] X.env := by rfl) : Ev X W p (.Call (.Name x p') [e] [] pos) ρ ρ1 (.int ds.length) := by
  rcases h with rfl | rfl | rfl
  · exact ev_callB call_len_seq rc_lenL ha hg hm hv hn hdb hs
  · exact ev_callB call_len_seq rc_lenB ha hg hm hv hn hdb hs
  · exact ev_callB call_len_seq rc_lenT ha hg hm hv hn hdb hs
/-- list(f): a new list -/
theorem ef_list {x : Str} {p' : Pos} (ha : Ev X W p e ρ ρ1 (.lst ds)) (hg : Gl X x) (hm : X.mg x = none) (hv : bootBuiltins x = some (.type "list")) (hn : x ≠ "__name__" := by decide) (hdb : (x == ("__debug__" : Str)) = false := by decide)
    (hs : starEach [e] X.env = (false, eval e X.env) :: starEach [] X.env := by rfl) : EvF X W p (.Call (.Name x p') [e] [] pos) ρ ρ1 ds := fun O σ H E Q q =>
  of_pe (pe_callTy call_list_of hg hm hv semA_pa hn hdb hs) (ea_cons ha ea_nil hs O σ H E _ fun vs H1 P1 q1 => by
    cases q1 with
    | cons h t =>
      cases t
      obtain ⟨a, ws, rfl, hh, _, t⟩ := Dv.lst_inv h
      exact ⟨a, ws, rfl, .inl (SqL.of hh), fun b nb => q b ws H1 _ P1 (same_new nb) nb upd_same (t.own nb)⟩)
end
end M66
/-! Layer W, part 4: calls of defs, iteration, comprehensions. -/
namespace M66
open PySem PySem.Spec PyProof.Rows L2

/-- a def's promise: R tells from the arguments' data the answer's -/
def spA (K : PySem.W.Frag) (R : List Ar → D → Prop) : Sp := fun vs H Q _ => ∃ (O : OS) (as : List Ar) (d : D), (∀ a, O a → ∃ o, H a = some o) ∧ ArsOk K O H vs as ∧ R as d ∧ ∀ v H', Same H H' → Dv K O H' v d → Q v H'
theorem ArsOk.length {K : PySem.W.Frag} {O : OS} {H : Hp} : ∀ {vs : List V} {as : List Ar}, ArsOk K O H vs as → vs.length = as.length
  | _, _, .nil => rfl
  | _, _, .cons _ t => congrArg (· + 1) t.length
/-- the def named x keeps the promise R -/
structure FnA (P : Program) (w : World) (K : PySem.W.Frag) (mg : Str → Option Value) (base : Heap) (k : Nat) (x : Str) (ps : List Str) (R : List Ar → D → Prop) : Prop where
  at_ : ∃ (f : Addr) (fd : FuncData), FnOk P w K mg base CX0 k f fd ps (spA K R) ∧ mg x = some (.ref f) ∧ PySem.W.keepIn K (.ref f) = true ∧ Binds K fd ps []

section
variable {X : Cx} {W : Wd} {p : Bool} {ρ ρ1 ρ2 ρ3 : List Sl} {e ea eb ec : Expr} {es : List Expr} {d d1 d2 d3 : D} {ds : List D} {as : List Ar} {pos : Pos} {k : Nat}
theorem ev_call {x : Str} {p' : Pos} {ps : List Str} {R : List Ar → D → Prop} (F : FnA X.prog X.w X.K X.mg X.base k x ps R) (hr : Room k X.A) (ha : EvA X W p (e :: es) ρ ρ1 as) (hR : R as d) (hg : Gl X x) (hdb : (x == ("__debug__" : Str)) = false := by decide)
    (hs : starEach (e :: es) X.env = (false, eval e X.env) :: starEach es X.env := by rfl) (hpl : (backTo pos (starEach es X.env)).any (·.1) = false := by rfl) : Ev X W p (.Call (.Name x p') (e :: es) [] pos) ρ ρ1 d := fun O σ H E Q q => by
  obtain ⟨f, fd, F, hm, hk, hb⟩ := F.at_
  refine of_pe (pe_call F hr hg hm hk hb .nil pass0 semA_pa hdb hs hpl) (ha O σ H E _ fun vs H1 P1 q1 => ?_)
  refine ⟨O, as, d, P1.env.dom, by rw [List.append_nil]; exact q1, hR, fun v H' s hd => q v H' (P1.grow s) hd⟩

/-! ### iteration -/
def semI (X : Cx) (tg iter : Expr) : TI := fun σ H R => ∀ pins s, Inv X pins σ H s → wpAny (model X.prog X.w) X.A (eval iter X.env) (fun v s1 => wpAny (model X.prog X.w) X.A (pyIter v) (PIE X pins σ tg R) X.xe s1) X.xe s
theorem semI_pi {tg iter : Expr} : PI X tg iter (semI X tg iter) := ⟨fun pins s σ H Q I h => h pins s I⟩
theorem of_pi {tg iter : Expr} {wi : TI} (h : PI X tg iter wi) {σ : L2.St} {H : Hp} {R : L2.It → Hp → Prop} (q : wi σ H R) : semI X tg iter σ H R := fun pins s I => h.run pins s σ H R I q
/-- walking iter gives these data -/
def EvI (X : Cx) (W : Wd) (p : Bool) (tg iter : Expr) (ρ ρ' : List Sl) (ds : List D) : Prop :=
  ∀ (O : OS) (σ : L2.St) (H : Hp), EnvAt X.K W O H σ ρ → ∀ R : L2.It → Hp → Prop,
    (∀ (J : L2.It) (H1 : Hp) (G : Hp → Prop) (Y : Nat → Hp → V → Hp → Prop), Post X.K W O σ p ρ ρ' H H1 → Walk J ds.length G Y → (∀ O' H', FrO O H1 O' H' → G H') →
      (∀ (i : Nat) (d : D), ds[i]? = some d → ∀ O' H' x H'', FrO O H1 O' H' → (∀ a, O' a → ∃ o, H' a = some o) → Y i H' x H'' → Same H' H'' ∧ Dv X.K O' H'' x d) → R J H1) → semI X tg iter σ H R
theorem ei_list {tg : Expr} (a : Ev X W p e ρ ρ1 (.lst ds)) : EvI X W p tg e ρ ρ1 ds := fun O σ H E R q => of_pi (pi_list sem_pe) (a O σ H E _ fun x H1 P1 q1 => by
  obtain ⟨l, vs, rfl, hh, nO, t⟩ := q1.lst_inv
  refine ⟨l, rfl, ⟨vs, SqL.of hh⟩, q (Itl X.K l) H1 (fun H' => SqL X.K H' l vs) (YAt vs) P1 (by rw [← t.length]; exact walk_list) (fun O' H' f => SqL.of (f _ _ hh nO).1) fun i d hd O' H' x H'' f _ y => ?_⟩
  obtain ⟨rfl, hx⟩ := y
  obtain ⟨v, e1, e2⟩ := t.get hd
  rw [hx] at e1
  cases e1
  exact ⟨Same.refl _, e2.fr f⟩)
theorem ei_range1 {tg ea : Expr} {n : Int} {p1 pos : Pos} (a : EvA X W p [ea] ρ ρ1 [.v (.int n)]) (hg : Gl X "range") (hm : X.mg "range" = none) (hn : n ≤ 1000000) (hn2 : -1000000 ≤ n) (hs : starEach [ea] X.env = [(false, eval ea X.env)] := by rfl) :
    EvI X W p tg (.Call (.Name "range" p1) [ea] [] pos) ρ ρ1 ((List.range n.toNat).map fun (i : Nat) => D.int i) := fun O σ H E R q => of_pi (pi_range1 hg hm semA_pa hs) (a O σ H E _ fun vs H1 P1 q1 => by
  cases q1 with
  | cons h t =>
    cases t
    have e : _ = V.int n := Dv.int_inv h
    subst e
    refine ⟨n, rfl, Int.le_trans (by decide) hn2, Int.lt_of_le_of_lt hn (by decide), q (Itr 0 n.toNat) H1 (fun _ => True) (YFn fun i => .int (0 + i)) P1 (by rw [List.length_map, List.length_range]; exact walk_range) (fun _ _ _ => trivial) fun i d hd O' H' x H'' f _ y => ?_⟩
    obtain ⟨rfl, rfl⟩ := y
    rw [List.getElem?_map] at hd
    cases hr : (List.range n.toNat)[i]? with
    | none =>
      rw [hr] at hd
      cases hd
    | some j =>
      rw [hr] at hd
      have : j = i := by
        rw [List.getElem?_range (by
          have := (List.getElem?_eq_some_iff.mp hr).1
          rwa [List.length_range] at this)] at hr
        cases hr
        rfl
      subst this
      cases hd
      refine ⟨Same.refl _, ?_⟩
      show Dv X.K O' H'' (.int (0 + (j : Int))) (.int (j : Int))
      rw [Int.zero_add]
      exact .int _)
theorem ei_range2 {tg ea eb : Expr} {m n : Int} {p1 pos : Pos} (a : EvA X W p [ea, eb] ρ ρ1 [.v (.int m), .v (.int n)]) (hg : Gl X "range") (hm : X.mg "range" = none) (h1 : m ≤ 1000000) (h2 : -1000000 ≤ m) (h3 : n ≤ 1000000) (h4 : -1000000 ≤ n)
    (hs : starEach [ea, eb] X.env = [(false, eval ea X.env), (false, eval eb X.env)] := by rfl) (hs2 : starEach [eb] X.env = [(false, eval eb X.env)] := by rfl) :
    EvI X W p tg (.Call (.Name "range" p1) [ea, eb] [] pos) ρ ρ1 ((List.range (n - m).toNat).map fun (i : Nat) => D.int (m + i)) := fun O σ H E R q => of_pi (pi_range2 hg hm semA_pa hs hs2) (a O σ H E _ fun vs H1 P1 q1 => by
  cases q1 with
  | cons h t =>
    cases t with
    | cons h' t =>
      cases t
      have e : _ = V.int m := Dv.int_inv h
      have e' : _ = V.int n := Dv.int_inv h'
      subst e e'
      refine ⟨m, n, rfl, ⟨Int.le_trans (by decide) h2, Int.lt_of_le_of_lt h1 (by decide), Int.le_trans (by decide) h4, Int.lt_of_le_of_lt h3 (by decide)⟩, q (Itr m (n - m).toNat) H1 (fun _ => True) (YFn fun i => .int (m + i)) P1 (by rw [List.length_map, List.length_range]; exact walk_range) (fun _ _ _ => trivial) fun i d hd O' H' x H'' f _ y => ?_⟩
      obtain ⟨rfl, rfl⟩ := y
      rw [List.getElem?_map] at hd
      cases hr : (List.range (n - m).toNat)[i]? with
      | none =>
        rw [hr] at hd
        cases hd
      | some j =>
        rw [hr] at hd
        have : j = i := by
          rw [List.getElem?_range (by
            have := (List.getElem?_eq_some_iff.mp hr).1
            rwa [List.length_range] at this)] at hr
          cases hr
          rfl
        subst this
        cases hd
        exact ⟨Same.refl _, .int _⟩)
theorem ei_rev {tg : Expr} {p1 pos : Pos} (a : Ev X W p e ρ ρ1 (.lst ds)) (hg : Gl X "reversed") (hm : X.mg "reversed" = none) (hs : starEach [e] X.env = (false, eval e X.env) :: starEach [] X.env := by rfl) :
    EvI X W p tg (.Call (.Name "reversed" p1) [e] [] pos) ρ ρ1 ds.reverse := fun O σ H E R q => of_pi (RT.pi_revA hg hm sem_pe hs) (a O σ H E _ fun x H1 P1 q1 => by
  obtain ⟨l, vs, rfl, hh, nO, t⟩ := q1.lst_inv
  refine ⟨l, vs, rfl, .inl ⟨SqL.of hh, q (Itv X.K l vs.length) H1 (fun H' => SqL X.K H' l vs) (fun i H x H' => H' = H ∧ vs[vs.length - 1 - i]? = some x) P1 (by rw [List.length_reverse, ← t.length]; exact walk_rev) (fun O' H' f => SqL.of (f _ _ hh nO).1) fun i d hd O' H' x H'' f _ y => ?_⟩⟩
  obtain ⟨rfl, hx⟩ := y
  have hi : i < ds.length := by
    have := (List.getElem?_eq_some_iff.mp hd).1
    rwa [List.length_reverse] at this
  rw [List.getElem?_reverse hi, ← t.length] at hd
  obtain ⟨v, e1, e2⟩ := t.get hd
  rw [hx] at e1
  cases e1
  exact ⟨Same.refl _, e2.fr f⟩)
theorem ei_enum {elts : List Expr} {kk : Nat} {tpos : Pos} {p1 pos : Pos} (a : Ev X W p e ρ ρ1 (.lst ds)) (hg : Gl X "enumerate") (hm : X.mg "enumerate" = none) (hs : starEach [e] X.env = [(false, eval e X.env)] := by rfl) :
    EvI X W p (.Tuple elts kk tpos) (.Call (.Name "enumerate" p1) [e] [] pos) ρ ρ1 (ds.zipIdx.map fun z => .tup [.int z.2, z.1]) := fun O σ H E R q => of_pi (pi_enum hg hm semA_pa hs) (ea_cons a ea_nil hs O σ H E _ fun vs H1 P1 q1 => by
  cases q1 with
  | cons h t =>
    cases t
    obtain ⟨l, vs, rfl, hh, nO, t⟩ := Dv.lst_inv h
    refine ⟨l, vs, rfl, SqL.of hh, q (Ite X.K l) H1 (fun H' => SqL X.K H' l vs) (YPair (fun i => some (.int (i : Nat))) (fun i => vs[i]?)) P1 (by rw [List.length_map, List.length_zipIdx, ← t.length]; exact walk_enum) (fun O' H' f => SqL.of (f _ _ hh nO).1) fun i d hd O' H' x H'' f dm y => ?_⟩
    obtain ⟨T, u, z, rfl, nT, rfl, h1, h2⟩ := y
    cases h1
    rw [List.getElem?_map, List.getElem?_zipIdx] at hd
    cases hr : ds[i]? with
    | none =>
      rw [hr] at hd
      cases hd
    | some d' =>
      rw [hr] at hd
      simp only [Option.map_some, Option.some.injEq, Nat.zero_add] at hd
      subst hd
      obtain ⟨v, e1, e2⟩ := t.get hr
      cases (show some z = some v from (show vs[i]? = some z from h2).symm.trans e1)
      refine ⟨same_new nT, .tup upd_same (fun o => ?_) (.cons (.int _) (.cons ((e2.fr f).same (same_new nT)) .nil))⟩
      obtain ⟨u, hu⟩ := dm T o
      rw [nT] at hu
      cases hu)
theorem ei_zip {elts : List Expr} {kk : Nat} {tpos : Pos} {p1 pos : Pos} {es' : List D} (a : Ev X W true ea ρ ρ (.lst ds)) (b : Ev X W true eb ρ ρ (.lst es')) (hg : Gl X "zip") (hm : X.mg "zip" = none)
    (hs : starEach [ea, eb] X.env = (false, eval ea X.env) :: starEach [eb] X.env := by rfl) (hs2 : starEach [eb] X.env = (false, eval eb X.env) :: starEach [] X.env := by rfl) (hpl : (backTo pos (starEach [eb] X.env)).any (·.1) = false := by rfl) :
    EvI X W p (.Tuple elts kk tpos) (.Call (.Name "zip" p1) [ea, eb] [] pos) ρ ρ ((ds.zip es').map fun z => .tup [z.1, z.2]) := fun O σ H E R q => of_pi (pi_zip hg hm semA_pa hs hpl) (ea_cons a (ea_cons b ea_nil hs2) hs O σ H E _ fun vs H1 P1 q1 => by
  cases q1 with
  | cons h t =>
    cases t with
    | cons h' t =>
      cases t
      obtain ⟨l, vs, rfl, hh, nO, t⟩ := Dv.lst_inv h
      obtain ⟨l2, ws, rfl, hh2, nO2, t2⟩ := Dv.lst_inv h'
      refine ⟨l, l2, vs, ws, rfl, SqL.of hh, SqL.of hh2, q (Itz X.K l l2) H1 (fun H' => SqL X.K H' l vs ∧ SqL X.K H' l2 ws) (YPair (fun i => vs[i]?) (fun i => ws[i]?)) ((Post.refl E).grow (P1.pu rfl).2) (walk_zip (by rw [List.length_map, List.length_zip, t.length, t2.length])) (fun O' H' f => ⟨SqL.of (f _ _ hh nO).1, SqL.of (f _ _ hh2 nO2).1⟩) fun i d hd O' H' x H'' f dm y => ?_⟩
      obtain ⟨T, u, z, rfl, nT, rfl, h1, h2⟩ := y
      rw [List.getElem?_map] at hd
      cases hr : (ds.zip es')[i]? with
      | none =>
        rw [hr] at hd
        cases hd
      | some d' =>
        rw [hr] at hd
        cases hd
        obtain ⟨z1, z2⟩ := List.getElem?_zip_eq_some.mp hr
        obtain ⟨v, e1, e2⟩ := t.get z1
        obtain ⟨v2, e3, e4⟩ := t2.get z2
        cases (show some u = some v from (show vs[i]? = some u from h1).symm.trans e1)
        cases (show some z = some v2 from (show ws[i]? = some z from h2).symm.trans e3)
        refine ⟨same_new nT, .tup upd_same (fun o => ?_) (.cons ((e2.fr f).same (same_new nT)) (.cons ((e4.fr f).same (same_new nT)) .nil))⟩
        obtain ⟨u, hu⟩ := dm T o
        rw [nT] at hu
        cases hu)

/-! ### targets -/
def semG (X : Cx) (tg : Expr) : TG := fun v σ H Q => ∀ pins s u, Inv X pins σ H s → RelV v u → wpAny (model X.prog X.w) X.A (assign tg X.env u) (fun _ s' => ∃ σ' H', Inv X pins σ' H' s' ∧ Q σ' H') X.xe s
theorem of_pg {tg : Expr} {g : TG} (h : PG X tg g) {v : V} {σ : L2.St} {H : Hp} {Q : L2.St → Hp → Prop} (q : g v σ H Q) : semG X tg v σ H Q := fun pins s u I r => h.run pins s σ H v u Q I r q
theorem semG_pg {tg : Expr} : PG X tg (semG X tg) := ⟨fun pins s σ H v u Q I r h => h pins s u I r⟩
/-- the datum goes to the target: slots of is alone change -/
def EvG (X : Cx) (W : Wd) (tg : Expr) (is : List Nat) (ρ : List Sl) (d : D) (ρ' : List Sl) : Prop :=
  ∀ (O : OS) (σ : L2.St) (H : Hp) (v : V), EnvAt X.K W O H σ ρ → Dv X.K O H v d → ∀ Q : L2.St → Hp → Prop, (∀ σ', EnvAt X.K W O H σ' ρ' → σ'.length = σ.length → (∀ j : Nat, j ∉ is → σ'[j]? = σ[j]?) → Q σ' H) → semG X tg v σ H Q
theorem eg_name (i : Nat) {x : Str} (hN : X.N.Nodup) (hi : X.N[i]? = some x) (hx : Loc X.env.scope x) (hm : W.mu = none ∨ i ≠ 0) (hf : X.fn x = true ∨ X.env.scope.names.lookup x = some .local := by first | exact .inl rfl | exact .inr rfl | assumption) :
    EvG X W (.Name x pos) [i] ρ d (ρ.set i (.val d)) := fun O σ H v E hd Q q => of_pg (pg_name hN hi hx hf) (q _ (E.put hm hd) (List.length_set ..) fun j hj => by
  rw [List.getElem?_set_ne (fun z => hj (by rw [z]; exact List.mem_singleton_self _))])
theorem eg_pair {ta tb : Expr} {ia ib : List Nat} {kk : Nat} (hc : X.calm = true) (a : EvG X W ta ia ρ d1 ρ1) (b : EvG X W tb ib ρ1 d2 ρ2) (hst : (assignEach [ta, tb] X.env).findIdx? (·.1) = none := by rfl) (hn : (assignEach [ta, tb] X.env).length = 2 := by rfl)
    (h1 : (assignEach [ta, tb] X.env).map (·.2) = assign ta X.env :: (assignEach [tb] X.env).map (·.2) := by rfl) (h2 : (assignEach [tb] X.env).map (·.2) = assign tb X.env :: (assignEach [] X.env).map (·.2) := by rfl) :
    EvG X W (.Tuple [ta, tb] kk pos) (ia ++ ib) ρ (.tup [d1, d2]) ρ2 := fun O σ H v E hd Q q => of_pg (pg_tup hc (pgs_cons semG_pg (pgs_cons semG_pg pgs_nil h2) h1) hn hst) (by
  obtain ⟨l, vs, rfl, hh, t⟩ := hd.tup_inv
  cases t with
  | cons h t =>
    cases t with
    | cons h' t =>
      cases t
      refine ⟨l, _, rfl, hh, rfl, _, _, rfl, a O σ H _ E h _ fun σ1 E1 l1 j1 => ⟨_, _, rfl, b O σ1 H _ E1 h' _ fun σ2 E2 l2 j2 => ⟨rfl, q σ2 E2 (l2.trans l1) fun j hj => ?_⟩⟩⟩
      rw [List.mem_append] at hj
      rw [j2 j (fun z => hj (.inr z)), j1 j (fun z => hj (.inl z))])

/-! ### comprehensions -/
def wipeR (ρ : List Sl) : List Nat → List Sl
  | [] => ρ
  | v :: vs => (wipeR ρ vs).set v .un
theorem wipeR_length (ρ : List Sl) : ∀ vs : List Nat, (wipeR ρ vs).length = ρ.length
  | [] => rfl
  | v :: vs => by rw [wipeR, List.length_set, wipeR_length ρ vs]
theorem wipeR_some {ρ : List Sl} {i : Nat} {s : Sl} (hs : s ≠ .un) : ∀ {vs : List Nat}, (wipeR ρ vs)[i]? = some s → ρ[i]? = some s ∧ i ∉ vs
  | [], h => ⟨h, by simp⟩
  | v :: vs, h => by
    rw [wipeR] at h
    by_cases hi : v = i
    · subst hi
      have hl : v < (wipeR ρ vs).length := by
        have := (List.getElem?_eq_some_iff.mp h).1
        rwa [List.length_set] at this
      rw [List.getElem?_set_self hl] at h
      cases h
      exact absurd rfl hs
    · rw [List.getElem?_set_ne hi] at h
      obtain ⟨h1, h2⟩ := wipeR_some hs h
      exact ⟨h1, by simp [Ne.symm hi, h2]⟩
theorem wipe_ext {σ σ' : L2.St} (hl : σ'.length = σ.length) : ∀ {vs : List Nat}, (∀ j : Nat, j ∉ vs → σ'[j]? = σ[j]?) → wipe σ' vs = wipe σ vs := by
  intro vs h
  apply List.ext_getElem?
  intro i
  by_cases hi : i ∈ vs
  · have key : ∀ (τ : L2.St) (vs : List Nat), i ∈ vs → i < τ.length → (wipe τ vs)[i]? = some none := by
      intro τ vs
      induction vs with
      | nil => intro hm; cases hm
      | cons v vs ih =>
        intro hm hlt
        rw [wipe]
        by_cases hv : v = i
        · subst hv
          exact List.getElem?_set_self (by rw [wipe_length]; exact hlt)
        · rw [List.getElem?_set_ne hv]
          rcases List.mem_cons.mp hm with z | z
          · exact absurd z.symm hv
          · exact ih z hlt
    by_cases hlt : i < σ.length
    · rw [key σ vs hi hlt, key σ' vs hi (by rw [hl]; exact hlt)]
    · rw [List.getElem?_eq_none (by rw [wipe_length]; omega), List.getElem?_eq_none (by rw [wipe_length]; omega)]
  · rw [wipe_out hi, wipe_out hi, h i hi]
theorem EnvAt.wiped {K : PySem.W.Frag} {O : OS} {H : Hp} {σ : L2.St} (E : EnvAt K W O H σ ρ) (hm : W.mu = none) (vs : List Nat) : EnvAt K W O H (wipe σ vs) (wipeR ρ vs) :=
  E.weak (by rw [wipe_length, wipeR_length]; exact E.len) (fun i s h hs => by
    obtain ⟨h1, h2⟩ := wipeR_some hs h
    exact ⟨h1, wipe_out h2⟩) hm
theorem EnvAt.add {K : PySem.W.Frag} {O : OS} {H : Hp} {σ : L2.St} (E : EnvAt K W O H σ ρ) {a : Addr} {o : HO} (na : H a = none) : EnvAt K W (fun b => O b ∨ b = a) (upd H a o) σ ρ := by
  have s := same_new (o := o) na
  have fr : FrO O H (fun b => O b ∨ b = a) (upd H a o) := fun b u hb n => ⟨s b u hb, fun z => z.elim n (ne_of_none hb na)⟩
  have E1 := E.grow s
  refine ⟨E.len, E1.ext, E.domW, fun b hb => ?_, fun b hb => .inl (E.sub b hb), fun i d h => ?_, fun i ds h => ?_, fun i ds h => ?_, E.mu0⟩
  · rcases hb with hb | hb
    · exact E1.dom b hb
    · exact ⟨o, by rw [hb]; exact upd_same⟩
  · obtain ⟨v, e1, e2⟩ := E.val i d h
    exact ⟨v, e1, e2.fr fr⟩
  · obtain ⟨b, vs, e, ob, m, q, t, z⟩ := E.own i ds h
    exact ⟨b, vs, e, .inl ob, m, s _ _ q, t.fr fr, z⟩
  · obtain ⟨b, vs, e, ob, m, q, t⟩ := E.bor i ds h
    exact ⟨b, vs, e, ob, m, q, t.fr fr⟩
/-- the tests of a comprehension -/
def semTs (X : Cx) (ifs : List Expr) : TT := fun σ H Q => ∀ pins s, Inv X pins σ H s → wpAny (model X.prog X.w) X.A (forIn ifs true fun c r => if r = true then do let ok ← isTrue c X.env (eval c X.env); pure (ForInStep.yield ok) else pure (ForInStep.yield r)) (TP X pins σ Q) X.xe s
def EvTs (X : Cx) (W : Wd) (ifs : List Expr) (ρ : List Sl) (c : Bool) : Prop :=
  ∀ (O : OS) (σ : L2.St) (H : Hp), EnvAt X.K W O H σ ρ → ∀ Q : Bool → Hp → Prop, (∀ H', Same H H' → Q c H') → semTs X ifs σ H Q
theorem of_pts {ifs : List Expr} {t : TT} (h : PTs X ifs t) {σ : L2.St} {H : Hp} {Q : Bool → Hp → Prop} (q : t σ H Q) : semTs X ifs σ H Q := fun pins s I => h.run pins s σ H Q I q
theorem ets_nil : EvTs X W [] ρ true := fun O σ H E Q q => of_pts pts_nil (q H (Same.refl H))
theorem ets_one {c : Bool} (a : EvT X W true e ρ ρ c) : EvTs X W [e] ρ c := fun O σ H E Q q => of_pts (pts_one semT_pt) (a O σ H E Q fun H' P => q H' (P.pu rfl).2)

/-- a family of contexts: the block of a comprehension -/
abbrev semB (X : Cx) (scope : Scope) (e : Expr) : TE := fun σ H Q => ∀ (s : Shared) (H' : Hp) (C : Addr) (cl : List (Str × Addr)) (fp : List Addr), sem (X.blk s H' scope (compEnvC scope cl C X.env) fp) e σ H Q
abbrev semTsB (X : Cx) (scope : Scope) (ifs : List Expr) : TT := fun σ H Q => ∀ (s : Shared) (H' : Hp) (C : Addr) (cl : List (Str × Addr)) (fp : List Addr), semTs (X.blk s H' scope (compEnvC scope cl C X.env) fp) ifs σ H Q
abbrev semGB (X : Cx) (scope : Scope) (tg : Expr) : TG := fun v σ H Q => ∀ (s : Shared) (H' : Hp) (C : Addr) (cl : List (Str × Addr)) (fp : List Addr), semG (X.blk s H' scope (compEnvC scope cl C X.env) fp) tg v σ H Q
/-- what a comprehension needs, and what it gives -/
def LcOk (X : Cx) (W : Wd) (p : Bool) (tg iter elt : Expr) (ifs : List Expr) (scope : Scope) (own : List (Str × Nat)) (ρ ρ1 : List Sl) (es : List D) : Prop :=
  BlkOk X.N X.env.scope scope own ∧ ∀ (O : OS) (σ : L2.St) (H : Hp), EnvAt X.K W O H σ ρ → ∀ Q : VK, (∀ a vs H1 H', Post X.K W O σ p ρ ρ1 H H1 → Same H1 H' → H1 a = none → H' a = some (.lst vs) → DvL X.K (fun b => O b ∨ b = a) H' vs es → Q (.ref a) H') →
    tLc (semI X tg iter) (semGB X scope tg) (semTsB X scope ifs) (semB X scope elt) (own.map (·.2)) σ H Q
theorem lcOk {α : Type} {xs : List α} {g : α → D} {b : α → Bool} {h : α → D} {elt tg iter : Expr} {ifs : List Expr} {scope : Scope} {own : List (Str × Nat)} {is : List Nat} {ds : List D} (hds : ds = xs.map g) (hm : W.mu = none)
    (hi : EvI X W p tg iter ρ ρ1 ds) (ok : BlkOk X.N X.env.scope scope own) (hl : xs.length < 1000000) (his : ∀ i ∈ is, i ∈ own.map (·.2))
    (body : ∀ x ∈ xs, ∃ ρ2, ∀ (s : Shared) (H : Hp) (C : Addr) (cl : List (Str × Addr)) (fp : List Addr), EvG (X.blk s H scope (compEnvC scope cl C X.env) fp) W tg is (wipeR ρ1 (own.map (·.2))) (g x) ρ2 ∧
      EvTs (X.blk s H scope (compEnvC scope cl C X.env) fp) W ifs ρ2 (b x) ∧ (b x = true → Ev (X.blk s H scope (compEnvC scope cl C X.env) fp) W true elt ρ2 ρ2 (h x))) :
    LcOk X W p tg iter elt ifs scope own ρ ρ1 ((xs.filter b).map h) := ⟨ok, fun O σ H E Q q => by
  subst hds
  refine hi O σ H E _ fun J H1 G Y P1 w hG hY => fun Dd nD => ?_
  rw [List.length_map] at w
  have sD := same_new (o := .lst []) nD
  have key := lc_it (g := semGB X scope tg) (tt := semTsB X scope ifs) (te := semB X scope elt)
    (vs := own.map (·.2)) (σ := σ) (D := Dd) (Qd := fun H' => Q (.ref Dd) H') w
    (fun i H' => EnvAt X.K W (fun c => O c ∨ c = Dd) H' σ ρ1 ∧ Same H1 H' ∧ ∃ acc, H' Dd = some (.lst acc) ∧ acc.length ≤ i ∧ DvL X.K (fun c => O c ∨ c = Dd) H' acc (((xs.take i).filter b).map h)) ⟨P1.env.add nD, sD, [], upd_same, Nat.zero_le _, .nil⟩
    (fun i H' hi2 hp => hG (fun c => O c ∨ c = Dd) H' fun c u hc n => ⟨hp.2.1 c u hc, fun z => z.elim n (ne_of_none hc nD)⟩)
  refine key (fun i x H' H'' hlt hp hy => ?_) (fun H' hp => ?_)
  · obtain ⟨E1, s1, acc, ha, hal, ht⟩ := hp
    have fr1 : FrO O H1 (fun c => O c ∨ c = Dd) H' := fun c u hc n => ⟨s1 c u hc, fun z => z.elim n (ne_of_none hc nD)⟩
    obtain ⟨s2, hx⟩ := hY i (g xs[i]) (by rw [List.getElem?_map, List.getElem?_eq_getElem hlt]; rfl) _ H' x H'' fr1 E1.dom hy
    have E2 := E1.grow s2
    intro s0 H0 C cl fp
    obtain ⟨ρ2, bb⟩ := body xs[i] (List.getElem_mem hlt)
    refine (bb s0 H0 C cl fp).1 _ (wipe σ (own.map (·.2))) H'' x (E2.wiped hm _) hx _ fun σ2 E3 hl2 hj => ?_
    refine ⟨?_, fun s0' H0' C' cl' fp' => ?_⟩
    · rw [wipe_ext hl2 fun j hjn => hj j fun z => hjn (his j z)]
      apply wipe_ext (wipe_length _ _)
      intro j hjn
      exact wipe_out hjn
    · have tk : xs.take (i + 1) = xs.take i ++ [xs[i]] := by rw [List.take_add_one, List.getElem?_eq_getElem hlt]; rfl
      refine (bb s0' H0' C' cl' fp').2.1 _ σ2 H'' E3 _ fun H3 s3 => ?_
      have E4 := E3.grow s3
      have hd3 : H3 Dd = some (.lst acc) := s3 _ _ (s2 _ _ ha)
      have ht3 := (ht.same s2).same s3
      have s13 := (s1.trans s2).trans s3
      have E13 := E2.grow s3
      by_cases hb : b xs[i] = true
      · rw [if_pos hb]
        intro s5 H5 C5 cl5 fp5
        refine (bb s5 H5 C5 cl5 fp5).2.2 hb _ σ2 H3 E4 _ fun y H4 P4 q4 => ?_
        have s4 := (P4.pu rfl).2
        have hd4 := s4 _ _ hd3
        have nDO : ∀ c u, H1 c = some u → c ≠ Dd := fun c u hc => ne_of_none hc nD
        have fr4 : FrO (fun c => O c ∨ c = Dd) H4 (fun c => O c ∨ c = Dd) (upd H4 Dd (.lst (acc ++ [y]))) := fun c u hc n => by
          have nc : c ≠ Dd := fun z => n (.inr z)
          exact ⟨by rw [upd_ne nc]; exact hc, n⟩
        have E5 := E13.grow s4
        refine ⟨acc, hd4, Nat.lt_of_lt_of_le (Nat.lt_of_le_of_lt hal (Nat.lt_trans hlt hl)) (by decide), ⟨E5.len, fun c u hc nm => ?_, E5.domW, fun c hc => ?_, E5.sub, fun j d hj => ?_, fun j ds hj => ?_, fun j ds hj => ?_, E5.mu0⟩, fun c u hc => ?_, acc ++ [y], upd_same, ?_, ?_⟩
        · have nc : c ≠ Dd := by
            intro z
            have w1 := P1.env.ext c u hc nm
            exact nDO c u w1 z
          rw [upd_ne nc]
          exact E5.ext c u hc nm
        · by_cases nc : c = Dd
          · exact ⟨_, by rw [nc]; exact upd_same⟩
          · rw [upd_ne nc]
            exact E5.dom c hc
        · obtain ⟨v, w1, w2⟩ := E5.val j d hj
          exact ⟨v, w1, w2.fr fr4⟩
        · obtain ⟨c, vs, w1, w2, w3, w4, w5, w6⟩ := E5.own j ds hj
          obtain ⟨c', vs', w1', w2', _, w4', _⟩ := P1.env.own j ds hj
          have ec : c' = c := by
            have := w1'.symm.trans w1
            cases this
            rfl
          subst ec
          have nc := nDO c' _ w4'
          exact ⟨c', vs, w1, w2, w3, by rw [upd_ne nc]; exact w4, w5.fr fr4, w6⟩
        · obtain ⟨c, vs, w1, w2, w3, w4, w5⟩ := E5.bor j ds hj
          exact ⟨c, vs, w1, w2, w3, w4, w5.fr fr4⟩
        · rw [upd_ne (nDO c u hc)]
          exact s4 _ _ (s13 _ _ hc)
        · rw [List.length_append]
          exact Nat.succ_le_succ hal
        · rw [tk, List.filter_append, List.map_append, List.filter_cons, hb]
          exact ((ht3.same s4).fr fr4).append (.cons (q4.fr fr4) .nil)
      · rw [if_neg hb]
        refine ⟨E13, s13, acc, hd3, Nat.le_succ_of_le hal, ?_⟩
        rw [tk, List.filter_append, List.map_append, List.filter_cons, if_neg hb]
        rw [List.filter_nil, List.map_nil, List.append_nil]
        exact ht3
  · obtain ⟨E1, s1, acc, ha, hal, ht⟩ := hp
    rw [List.take_of_length_le (Nat.le_refl _)] at ht
    exact q Dd acc H1 H' P1 s1 nD ha ht⟩
theorem semB_pe {scope : Scope} {elt : Expr} (s : Shared) (H : Hp) (C : Addr) (cl : List (Str × Addr)) (fp : List Addr) : PE (X.blk s H scope (compEnvC scope cl C X.env) fp) elt (semB X scope elt) := ⟨fun pins s' σ H' Q I z => z s H C cl fp pins s' I⟩
theorem semTsB_pts {scope : Scope} {ifs : List Expr} (s : Shared) (H : Hp) (C : Addr) (cl : List (Str × Addr)) (fp : List Addr) : PTs (X.blk s H scope (compEnvC scope cl C X.env) fp) ifs (semTsB X scope ifs) := ⟨fun pins s' σ H' Q I z => z s H C cl fp pins s' I⟩
theorem semGB_pg {scope : Scope} {tg : Expr} (s : Shared) (H : Hp) (C : Addr) (cl : List (Str × Addr)) (fp : List Addr) : PG (X.blk s H scope (compEnvC scope cl C X.env) fp) tg (semGB X scope tg) := ⟨fun pins s' σ H' v u Q I r z => z s H C cl fp pins s' u I r⟩
theorem LcOk.ef {elt tg iter : Expr} {ifs : List Expr} {scope : Scope} {own : List (Str × Nat)} {es : List D} (h : LcOk X W p tg iter elt ifs scope own ρ ρ1 es) (hc : X.calm = true) (hN : X.N.Nodup) (hs : ∀ x, foldedSetIterable iter X.env x = pure x := by intro _; rfl) :
    EvF X W p (.ListComp elt [⟨tg, iter, ifs, 0⟩] scope pos) ρ ρ1 es := fun O σ H E Q q => of_pe (pe_lc hc hN semI_pi h.1 semGB_pg semTsB_pts semB_pe hs) (h.2 O σ H E Q q)
theorem filter_tt {α : Type} : ∀ xs : List α, xs.filter (fun _ => true) = xs
  | [] => rfl
  | x :: xs => by rw [List.filter_cons, if_pos rfl, filter_tt xs]
/-- [elt for tg in iter] -/
theorem lc_all {α : Type} (xs : List α) (g h : α → D) {elt tg iter : Expr} {scope : Scope} (own : List (Str × Nat)) {is : List Nat} {ds : List D} (hi : EvI X W p tg iter ρ ρ1 ds) (hds : ds = xs.map g) (hm : W.mu = none)
    (ok : BlkOk X.N X.env.scope scope own) (hl : xs.length < 1000000) (his : ∀ i ∈ is, i ∈ own.map (·.2))
    (body : ∀ x ∈ xs, ∃ ρ2, ∀ (s : Shared) (H : Hp) (C : Addr) (cl : List (Str × Addr)) (fp : List Addr), EvG (X.blk s H scope (compEnvC scope cl C X.env) fp) W tg is (wipeR ρ1 (own.map (·.2))) (g x) ρ2 ∧
      Ev (X.blk s H scope (compEnvC scope cl C X.env) fp) W true elt ρ2 ρ2 (h x)) : LcOk X W p tg iter elt [] scope own ρ ρ1 (xs.map h) := by
  have := lcOk (b := fun _ => true) (h := h) hds hm hi ok hl his (fun x hx => (body x hx).imp fun ρ2 q s H C cl fp => ⟨(q s H C cl fp).1, ets_nil, fun _ => (q s H C cl fp).2⟩)
  rwa [filter_tt] at this
/-- [elt for tg in iter if test] -/
theorem lc_if {α : Type} (xs : List α) (g : α → D) (b : α → Bool) (h : α → D) {elt tg iter test : Expr} {scope : Scope} (own : List (Str × Nat)) {is : List Nat} {ds : List D} (hi : EvI X W p tg iter ρ ρ1 ds) (hds : ds = xs.map g) (hm : W.mu = none)
    (ok : BlkOk X.N X.env.scope scope own) (hl : xs.length < 1000000) (his : ∀ i ∈ is, i ∈ own.map (·.2))
    (body : ∀ x ∈ xs, ∃ ρ2, ∀ (s : Shared) (H : Hp) (C : Addr) (cl : List (Str × Addr)) (fp : List Addr), EvG (X.blk s H scope (compEnvC scope cl C X.env) fp) W tg is (wipeR ρ1 (own.map (·.2))) (g x) ρ2 ∧
      EvT (X.blk s H scope (compEnvC scope cl C X.env) fp) W true test ρ2 ρ2 (b x) ∧ (b x = true → Ev (X.blk s H scope (compEnvC scope cl C X.env) fp) W true elt ρ2 ρ2 (h x))) : LcOk X W p tg iter elt [test] scope own ρ ρ1 ((xs.filter b).map h) :=
  lcOk hds hm hi ok hl his (fun x hx => (body x hx).imp fun ρ2 q s H C cl fp => ⟨(q s H C cl fp).1, ets_one (q s H C cl fp).2.1, (q s H C cl fp).2.2⟩)
end
end M66
/-! Layer W, part 5: statements, bodies of defs. -/
namespace M66
open PySem PySem.Spec PyProof.Rows L2

def sems (X : Cx) (st : Stmt) : TS := fun D σ H => ∀ pins s, Inv X pins σ H s → wpAny (model X.prog X.w) X.A (exec st X.env) (SP X pins D) X.xe s
def semss (X : Cx) (st : List Stmt) : TS := fun D σ H => ∀ pins s, Inv X pins σ H s → wpAny (model X.prog X.w) X.A (execs st X.env) (SP X pins D) X.xe s
section
variable {X : Cx} {st : Stmt} {sts : List Stmt}
theorem sems_ps : PS X st (sems X st) := ⟨fun pins s σ H D I h => h pins s I⟩
theorem of_ps {t : TS} (h : PS X st t) {D : Ends} {σ : L2.St} {H : Hp} (q : t D σ H) : sems X st D σ H := fun pins s I => h.run pins s σ H D I q
theorem semss_pss : PSs X sts (semss X sts) := ⟨fun pins s σ H D I h => h pins s I⟩
theorem of_pss {t : TS} (h : PSs X sts t) {D : Ends} {σ : L2.St} {H : Hp} (q : t D σ H) : semss X sts D σ H := fun pins s I => h.run pins s σ H D I q
end
/-- what is handed back: a datum; a new list of scalars -/
inductive Rv where
  | d (d : D) | f (ds : List D)
def RvOk (K : PySem.W.Frag) (W : Wd) (O : OS) (H : Hp) (v : V) : Rv → Prop
  | .d d => Dv K O H v d
  | .f ds => ∃ a vs, v = .ref a ∧ W.H a = none ∧ H a = some (.lst vs) ∧ DvL K (fun _ => True) H vs ds
/-- what is wanted behind a statement -/
structure Wt (K : PySem.W.Frag) (W : Wd) (O : OS) (H : Hp) (Nx : List Sl → Prop) (Rt : Rv → List Sl → Prop) (D : Ends) : Prop where
  nx : ∀ O' σ' H' ρ', Nx ρ' → EnvAt K W O' H' σ' ρ' → FrO O H O' H' → D.nx σ' H'
  rt : ∀ O' σ' H' ρ' v r, Rt r ρ' → EnvAt K W O' H' σ' ρ' → FrO O H O' H' → RvOk K W O' H' v r → D.rt v H'
def StD (X : Cx) (W : Wd) (st : Stmt) (ρ : List Sl) (Nx : List Sl → Prop) (Rt : Rv → List Sl → Prop) : Prop :=
  ∀ (O : OS) (σ : L2.St) (H : Hp), EnvAt X.K W O H σ ρ → ∀ D : Ends, Wt X.K W O H Nx Rt D → sems X st D σ H
def StsD (X : Cx) (W : Wd) (sts : List Stmt) (ρ : List Sl) (Nx : List Sl → Prop) (Rt : Rv → List Sl → Prop) : Prop :=
  ∀ (O : OS) (σ : L2.St) (H : Hp), EnvAt X.K W O H σ ρ → ∀ D : Ends, Wt X.K W O H Nx Rt D → semss X sts D σ H

section
variable {X : Cx} {W : Wd} {p : Bool} {ρ ρ1 ρ2 ρ3 : List Sl} {e ea eb ec : Expr} {es : List Expr} {d d1 d2 d3 : D} {ds : List D} {as : List Ar} {pos pos' : Pos} {k : Nat} {Nx M : List Sl → Prop} {Rt : Rv → List Sl → Prop} {st : Stmt} {sts : List Stmt}
theorem Wt.from {O O1 : OS} {H H1 : Hp} {D : Ends} (w : Wt X.K W O H Nx Rt D) (f : FrO O H O1 H1) : Wt X.K W O1 H1 Nx Rt D :=
  ⟨fun O' σ' H' ρ' n E g => w.nx O' σ' H' ρ' n E (f.trans g), fun O' σ' H' ρ' v r n E g h => w.rt O' σ' H' ρ' v r n E (f.trans g) h⟩

/-! blocks -/
theorem ss_nil (h : Nx ρ) : StsD X W [] ρ Nx Rt := fun O σ H E D w => of_pss pss_nil (w.nx O σ H ρ h E FrO.refl)
theorem ss_cons (a : StD X W st ρ M Rt) (b : ∀ ρ', M ρ' → StsD X W sts ρ' Nx Rt) : StsD X W (st :: sts) ρ Nx Rt := fun O σ H E D w =>
  of_pss (pss_cons sems_ps semss_pss) (a O σ H E _ ⟨fun O' σ' H' ρ' n E' f => b ρ' n O' σ' H' E' D (w.from f), fun O' σ' H' ρ' v r n E' f h => w.rt O' σ' H' ρ' v r n E' f h⟩)
/-- one way through, to a known environment -/
theorem ss_seq (a : StD X W st ρ (fun ρ' => ρ' = ρ1) Rt) (b : StsD X W sts ρ1 Nx Rt) : StsD X W (st :: sts) ρ Nx Rt := ss_cons a fun ρ' e => by rw [e]; exact b
theorem ss_one (a : StD X W st ρ Nx Rt) : StsD X W [st] ρ Nx Rt := ss_cons a fun ρ' h => ss_nil h
theorem ss_freeze (i : Nat) (h : ρ[i]? = some (.own ds)) (hm : W.mu = none ∨ i ≠ 0) (b : StsD X W sts (ρ.set i (.val (.lst ds))) Nx Rt) : StsD X W sts ρ Nx Rt := fun O σ H E D w => by
  obtain ⟨O', E', f⟩ := E.freeze hm h
  exact b O' σ H E' D (w.from f)
theorem StD.imp {Nx' : List Sl → Prop} {Rt' : Rv → List Sl → Prop} (a : StD X W st ρ Nx Rt) (h1 : ∀ ρ', Nx ρ' → Nx' ρ') (h2 : ∀ r ρ', Rt r ρ' → Rt' r ρ') : StD X W st ρ Nx' Rt' := fun O σ H E D w =>
  a O σ H E D ⟨fun O' σ' H' ρ' n => w.nx O' σ' H' ρ' (h1 _ n), fun O' σ' H' ρ' v r n => w.rt O' σ' H' ρ' v r (h2 _ _ n)⟩
theorem StsD.imp {Nx' : List Sl → Prop} {Rt' : Rv → List Sl → Prop} (a : StsD X W sts ρ Nx Rt) (h1 : ∀ ρ', Nx ρ' → Nx' ρ') (h2 : ∀ r ρ', Rt r ρ' → Rt' r ρ') : StsD X W sts ρ Nx' Rt' := fun O σ H E D w =>
  a O σ H E D ⟨fun O' σ' H' ρ' n => w.nx O' σ' H' ρ' (h1 _ n), fun O' σ' H' ρ' v r n => w.rt O' σ' H' ρ' v r (h2 _ _ n)⟩

/-! return, expressions, assignments -/
theorem st_ret (a : Ev X W false e ρ ρ1 d) (h : Rt (.d d) ρ1) : StD X W (.Return (some e) pos) ρ Nx Rt := fun O σ H E D w =>
  of_ps (ps_ret sem_pe) (a O σ H E _ fun v H' P hd => w.rt O σ H' ρ1 v _ h P.env P.fr hd)
/-- an own list is handed back -/
theorem st_retO (i : Nat) {x : Str} (hi : ρ[i]? = some (.own ds)) (hm : W.mu = none ∨ i ≠ 0) (h : Rt (.d (.lst ds)) (ρ.set i (.val (.lst ds)))) (hN : X.N[i]? = some x) (hv : Vis X.env.scope x) (hd : (x == ("__debug__" : Str)) = false := by decide) (hcd : (x == ("__classdict__" : Str)) = false := by decide) :
    StD X W (.Return (some (.Name x pos')) pos) ρ Nx Rt := fun O σ H E D w => by
  obtain ⟨O', E', f⟩ := E.freeze hm hi
  have hl : i < ρ.length := (List.getElem?_eq_some_iff.mp hi).1
  refine st_ret (Nx := Nx) (ev_var i (List.getElem?_set_self hl) hN hv hd hcd) h O' σ H E' D (w.from f)
/-- a new list of scalars is handed back -/
theorem st_retF (a : EvF X W false e ρ ρ1 ds) (h : Rt (.f ds) ρ1) (hd : ∀ {K : PySem.W.Frag} {O : OS} {H : Hp} {vs : List V}, DvL K O H vs ds → DvL K (fun _ => True) H vs ds) : StD X W (.Return (some e) pos) ρ Nx Rt := fun O σ H E D w =>
  of_ps (ps_ret sem_pe) (a O σ H E _ fun l vs H1 H' P s na ha t => w.rt O σ H' ρ1 _ _ h (P.env.grow s) (P.fr.trans (FrO.of_same s)) ⟨l, vs, rfl, P.env.freshW na, ha, hd t⟩)
theorem st_set (i : Nat) {x : Str} (a : Ev X W false e ρ ρ1 d) (hN : X.N.Nodup) (hi : X.N[i]? = some x) (hx : Loc X.env.scope x) (hm : W.mu = none ∨ i ≠ 0) (hs : swapsWith e (some (.Name x pos')) pos.line X.env = pure false := by rfl) (hf : X.fn x = true ∨ X.env.scope.names.lookup x = some .local := by first | exact .inl rfl | exact .inr rfl | assumption) :
    StD X W (.Assign [.Name x pos'] e pos) ρ (fun ρ' => ρ' = ρ1.set i (.val d)) Rt := fun O σ H E D w =>
  of_ps (ps_set hN hi hx sem_pe hs hf) (a O σ H E _ fun v H' P hd => w.nx O _ H' _ rfl (P.env.put hm hd) P.fr)
theorem st_own (i : Nat) {x : Str} (a : EvF X W false e ρ ρ1 ds) (hN : X.N.Nodup) (hi : X.N[i]? = some x) (hx : Loc X.env.scope x) (hl : i < ρ1.length) (hm : W.mu = none ∨ i ≠ 0) (hs : swapsWith e (some (.Name x pos')) pos.line X.env = pure false := by rfl) (hf : X.fn x = true ∨ X.env.scope.names.lookup x = some .local := by first | exact .inl rfl | exact .inr rfl | assumption) :
    StD X W (.Assign [.Name x pos'] e pos) ρ (fun ρ' => ρ' = ρ1.set i (.own ds)) Rt := fun O σ H E D w =>
  of_ps (ps_set hN hi hx sem_pe hs hf) (a O σ H E _ fun l vs H1 H' P s na ha t => by
    obtain ⟨E', f⟩ := P.env.keep hm hl na s ha t
    exact w.nx _ _ H' _ rfl E' (P.fr.trans f))
/-- x = [.. for ..] -/
theorem st_setLc (i : Nat) {spos : Pos} {x : Str} {elt tg iter : Expr} {ifs : List Expr} {scope : Scope} {own : List (Str × Nat)} (h : LcOk X W false tg iter elt ifs scope own ρ ρ1 ds) (hc : X.calm = true) (hN : X.N.Nodup) (hi : X.N[i]? = some x) (hx : X.env.scope.names.lookup x = some .local) (hm : W.mu = none ∨ i ≠ 0)
    (hsw : swapsWith (.ListComp elt [⟨tg, iter, ifs, 0⟩] scope pos) (some (.Name x pos')) spos.line X.env = pure true) (hs : ∀ x, foldedSetIterable iter X.env x = pure x := by intro _; rfl) :
    StD X W (.Assign [.Name x pos'] (.ListComp elt [⟨tg, iter, ifs, 0⟩] scope pos) spos) ρ (fun ρ' => ρ' = ρ1.set i (.val (.lst ds))) Rt := fun O σ H E D w =>
  of_ps (ps_setLc hc hN hi hx hsw semI_pi h.1 semGB_pg semTsB_pts semB_pe hs) (h.2 O σ H E _ fun l vs H1 H' P s na ha t =>
    w.nx O _ H' _ rfl ((P.env.grow s).put hm (.lst ha (P.env.fresh na) (t.fr fun b u hb n => ⟨hb, fun z => n (.inl z)⟩))) (P.fr.trans (FrO.of_same s)))
theorem st_ownLc (i : Nat) {spos : Pos} {x : Str} {elt tg iter : Expr} {ifs : List Expr} {scope : Scope} {own : List (Str × Nat)} (h : LcOk X W false tg iter elt ifs scope own ρ ρ1 ds) (hc : X.calm = true) (hN : X.N.Nodup) (hi : X.N[i]? = some x) (hx : X.env.scope.names.lookup x = some .local) (hl : i < ρ1.length) (hm : W.mu = none ∨ i ≠ 0)
    (hsw : swapsWith (.ListComp elt [⟨tg, iter, ifs, 0⟩] scope pos) (some (.Name x pos')) spos.line X.env = pure true) (hs : ∀ x, foldedSetIterable iter X.env x = pure x := by intro _; rfl) :
    StD X W (.Assign [.Name x pos'] (.ListComp elt [⟨tg, iter, ifs, 0⟩] scope pos) spos) ρ (fun ρ' => ρ' = ρ1.set i (.own ds)) Rt := fun O σ H E D w =>
  of_ps (ps_setLc hc hN hi hx hsw semI_pi h.1 semGB_pg semTsB_pts semB_pe hs) (h.2 O σ H E _ fun l vs H1 H' P s na ha t => by
    obtain ⟨E', f⟩ := P.env.keep hm hl na s ha t
    exact w.nx _ _ H' _ rfl E' (P.fr.trans f))
/-- any target -/
theorem st_asg {tg : Expr} {is : List Nat} (a : Ev X W false e ρ ρ1 d) (g : EvG X W tg is ρ1 d ρ2) (hs : swapsWithSole [tg] e pos.line X.env = pure false := by rfl) (hw : swappedStores [tg] e X.env = pure none := by rfl) (h1 : (assignEach [tg] X.env).map (·.2) = [assign tg X.env] := by rfl) :
    StD X W (.Assign [tg] e pos) ρ (fun ρ' => ρ' = ρ2) Rt := fun O σ H E D w =>
  of_ps (ps_asg sem_pe semG_pg hs hw h1) (a O σ H E _ fun v H' P hd => g O σ H' v P.env hd _ fun σ' E' _ _ => w.nx O σ' H' ρ2 rfl E' P.fr)
/-- a, b = e1, e2: two local names -/
theorem st_par (i j : Nat) {x y : Str} {px py pt pt2 : Pos} {kt k2 : Nat} (a : Ev X W false ea ρ ρ1 d1) (b : Ev X W false eb ρ1 ρ2 d2) (hc : X.calm = true) (hN : X.N.Nodup) (hi : X.N[i]? = some x) (hj : X.N[j]? = some y) (hij : i ≠ j) (hx : X.env.scope.names.lookup x = some .local) (hy : X.env.scope.names.lookup y = some .local)
    (hm : W.mu = none) (hw : swappedStores [.Tuple [.Name x px, .Name y py] kt pt] (.Tuple [ea, eb] k2 pt2) X.env = pure (some [x, y])) (hs : swapsWithSole [.Tuple [.Name x px, .Name y py] kt pt] (.Tuple [ea, eb] k2 pt2) pos.line X.env = pure false := by rfl)
    (h1 : starEach [ea, eb] X.env = (false, eval ea X.env) :: starEach [eb] X.env := by rfl) (h2 : starEach [eb] X.env = (false, eval eb X.env) :: starEach [] X.env := by rfl) :
    StD X W (.Assign [.Tuple [.Name x px, .Name y py] kt pt] (.Tuple [ea, eb] k2 pt2) pos) ρ (fun ρ' => ρ' = (ρ2.set i (.val d1)).set j (.val d2)) Rt := fun O σ H E D w =>
  of_ps (ps_par hc hN hi hj hij hx hy semA_pa hw hs) (ea_cons a (ea_cons b ea_nil h2) h1 O σ H E _ fun vs H' P q => by
    cases q with
    | cons h t =>
      cases t with
      | cons h' t =>
        cases t
        exact ⟨_, _, rfl, w.nx O _ H' _ rfl ((P.env.put (.inl hm) h).put (.inl hm) h') P.fr⟩)
theorem st_expr (a : Ev X W false e ρ ρ1 d) (hs : swapsWith e none pos.line X.env = pure false := by rfl) : StD X W (.Expr e pos) ρ (fun ρ' => ρ' = ρ1) Rt := fun O σ H E D w =>
  of_ps (ps_expr sem_pe hs) (a O σ H E _ fun v H' P hd => w.nx O σ H' ρ1 rfl P.env P.fr)
theorem own_now {K : PySem.W.Frag} {O : OS} {σ : L2.St} {H : Hp} {i : Nat} (E : EnvAt K W O H σ ρ) (h : ρ[i]? = some (.own ds)) : ∃ a vs, σ[i]? = some (some (.ref a)) ∧ O a ∧ H a = some (.lst vs) ∧ DvL K O H vs ds :=
  let ⟨a, vs, e, o, _, hh, t, _⟩ := E.own i ds h
  ⟨a, vs, e, o, hh, t⟩
/-- x.append(e): x an own list -/
theorem st_append (i : Nat) {x : Str} {apos cpos ppos : Pos} (hi2 : ρ1[i]? = some (.own ds)) (hi1 : ∃ es, ρ[i]? = some (.own es)) (a : Ev X W false e ρ ρ1 d) (hl : ds.length < 1000000) (hN : X.N[i]? = some x) (hv : Vis X.env.scope x)
    (hdd : (x == ("__debug__" : Str)) = false := by decide) (hcd : (x == ("__classdict__" : Str)) = false := by decide) (hbase : attributeBase (.Name x pos') "append" X.env (eval (.Name x pos') X.env) = eval (.Name x pos') X.env := by rfl)
    (hfew : ((backTo cpos (starEach [e] X.env)).all (fun x => !x.1) && (backToKw cpos (keywordEach [] X.env)).all (fun x => x.1.isSome) && decide (([e] : List Expr).length + ([] : List Keyword).length + (if ([] : List Keyword).isEmpty then 0 else 1) < 30)) = true := by rfl)
    (hline : (apos.endLine == cpos.line) = true := by rfl) (h1 : starEach [e] X.env = (false, eval e X.env) :: starEach [] X.env := by rfl) (hs : swapsWith (.Call (.Attribute (.Name x pos') "append" apos) [e] [] cpos) none ppos.line X.env = pure false := by rfl) :
    StD X W (.Expr (.Call (.Attribute (.Name x pos') "append" apos) [e] [] cpos) ppos) ρ (fun ρ' => ρ' = ρ1.set i (.own (ds ++ [d]))) Rt := fun O σ H E D w =>
  of_ps (ps_expr (pe_bm PySem.F.plainAttrs_list PySem.F.slot_list_append PySem.F.type_list_append mt_append (pe_var hN hv hdd hcd) semA_pa hbase hfew hline h1 rfl) hs) (by
    obtain ⟨es', he⟩ := hi1
    obtain ⟨l, vs, e1, o, hh, t⟩ := own_now E he
    refine ⟨.ref l, e1, .inl ⟨rfl, vs, SqL.of hh⟩, ea_cons a ea_nil h1 O σ H E _ fun ws H' P q => ?_⟩
    cases q with
    | cons h t =>
      cases t
      obtain ⟨l', us, e2, o2, hh2, t2⟩ := own_now P.env hi2
      have el : l' = l := by
        have := e2.symm.trans e1
        cases this
        rfl
      subst el
      refine ⟨l', us, _, rfl, rfl, hh2, ?_, ?_⟩
      · rw [t2.length]
        exact Nat.lt_trans hl (by decide)
      · obtain ⟨E', f⟩ := P.env.change hi2 e2 (t2.append (.cons h .nil))
        exact w.nx O σ _ _ rfl E' (P.fr.trans f))
/-- x.extend(e): x an own list, e a new one -/
theorem st_extend (i : Nat) {x : Str} {apos cpos ppos : Pos} {fs : List D} (hi : ρ[i]? = some (.own ds)) (a : EvF X W true e ρ ρ fs) (hl : ds.length + fs.length < 1000000) (hN : X.N[i]? = some x) (hv : Vis X.env.scope x)
    (hdd : (x == ("__debug__" : Str)) = false := by decide) (hcd : (x == ("__classdict__" : Str)) = false := by decide) (hbase : attributeBase (.Name x pos') "extend" X.env (eval (.Name x pos') X.env) = eval (.Name x pos') X.env := by rfl)
    (hfew : ((backTo cpos (starEach [e] X.env)).all (fun x => !x.1) && (backToKw cpos (keywordEach [] X.env)).all (fun x => x.1.isSome) && decide (([e] : List Expr).length + ([] : List Keyword).length + (if ([] : List Keyword).isEmpty then 0 else 1) < 30)) = true := by rfl)
    (hline : (apos.endLine == cpos.line) = true := by rfl) (h1 : starEach [e] X.env = (false, eval e X.env) :: starEach [] X.env := by rfl) (hs : swapsWith (.Call (.Attribute (.Name x pos') "extend" apos) [e] [] cpos) none ppos.line X.env = pure false := by rfl) :
    StD X W (.Expr (.Call (.Attribute (.Name x pos') "extend" apos) [e] [] cpos) ppos) ρ (fun ρ' => ρ' = ρ.set i (.own (ds ++ fs))) Rt := fun O σ H E D w =>
  of_ps (ps_expr (pe_bm PySem.F.plainAttrs_list PySem.F.slot_list_extend PySem.F.type_list_extend mt_extend (pe_var hN hv hdd hcd) (pa_cons sem_pe pa_nil h1) hbase hfew hline h1 rfl) hs) (by
    obtain ⟨l, vs, e1, o, hh, t⟩ := own_now E hi
    refine ⟨.ref l, e1, .inl ⟨rfl, vs, SqL.of hh⟩, a O σ H E _ fun b ws H1 H' P s nb hb t2 => ?_⟩
    have s0 := (P.pu rfl).2.trans s
    have E2 := (P.env.grow s)
    refine ⟨l, b, vs, ws, rfl, rfl, s0 _ _ hh, hb, ?_, ?_⟩
    · rw [t.length, t2.length]
      exact Nat.le_of_lt (Nat.lt_trans hl (by decide))
    · obtain ⟨E', f⟩ := E2.change hi e1 ((t.same s0).append (t2.fr fun c u hc n => ⟨hc, fun z => n (.inl z)⟩))
      exact w.nx O σ _ _ rfl E' ((P.fr.trans (FrO.of_same s)).trans f))
/-- x[j] = e: x an own list -/
theorem st_item (i : Nat) {x : Str} {tpos : Pos} {n : Int} {j : Nat} (hi : ρ[i]? = some (.own ds)) (a : Ev X W true e ρ ρ d) (b : Ev X W true eb ρ ρ (.int n)) (hj : ixN ds.length n = some j) (hN : X.N[i]? = some x) (hv : Vis X.env.scope x)
    (hdd : (x == ("__debug__" : Str)) = false := by decide) (hcd : (x == ("__classdict__" : Str)) = false := by decide) (hs : swapsWithSole [.Subscript (.Name x pos') eb tpos] e pos.line X.env = pure false := by rfl) (hw : swappedStores [.Subscript (.Name x pos') eb tpos] e X.env = pure none := by rfl)
    (ha : ∀ v, assign (.Subscript (.Name x pos') eb tpos) X.env v = (do let ov ← holding [v] (eval (.Name x pos') X.env); let iv ← holding [v, ov] (eval eb X.env); standAt tpos; holding [v, ov, iv] (setItem ov iv v); release [v, ov, iv] []) := by intro _; rfl)
    (h1 : (assignEach [.Subscript (.Name x pos') eb tpos] X.env).map (·.2) = [assign (.Subscript (.Name x pos') eb tpos) X.env] := by rfl) :
    StD X W (.Assign [.Subscript (.Name x pos') eb tpos] e pos) ρ (fun ρ' => ρ' = ρ.set i (.own (ds.set j d))) Rt := fun O σ H E D w =>
  of_ps (ps_asg sem_pe (pg_sub (pe_var hN hv hdd hcd) sem_pe set_list ha) hs hw h1) (a O σ H E _ fun v H1 P1 q1 => by
    obtain ⟨l, vs, e1, o, hh, t⟩ := own_now P1.env hi
    refine ⟨.ref l, e1, b O σ H1 P1.env _ fun y H2 P2 q2 => ?_⟩
    have s2 := (P2.pu rfl).2
    refine ⟨l, vs, n, j, rfl, q2.int_inv, s2 _ _ hh, by rw [t.length]; exact hj, ?_⟩
    obtain ⟨E', f⟩ := P2.env.change hi e1 (DvL.set (q1.same s2) j (t.same s2))
    exact w.nx O σ _ _ rfl E' ((P1.fr.trans P2.fr).trans f))

/-! if, while, for -/
theorem st_if {c : Bool} {sa sb : List Stmt} (t : EvT X W false e ρ ρ1 c) (a : c = true → StsD X W sa ρ1 Nx Rt) (b : c = false → StsD X W sb ρ1 Nx Rt) : StD X W (.If e sa sb pos) ρ Nx Rt := fun O σ H E D w =>
  of_ps (ps_if semT_pt semss_pss semss_pss) (t O σ H E _ fun H' P => by
    cases c with
    | true => exact a rfl O σ H' P.env D (w.from P.fr)
    | false => exact b rfl O σ H' P.env D (w.from P.fr))
theorem st_while {body : List Stmt} (P : Nat → List Sl → Prop) (n : Nat) (h0 : P n ρ) (hp : PassesOwn (model X.prog X.w) X.A X.env X.xe)
    (hs : ∀ n ρ, P n ρ → ∃ c, EvT X W true e ρ ρ c ∧ (c = true → StsD X W body ρ (fun ρ' => ∃ m, m < n ∧ P m ρ') Rt) ∧ (c = false → Nx ρ)) : StD X W (.While e body [] pos) ρ Nx Rt := fun O σ H E D w =>
  of_ps (ps_while hp semT_pt semss_pss) ⟨fun m σ' H' => ∃ O' ρ', P m ρ' ∧ EnvAt X.K W O' H' σ' ρ' ∧ FrO O H O' H', ⟨n, O, ρ, h0, E, FrO.refl⟩, fun m σ1 H1 ⟨O1, ρ1, p1, E1, f1⟩ => by
    obtain ⟨c, t, a, b⟩ := hs m ρ1 p1
    refine t O1 σ1 H1 E1 _ fun H2 P2 => ?_
    cases c with
    | true =>
      refine ⟨fun σ' H' => ∃ m', m' < m ∧ ∃ O' ρ', P m' ρ' ∧ EnvAt X.K W O' H' σ' ρ' ∧ FrO O H O' H', fun σ' H' ⟨m', lt, q⟩ => ⟨m', lt, q⟩, a rfl O1 σ1 H2 P2.env _ ⟨fun O' σ' H' ρ' ⟨m', lt, q⟩ E' f => ⟨m', lt, O', ρ', q, E', (f1.trans P2.fr).trans f⟩, fun O' σ' H' ρ' v r n' E' f h => w.rt O' σ' H' ρ' v r n' E' ((f1.trans P2.fr).trans f) h⟩⟩
    | false => exact w.nx O1 σ1 H2 ρ1 (b rfl) P2.env (f1.trans P2.fr)⟩
theorem st_for {tg iter : Expr} {body : List Stmt} (P : Nat → List Sl → Prop) (hi : EvI X W false tg iter ρ ρ1 ds) (h0 : P 0 ρ1) (hp : PassesOwn (model X.prog X.w) X.A X.env X.xe) (hc : X.calm = true)
    (hs : ∀ (i : Nat) (d : D) (ρ : List Sl), ds[i]? = some d → P i ρ → ∃ is ρ', EvG X W tg is ρ d ρ' ∧ StsD X W body ρ' (P (i + 1)) Rt) (hd : ∀ ρ, P ds.length ρ → Nx ρ) (hf : ∀ x, foldedSetIterable iter X.env x = pure x := by intro _; rfl) : StD X W (.For tg iter body [] pos) ρ Nx Rt := fun O σ H E D w =>
  of_ps (ps_for hp hc semI_pi semG_pg semss_pss hf) (hi O σ H E _ fun J H1 G Y P1 wk hG hY =>
    for_it wk (fun i σ' H' => ∃ O' ρ', P i ρ' ∧ EnvAt X.K W O' H' σ' ρ' ∧ FrO O H1 O' H') ⟨O, ρ1, h0, P1.env, FrO.refl⟩ (fun i σ' H' hi ⟨O', ρ', q, E', f⟩ => hG O' H' f) (fun i x σ' H' H'' hlt ⟨O', ρ', q, E', f⟩ hy => by
      have hd : ds[i]? = some ds[i] := List.getElem?_eq_getElem hlt
      obtain ⟨s, hx⟩ := hY i _ hd O' H' x H'' f E'.dom hy
      obtain ⟨is, ρ'', g, b⟩ := hs i _ ρ' hd q
      refine g O' σ' H'' x (E'.grow s) hx _ fun σ2 E2 _ _ => ?_
      refine b O' σ2 H'' E2 _ ⟨fun O3 σ3 H3 ρ3 q3 E3 f3 => ⟨O3, ρ3, q3, E3, (f.trans (FrO.of_same s)).trans f3⟩, fun O3 σ3 H3 ρ3 v r n3 E3 f3 h3 => w.rt O3 σ3 H3 ρ3 v r n3 E3 (P1.fr.trans ((f.trans (FrO.of_same s)).trans f3)) h3⟩) fun σ' H' ⟨O', ρ', q, E', f⟩ => w.nx O' σ' H' ρ' (hd ρ' q) E' (P1.fr.trans f))
end

/-! ### bodies -/
def slOf : Ar → Sl
  | .v d => .val d
  | .b ds => .bor ds
/-- the environment at a def's entry -/
def rho (N : List Str) (as : List Ar) : List Sl := as.map slOf ++ List.replicate (N.length - as.length) .un
abbrev bx (P : Program) (w : World) (K : PySem.W.Frag) (mg : Str → Option Value) (base : Heap) (N : List Str) (qual : Str) (scope : Scope) (f : Addr) (cd : Value) (A : Around) (outer : List Env) (s : Shared) (H : Hp) (E : XK) : Cx := (cxOf CX0 P w K mg base N qual scope f cd A outer s H E).nox
theorem start_get {N : List Str} {vs : List V} {i : Nat} {v : V} (h : vs[i]? = some v) : (L2.start N vs)[i]? = some (some v) := by
  have hi := (List.getElem?_eq_some_iff.mp h).1
  unfold L2.start
  rw [List.getElem?_append_left (by rw [List.length_map]; exact hi), List.getElem?_map, h]
  rfl
theorem ArsOk.get {K : PySem.W.Frag} {O : OS} {H : Hp} : ∀ {vs : List V} {as : List Ar} {i : Nat} {a : Ar}, ArsOk K O H vs as → as[i]? = some a → ∃ v, vs[i]? = some v ∧ ArOk K O H v a
  | _, _, _, _, .nil, e => by simp at e
  | _, _, 0, _, .cons h _, e => by
    simp at e
    subst e
    exact ⟨_, rfl, h⟩
  | _, _, i + 1, _, .cons _ t, e => by
    obtain ⟨v, h1, h2⟩ := t.get (i := i) (by simpa using e)
    exact ⟨v, by simpa using h1, h2⟩
theorem rho_get {N : List Str} {as : List Ar} {i : Nat} {s : Sl} (h : (rho N as)[i]? = some s) : s = .un ∨ ∃ a, as[i]? = some a ∧ s = slOf a := by
  unfold rho at h
  by_cases hi : i < as.length
  · rw [List.getElem?_append_left (by rw [List.length_map]; exact hi), List.getElem?_map, List.getElem?_eq_getElem hi] at h
    refine .inr ⟨as[i], List.getElem?_eq_getElem hi, ?_⟩
    cases h
    rfl
  · rw [List.getElem?_append_right (by rw [List.length_map]; omega), List.getElem?_replicate] at h
    split at h
    · cases h
      exact .inl rfl
    · cases h
theorem env_start {K : PySem.W.Frag} {O : OS} {H : Hp} {N : List Str} {vs : List V} {as : List Ar} (hO : ∀ a, O a → ∃ o, H a = some o) (h : ArsOk K O H vs as) (hl : as.length ≤ N.length) : EnvAt K ⟨O, H, none⟩ O H (L2.start N vs) (rho N as) where
  len := by
    unfold L2.start rho
    rw [List.length_append, List.length_append, List.length_map, List.length_map, List.length_replicate, List.length_replicate, h.length]
  ext := fun a o e _ => e
  domW := hO
  dom := hO
  sub := fun _ e => e
  val := fun i d e => by
    rcases rho_get e with z | ⟨a, e1, e2⟩
    · cases z
    · cases a with
      | v d' =>
        cases e2
        obtain ⟨v, h1, h2⟩ := h.get e1
        exact ⟨v, start_get h1, h2⟩
      | b ds => cases e2
  own := fun i ds e => by
    rcases rho_get e with z | ⟨a, e1, e2⟩
    · cases z
    · cases a <;> cases e2
  bor := fun i ds e => by
    rcases rho_get e with z | ⟨a, e1, e2⟩
    · cases z
    · cases a with
      | v d' => cases e2
      | b ds' =>
        cases e2
        obtain ⟨v, h1, a, vs', rfl, o, hh, t⟩ := h.get e1
        exact ⟨a, vs', start_get h1, o, (by intro z; cases z), hh, t⟩
  mu0 := fun a e => by cases e

section
variable {P : Program} {w : World} {K : PySem.W.Frag} {mg : Str → Option Value} {base : Heap}
/-- a def keeps its promise if its body does -/
theorem ok_fn {R : List Ar → D → Prop} {x qual : Str} {st : Stmt} {f : Addr} {fd : FuncData} {N ps : List Str} {k : Nat} (F : Fun K x qual st f fd) (S : FnScope N ps (defScope st)) (hl : ∀ as d, R as d → as.length = ps.length) (hps : ps.length ≤ N.length)
    (hbody : ∀ (cdv : Value) (A : Around) (outer : List Env) (s : Shared) (H : Hp) (E : XK) (W : Wd), W.mu = none → Room k (bx P w K mg base N qual (defScope st) f cdv A outer s H E).A → ∀ as d, R as d →
      StsD (bx P w K mg base N qual (defScope st) f cdv A outer s H E) W (defBody st) (rho N as) (fun _ => d = .non) (fun r _ => r = .d d)) : FnOk P w K mg base CX0 (k + 1) f fd ps (spA K R) := by
  refine F.ok S (fun vs H Q E h => ?_) (fun cdv A outer s H vs Q E hr h => ?_)
  · obtain ⟨O, as, d, _, ha, hR, _⟩ := h
    rw [ha.length]
    exact hl as d hR
  · obtain ⟨O, as, d, hO, ha, hR, q⟩ := h
    refine ⟨_, semss_pss, hbody cdv A outer s H E ⟨O, H, none⟩ rfl hr as d hR O _ H (env_start hO ha (by rw [hl as d hR]; exact hps)) _ ⟨fun O' σ' H' ρ' n E' f => ?_, fun O' σ' H' ρ' v r n E' f h => ?_⟩⟩
    · subst n
      exact q .non H' (fun a o e => E'.ext a o e (by intro z; cases z)) .non
    · subst n
      refine q v H' (fun a o e => E'.ext a o e (by intro z; cases z)) (Dv.fr (fun a o e n => ⟨e, fun z => n (E'.sub a z)⟩) h)
theorem fnA_mk {R : List Ar → D → Prop} {x qual : Str} {st : Stmt} {f : Addr} {fd : FuncData} {N ps : List Str} {k : Nat} (F : Fun K x qual st f fd) (S : FnScope N ps (defScope st)) (hb : Binds K fd ps []) (hm : mg x = some (.ref f)) (hl : ∀ as d, R as d → as.length = ps.length) (hps : ps.length ≤ N.length)
    (hbody : ∀ (cdv : Value) (A : Around) (outer : List Env) (s : Shared) (H : Hp) (E : XK) (W : Wd), W.mu = none → Room k (bx P w K mg base N qual (defScope st) f cdv A outer s H E).A → ∀ as d, R as d →
      StsD (bx P w K mg base N qual (defScope st) f cdv A outer s H E) W (defBody st) (rho N as) (fun _ => d = .non) (fun r _ => r = .d d)) : FnA P w K mg base (k + 1) x ps R :=
  ⟨f, fd, ok_fn F S hl hps hbody, hm, F.kp, hb⟩
end
end M66
/-! Layer W, part 6: defs that change their first argument (a list of a whole number and a truth value); defs that hand back a new list. -/
namespace M66
open PySem PySem.Spec PyProof.Rows L2

/-- the state's content -/
def stt (x : Int) (b : Bool) : List D := [.int x, .bl b]
def sttV (x : Int) (b : Bool) : List V := [.int x, .bl b]
theorem stt_inv {K : PySem.W.Frag} {O : OS} {H : Hp} {vs : List V} {x : Int} {b : Bool} (h : DvL K O H vs (stt x b)) : vs = sttV x b := by
  cases h with
  | cons h t =>
    cases t with
    | cons h2 t =>
      cases t
      rw [h.int_inv, h2.bl_inv]
      rfl
theorem stt_ok {K : PySem.W.Frag} {O : OS} {H : Hp} {x : Int} {b : Bool} : DvL K O H (sttV x b) (stt x b) := .cons (.int x) (.cons (.bl b) .nil)
/-- R: from the state and the arguments, the answer and the new state -/
abbrev RM := Int → Bool → List D → D → Int → Prop
def spM (K : PySem.W.Frag) (R : RM) : Sp := fun vs H Q _ => ∃ (O : OS) (a : Addr) (ws : List V) (x : Int) (b : Bool) (as : List D) (d : D) (x' : Int), vs = .ref a :: ws ∧ (∀ c, O c → ∃ o, H c = some o) ∧ O a ∧ H a = some (.lst (sttV x b)) ∧ DvL K O H ws as ∧ R x b as d x' ∧
  ∀ v H', (∀ c o, H c = some o → c ≠ a → H' c = some o) → H' a = some (.lst (sttV x' b)) → Dv K O H' v d → Q v H'
structure FnM (P : Program) (w : World) (K : PySem.W.Frag) (mg : Str → Option Value) (base : Heap) (k : Nat) (x : Str) (ps : List Str) (R : RM) : Prop where
  at_ : ∃ (f : Addr) (fd : FuncData), FnOk P w K mg base CX0 k f fd ps (spM K R) ∧ mg x = some (.ref f) ∧ PySem.W.keepIn K (.ref f) = true ∧ Binds K fd ps []
/-- a new list is handed back -/
def spF (K : PySem.W.Frag) (R : List D → List D → Prop) : Sp := fun vs H Q _ => ∃ (O : OS) (as ds : List D), (∀ a, O a → ∃ o, H a = some o) ∧ DvL K O H vs as ∧ R as ds ∧ ∀ a us H', Same H H' → H a = none → H' a = some (.lst us) → DvL K (fun _ => True) H' us ds → Q (.ref a) H'
structure FnF (P : Program) (w : World) (K : PySem.W.Frag) (mg : Str → Option Value) (base : Heap) (k : Nat) (x : Str) (ps : List Str) (R : List D → List D → Prop) : Prop where
  at_ : ∃ (f : Addr) (fd : FuncData), FnOk P w K mg base CX0 k f fd ps (spF K R) ∧ mg x = some (.ref f) ∧ PySem.W.keepIn K (.ref f) = true ∧ Binds K fd ps []

theorem ArsOk.ofVals {K : PySem.W.Frag} {O : OS} {H : Hp} : ∀ {vs : List V} {ds : List D}, DvL K O H vs ds → ArsOk K O H vs (ds.map Ar.v)
  | _, _, .nil => .nil
  | _, _, .cons h t => .cons h (ArsOk.ofVals t)

section
variable {X : Cx} {W : Wd} {p : Bool} {ρ ρ1 ρ2 ρ3 : List Sl} {e ea eb ec : Expr} {es : List Expr} {d d1 d2 d3 : D} {ds : List D} {pos : Pos} {k : Nat}
/-- the call of a def that changes the caller's own list at slot i -/
theorem ev_callM (i : Nat) {x y : Str} {p' p2 : Pos} {ps : List Str} {R : RM} {n n' : Int} {b : Bool} {as : List D} (F : FnM X.prog X.w X.K X.mg X.base k x ps R) (hr : Room k X.A) (hi : ρ[i]? = some (.own (stt n b))) (ha : EvA X W true es ρ ρ (as.map Ar.v)) (hR : R n b as d n') (hg : Gl X x) (hN : X.N[i]? = some y) (hv : Vis X.env.scope y)
    (hdb : (x == ("__debug__" : Str)) = false := by decide) (hdd : (y == ("__debug__" : Str)) = false := by decide) (hcd : (y == ("__classdict__" : Str)) = false := by decide)
    (hs : starEach (.Name y p2 :: es) X.env = (false, eval (.Name y p2) X.env) :: starEach es X.env := by rfl) (hpl : (backTo pos (starEach es X.env)).any (·.1) = false := by rfl) : Ev X W false (.Call (.Name x p') (.Name y p2 :: es) [] pos) ρ (ρ.set i (.own (stt n' b))) d := fun O σ H E Q q => by
  obtain ⟨f, fd, F, hm, hk, hb⟩ := F.at_
  obtain ⟨a, vs, e1, o, hh, t⟩ := own_now E hi
  have evs := stt_inv t
  subst evs
  refine of_pe (pe_call F hr hg hm hk hb .nil pass0 (pa_cons (pe_var hN hv hdd hcd) semA_pa hs) hdb hs hpl) ⟨.ref a, e1, ha O σ H E _ fun ws H1 P1 q1 => ?_⟩
  have s1 := (P1.pu rfl).2
  have E1 := E.grow s1
  refine ⟨O, a, ws, n, b, as, d, n', by rw [List.append_nil], E1.dom, o, s1 _ _ hh, ArsOk.vals q1, hR, fun v H' k1 k2 hd => ?_⟩
  obtain ⟨E2, f2⟩ := E1.change hi e1 (stt_ok (x := n') (b := b))
  have s2 : Same (upd H1 a (.lst (sttV n' b))) H' := fun c u hc => by
    by_cases hca : c = a
    · subst hca
      rw [upd_same] at hc
      cases hc
      exact k2
    · rw [upd_ne hca] at hc
      exact k1 c u hc hca
  exact q v H' ⟨E2.grow s2, ((FrO.of_same s1).trans f2).trans (FrO.of_same s2), fun z => nomatch z⟩ hd
/-- the call of a def that hands back a new list -/
theorem ef_call {x : Str} {p' : Pos} {ps : List Str} {R : List D → List D → Prop} {as : List D} (F : FnF X.prog X.w X.K X.mg X.base k x ps R) (hr : Room k X.A) (ha : EvA X W p (e :: es) ρ ρ1 (as.map Ar.v)) (hR : R as ds) (hg : Gl X x) (hdb : (x == ("__debug__" : Str)) = false := by decide)
    (hs : starEach (e :: es) X.env = (false, eval e X.env) :: starEach es X.env := by rfl) (hpl : (backTo pos (starEach es X.env)).any (·.1) = false := by rfl) : EvF X W p (.Call (.Name x p') (e :: es) [] pos) ρ ρ1 ds := fun O σ H E Q q => by
  obtain ⟨f, fd, F, hm, hk, hb⟩ := F.at_
  refine of_pe (pe_call F hr hg hm hk hb .nil pass0 semA_pa hdb hs hpl) (ha O σ H E _ fun vs H1 P1 q1 => ?_)
  refine ⟨O, as, ds, P1.env.dom, by rw [List.append_nil]; exact ArsOk.vals q1, hR, fun a us H' s na hh t => ?_⟩
  exact q a us H1 H' P1 s na hh (t.fr fun b u hb n => absurd trivial n)
end

section
variable {P : Program} {w : World} {K : PySem.W.Frag} {mg : Str → Option Value} {base : Heap}
/-- the environment at the entry of a def that changes its first argument -/
def rhoM (N : List Str) (x : Int) (b : Bool) (as : List D) : List Sl := .own (stt x b) :: as.map Sl.val ++ List.replicate (N.length - (as.length + 1)) .un
theorem rhoM_get {N : List Str} {x : Int} {b : Bool} {as : List D} {i : Nat} {s : Sl} (h : (rhoM N x b as)[i]? = some s) : s = .un ∨ (i = 0 ∧ s = .own (stt x b)) ∨ ∃ j d, i = j + 1 ∧ as[j]? = some d ∧ s = .val d := by
  cases i with
  | zero =>
    cases h
    exact .inr (.inl ⟨rfl, rfl⟩)
  | succ j =>
    have h : (as.map Sl.val ++ List.replicate (N.length - (as.length + 1)) .un)[j]? = some s := h
    by_cases hj : j < as.length
    · rw [List.getElem?_append_left (by rw [List.length_map]; exact hj), List.getElem?_map, List.getElem?_eq_getElem hj] at h
      cases h
      exact .inr (.inr ⟨j, _, rfl, List.getElem?_eq_getElem hj, rfl⟩)
    · rw [List.getElem?_append_right (by rw [List.length_map]; omega), List.getElem?_replicate] at h
      split at h
      · cases h
        exact .inl rfl
      · cases h
theorem env_startM {O : OS} {H : Hp} {N : List Str} {a : Addr} {ws : List V} {x : Int} {b : Bool} {as : List D} (hO : ∀ a, O a → ∃ o, H a = some o) (oa : O a) (ha : H a = some (.lst (sttV x b))) (h : DvL K O H ws as) (hl : as.length + 1 ≤ N.length) :
    EnvAt K ⟨O, H, some a⟩ O H (L2.start N (.ref a :: ws)) (rhoM N x b as) where
  len := by
    unfold L2.start rhoM
    rw [List.length_append, List.length_map, List.length_cons, List.length_replicate, List.length_append, List.length_cons, List.length_map, List.length_replicate, h.length]
  ext := fun c o e _ => e
  domW := hO
  dom := hO
  sub := fun _ e => e
  val := fun i d e => by
    rcases rhoM_get e with z | ⟨_, z⟩ | ⟨j, d', rfl, e1, z⟩
    · cases z
    · cases z
    · cases z
      obtain ⟨v, h1, h2⟩ := h.get e1
      exact ⟨v, start_get (i := j + 1) h1, h2⟩
  own := fun i ds e => by
    rcases rhoM_get e with z | ⟨rfl, z⟩ | ⟨j, d', rfl, e1, z⟩
    · cases z
    · cases z
      refine ⟨a, _, start_get (i := 0) rfl, oa, .inl rfl, ha, stt_ok, fun j es nj hj => ?_⟩
      rcases rhoM_get hj with z | ⟨rfl, z⟩ | ⟨j, d', rfl, e1, z⟩
      · cases z
      · exact absurd rfl nj
      · cases z
    · cases z
  bor := fun i ds e => by
    rcases rhoM_get e with z | ⟨rfl, z⟩ | ⟨j, d', rfl, e1, z⟩ <;> cases z
  mu0 := fun c e => by
    cases e
    exact ⟨oa, start_get (i := 0) rfl, _, rfl⟩
theorem ok_fnM {R : RM} {x qual : Str} {st : Stmt} {f : Addr} {fd : FuncData} {N ps : List Str} {k : Nat} (F : Fun K x qual st f fd) (S : FnScope N ps (defScope st)) (hl : ∀ n b as d n', R n b as d n' → as.length + 1 = ps.length) (hps : ps.length ≤ N.length)
    (hbody : ∀ (cdv : Value) (A : Around) (outer : List Env) (s : Shared) (H : Hp) (E : XK) (W : Wd), Room k (bx P w K mg base N qual (defScope st) f cdv A outer s H E).A → ∀ n b as d n', R n b as d n' →
      StsD (bx P w K mg base N qual (defScope st) f cdv A outer s H E) W (defBody st) (rhoM N n b as) (fun _ => False) (fun r ρ' => r = .d d ∧ ρ'[0]? = some (.own (stt n' b)))) : FnOk P w K mg base CX0 (k + 1) f fd ps (spM K R) := by
  refine F.ok S (fun vs H Q E h => ?_) (fun cdv A outer s H vs Q E hr h => ?_)
  · obtain ⟨O, a, ws, x, b, as, d, x', rfl, _, _, _, hd, hR, _⟩ := h
    rw [List.length_cons, hd.length]
    exact hl _ _ _ _ _ hR
  · obtain ⟨O, a, ws, n, b, as, d, n', rfl, hO, oa, ha, hd, hR, q⟩ := h
    refine ⟨_, semss_pss, hbody cdv A outer s H E ⟨O, H, some a⟩ hr n b as d n' hR O _ H (env_startM hO oa ha hd (by rw [hl _ _ _ _ _ hR]; exact hps)) _ ⟨fun O' σ' H' ρ' n E' f => n.elim, fun O' σ' H' ρ' v r hr' E' f h => ?_⟩⟩
    obtain ⟨rfl, h0⟩ := hr'
    obtain ⟨_, w2, _⟩ := E'.mu0 a rfl
    obtain ⟨a', vs', e1, o1, hh1, t1⟩ := own_now E' h0
    have : a' = a := by
      have := e1.symm.trans w2
      cases this
      rfl
    subst this
    have := stt_inv t1
    subst this
    refine q v H' (fun c o hc nc => E'.ext c o hc (fun z => nc (by cases z; rfl))) hh1 (Dv.fr (fun c u hc n => ⟨hc, fun z => n (E'.sub c z)⟩) h)
theorem fnM_mk {R : RM} {x qual : Str} {st : Stmt} {f : Addr} {fd : FuncData} {N ps : List Str} {k : Nat} (F : Fun K x qual st f fd) (S : FnScope N ps (defScope st)) (hb : Binds K fd ps []) (hm : mg x = some (.ref f)) (hl : ∀ n b as d n', R n b as d n' → as.length + 1 = ps.length) (hps : ps.length ≤ N.length)
    (hbody : ∀ (cdv : Value) (A : Around) (outer : List Env) (s : Shared) (H : Hp) (E : XK) (W : Wd), Room k (bx P w K mg base N qual (defScope st) f cdv A outer s H E).A → ∀ n b as d n', R n b as d n' →
      StsD (bx P w K mg base N qual (defScope st) f cdv A outer s H E) W (defBody st) (rhoM N n b as) (fun _ => False) (fun r ρ' => r = .d d ∧ ρ'[0]? = some (.own (stt n' b)))) : FnM P w K mg base (k + 1) x ps R :=
  ⟨f, fd, ok_fnM F S hl hps hbody, hm, F.kp, hb⟩
theorem ok_fnF {R : List D → List D → Prop} {x qual : Str} {st : Stmt} {f : Addr} {fd : FuncData} {N ps : List Str} {k : Nat} (F : Fun K x qual st f fd) (S : FnScope N ps (defScope st)) (hl : ∀ as ds, R as ds → as.length = ps.length) (hps : ps.length ≤ N.length)
    (hbody : ∀ (cdv : Value) (A : Around) (outer : List Env) (s : Shared) (H : Hp) (E : XK) (W : Wd), W.mu = none → Room k (bx P w K mg base N qual (defScope st) f cdv A outer s H E).A → ∀ as ds, R as ds →
      StsD (bx P w K mg base N qual (defScope st) f cdv A outer s H E) W (defBody st) (rho N (as.map Ar.v)) (fun _ => False) (fun r _ => r = .f ds)) : FnOk P w K mg base CX0 (k + 1) f fd ps (spF K R) := by
  refine F.ok S (fun vs H Q E h => ?_) (fun cdv A outer s H vs Q E hr h => ?_)
  · obtain ⟨O, as, d, _, ha, hR, _⟩ := h
    rw [ha.length]
    exact hl as d hR
  · obtain ⟨O, as, ds, hO, ha, hR, q⟩ := h
    refine ⟨_, semss_pss, hbody cdv A outer s H E ⟨O, H, none⟩ rfl hr as ds hR O _ H (env_start hO (ArsOk.ofVals ha) (by rw [List.length_map, hl as ds hR]; exact hps)) _ ⟨fun O' σ' H' ρ' n E' f => n.elim, fun O' σ' H' ρ' v r n E' f h => ?_⟩⟩
    subst n
    obtain ⟨a, vs, rfl, na, hh, t⟩ := h
    exact q a vs H' (fun c o e => E'.ext c o e (by intro z; cases z)) na hh t
theorem fnF_mk {R : List D → List D → Prop} {x qual : Str} {st : Stmt} {f : Addr} {fd : FuncData} {N ps : List Str} {k : Nat} (F : Fun K x qual st f fd) (S : FnScope N ps (defScope st)) (hb : Binds K fd ps []) (hm : mg x = some (.ref f)) (hl : ∀ as ds, R as ds → as.length = ps.length) (hps : ps.length ≤ N.length)
    (hbody : ∀ (cdv : Value) (A : Around) (outer : List Env) (s : Shared) (H : Hp) (E : XK) (W : Wd), W.mu = none → Room k (bx P w K mg base N qual (defScope st) f cdv A outer s H E).A → ∀ as ds, R as ds →
      StsD (bx P w K mg base N qual (defScope st) f cdv A outer s H E) W (defBody st) (rho N (as.map Ar.v)) (fun _ => False) (fun r _ => r = .f ds)) : FnF P w K mg base (k + 1) x ps R :=
  ⟨f, fd, ok_fnF F S hl hps hbody, hm, F.kp, hb⟩
end
end M66
/-! Fractions. -/
namespace M66
open PySem PySem.Spec PyProof.Rows L2

def topS (i : Nat) : Stmt := PySem.Challenge.pw_momentwright_k66_whole_how_much_weighs.main.body.getD i (.Pass ⟨0, 0, 0, 0⟩)
abbrev sDivisor : Stmt := topS 10
theorem scDivisor : FnScope ["one", "other"] ["one", "other"] (defScope sDivisor) := ⟨rfl, rfl, rfl, by decide +kernel, rfl, by decide +kernel, by decide +kernel⟩
theorem fmod_lt {x y : Int} (hy : y ≠ 0) : (x.fmod y).natAbs < y.natAbs := by
  rw [Int.fmod_eq_emod]
  have h1 := Int.emod_nonneg x hy
  have h2 := Int.emod_lt x hy
  split
  · omega
  · rename_i h
    have h4 : ¬ y ∣ x := fun z => h (.inr z)
    have h5 : x % y ≠ 0 := fun z => h4 (Int.dvd_of_emod_eq_zero z)
    omega
theorem gcd_fmod {x y : Int} : Int.gcd y (x.fmod y) = Int.gcd x y := by
  have h : x.fmod y = x - y * x.fdiv y := by
    have := Int.mul_fdiv_add_fmod x y
    omega
  rw [h, Int.gcd_comm x y]
  rw [Int.mul_comm]
  exact Int.gcd_sub_mul_right_right ..
section
variable {P : Program} {w : World} {K : PySem.W.Frag} {mg : Str → Option Value} {base : Heap}
def rDivisor (as : List Ar) (d : D) : Prop := ∃ a b : Int, as = [.v (.int a), .v (.int b)] ∧ d = .int (Int.gcd a b)
theorem ok_divisor {f : Addr} {fd : FuncData} {k : Nat} (F : Fun K "divisor" "divisor" sDivisor f fd) (hb : Binds K fd ["one", "other"] []) (hm : mg "divisor" = some (.ref f)) (ma : mg "abs" = none) : FnA P w K mg base (k + 1) "divisor" ["one", "other"] rDivisor := by
  refine fnA_mk F scDivisor hb hm (fun as d h => ?_) (by decide) (fun cdv A outer s H E W hW hr as d h => ?_)
  · obtain ⟨a, b, rfl, _⟩ := h
    rfl
  · obtain ⟨a, b, rfl, rfl⟩ := h
    refine ss_cons (M := fun ρ' => ∃ x, ρ' = [.val (.int x), .val (.int 0)] ∧ Int.gcd x 0 = Int.gcd a b) (st_while (fun n ρ => ∃ x y, ρ = [.val (.int x), .val (.int y)] ∧ Int.gcd x y = Int.gcd a b ∧ n = y.natAbs) b.natAbs ⟨a, b, rfl, rfl, rfl⟩ PassesOwn.never ?_) ?_
    · rintro n ρ ⟨x, y, rfl, hg, rfl⟩
      refine ⟨_, et_neI (ev_var 1 rfl rfl (Or.inl rfl)) ev_int, fun hc => ?_, fun hc => ?_⟩
      · have hy : y ≠ 0 := by simpa using hc
        refine ss_one (StD.imp (st_par 0 1 (ev_var 1 rfl rfl (Or.inl rfl)) (ev_mod (ev_var 0 rfl rfl (Or.inl rfl)) (ev_var 1 rfl rfl (Or.inl rfl)) hy) rfl scDivisor.nd rfl rfl (by decide) rfl rfl hW rfl) ?_ fun _ _ h => h)
        rintro _ rfl
        refine ⟨(x.fmod y).natAbs, ?_, y, x.fmod y, rfl, ?_, rfl⟩
        · exact fmod_lt hy
        · rw [← hg, gcd_fmod]
      · have hy : y = 0 := by simpa using hc
        subst hy
        exact ⟨x, rfl, hg⟩
    · rintro ρ ⟨x, rfl, hg⟩
      refine ss_one (st_ret (ev_callB call_abs rc_abs (ea_cons (ev_var 0 rfl rfl (Or.inl rfl)) ea_nil) rfl ma (by decide +kernel)) ?_)
      rw [← hg, Int.gcd_zero_right]
      show Rv.d (D.int _) = Rv.d (D.int _)
      congr 2
      split <;> omega
end

/-! floor division whatever the size -/
structure Big (X : Cx) : Prop where
  seer : X.base.NoSeer
  tree : X.prog.given.tree = none
  stk : X.stack = X.env :: X.outer
  gen : X.env.scope.isGenerator = false
  co : X.env.scope.isCoroutine = false
  dp : X.A.depth + 100 < 1000
theorem op_fdivB {X : Cx} (b : Big X) : OpR X (binaryOp .FloorDiv) (rI (fun _ j => j ≠ 0) fun i j => .int (i.fdiv j)) := by
  intro pins s σ H x y v u Q I rx ry r
  obtain ⟨i, j, rfl, rfl, hj, q⟩ := r
  obtain ⟨t, rfl⟩ := rx
  obtain ⟨t', rfl⟩ := ry
  refine floordiv_int hj ⟨.int _, H, I.tok _, ⟨_, rfl⟩, q⟩ (.inr (PylongRoom.of I.nolimit b.dp ?_))
  exact SeerAt.of (b.seer.keeps I.bk) b.tree (by rw [I.ok.frames, b.stk]) b.gen b.co I.ok.blt I.ok.glob
theorem ev_fdiv {X : Cx} {W : Wd} {p : Bool} {ρ ρ1 ρ2 : List Sl} {ea eb : Expr} {pos : Pos} {i j : Int} (hB : Big X) (a : Ev X W p ea ρ ρ1 (.int i)) (b : Ev X W p eb ρ1 ρ2 (.int j)) (h : j ≠ 0) : Ev X W p (.BinOp ea .FloorDiv eb pos) ρ ρ2 (.int (i.fdiv j)) := ev_op (op_fdivB hB) a b (ro_i (C := fun _ j => j ≠ 0) h)

/-- a fraction -/
def fr (q : Rat) : D := .tup ([q.num, (q.den : Int)].map D.int)
theorem ratio_eq {t b g : Int} (hb : b ≠ 0) (hg : g = if b < 0 then 0 - (Int.gcd t b : Int) else (Int.gcd t b : Int)) : D.tup [.int (t.fdiv g), .int (b.fdiv g)] = fr (Rat.divInt t b) := by
  have hgp : 0 < (Int.gcd t b : Int) := by
    have : Int.gcd t b ≠ 0 := fun z => hb (Int.gcd_eq_zero_iff.mp z).2
    omega
  unfold fr
  rw [List.map_cons, List.map_cons, List.map_nil, Rat.num_divInt, Rat.den_divInt, if_neg hb, Int.gcd_comm b t]
  generalize hG : Int.gcd t b = G at *
  have key : t.fdiv g = b.sign * t / (G : Int) ∧ b.fdiv g = ((b.natAbs / G : Nat) : Int) := by
    rw [Int.natCast_ediv]
    rcases Int.lt_or_gt_of_ne hb with h | h
    · rw [if_pos h, Int.zero_sub] at hg
      subst hg
      rw [Int.sign_eq_neg_one_of_neg h]
      have e1 : t.fdiv (-(G : Int)) = (-t).fdiv (G : Int) := by
        have := Int.neg_fdiv_neg t (-(G : Int))
        rw [Int.neg_neg] at this
        exact this.symm
      have e2 : b.fdiv (-(G : Int)) = (-b).fdiv (G : Int) := by
        have := Int.neg_fdiv_neg b (-(G : Int))
        rw [Int.neg_neg] at this
        exact this.symm
      rw [e1, e2, Int.fdiv_eq_ediv_of_nonneg _ (Int.le_of_lt hgp), Int.fdiv_eq_ediv_of_nonneg _ (Int.le_of_lt hgp)]
      exact ⟨by rw [Int.neg_one_mul], by rw [show (b.natAbs : Int) = -b by omega]⟩
    · rw [if_neg (by omega)] at hg
      subst hg
      rw [Int.sign_eq_one_of_pos h, Int.one_mul, Int.fdiv_eq_ediv_of_nonneg _ (Int.le_of_lt hgp), Int.fdiv_eq_ediv_of_nonneg _ (Int.le_of_lt hgp)]
      exact ⟨rfl, by rw [show (b.natAbs : Int) = b by omega]⟩
  rw [key.1, key.2]
theorem ev_pair {X : Cx} {W : Wd} {p : Bool} {ρ ρ1 ρ2 : List Sl} {ea eb : Expr} {pos : Pos} {d1 d2 : D} {k : Nat} (a : Ev X W p ea ρ ρ1 d1) (b : Ev X W p eb ρ1 ρ2 d2) (h1 : starEach [ea, eb] X.env = (false, eval ea X.env) :: starEach [eb] X.env := by rfl) (h2 : starEach [eb] X.env = (false, eval eb X.env) :: starEach [] X.env := by rfl) :
    Ev X W p (.Tuple [ea, eb] k pos) ρ ρ2 (.tup [d1, d2]) := ev_tup (ds := [d1, d2]) (ea_cons a (ea_cons b ea_nil h2) h1) (by show 2 ≤ 1000; decide)

abbrev sRatio : Stmt := topS 12
theorem scRatio : FnScope ["top", "bottom", "share"] ["top", "bottom"] (defScope sRatio) := ⟨rfl, rfl, rfl, by decide +kernel, rfl, by decide +kernel, by decide +kernel⟩
section
variable {P : Program} {w : World} {K : PySem.W.Frag} {mg : Str → Option Value} {base : Heap}
def rRatio (as : List Ar) (d : D) : Prop := ∃ t b : Int, as = [.v (.int t), .v (.int b)] ∧ b ≠ 0 ∧ d = fr (Rat.divInt t b)
theorem ok_ratio {f : Addr} {fd : FuncData} (F : Fun K "ratio" "ratio" sRatio f fd) (hb : Binds K fd ["top", "bottom"] []) (hm : mg "ratio" = some (.ref f)) (hS : base.NoSeer) (hT : P.given.tree = none)
    (f1 : FnA P w K mg base 1 "divisor" ["one", "other"] rDivisor) : FnA P w K mg base 41 "ratio" ["top", "bottom"] rRatio := by
  refine fnA_mk F scRatio hb hm (fun as d h => ?_) (by decide) (fun cdv A outer s H E W hW hr as d h => ?_)
  · obtain ⟨a, b, rfl, _⟩ := h
    rfl
  · obtain ⟨t, b, rfl, h0, rfl⟩ := h
    have hB : Big (bx P w K mg base ["top", "bottom", "share"] "ratio" (defScope sRatio) f cdv A outer s H E) := ⟨hS, hT, rfl, rfl, rfl, by have := hr.dp; exact Nat.lt_of_le_of_lt (Nat.add_le_add_left (by decide) _) this⟩
    refine ss_seq (st_if (et_eqI (ev_var 1 rfl rfl (Or.inl rfl)) ev_int) (fun hc => ?_) (fun hc => ss_nil rfl)) ?_
    · exact absurd (by simpa using hc) h0
    refine ss_seq (st_set 2 (ev_call f1 (hr.mono (by decide)) (ea_cons (ev_var 0 rfl rfl (Or.inl rfl)) (ea_cons (ev_var 1 rfl rfl (Or.inl rfl)) ea_nil)) ⟨t, b, rfl, rfl⟩ rfl) scRatio.nd rfl (Or.inl rfl) (.inl hW)) ?_
    refine ss_seq (ρ1 := [.val (.int t), .val (.int b), .val (.int (if b < 0 then 0 - (Int.gcd t b : Int) else (Int.gcd t b : Int)))]) (st_if (et_lt (ev_var 1 rfl rfl (Or.inl rfl)) ev_int) (fun hc => ?_) (fun hc => ss_nil ?_)) ?_
    · have hc : b < 0 := by simpa using hc
      rw [if_pos hc]
      exact ss_one (st_set 2 (ev_sub ev_int (ev_var 2 rfl rfl (Or.inl rfl))) scRatio.nd rfl (Or.inl rfl) (.inl hW))
    · have hc : ¬ b < 0 := by simpa using hc
      rw [if_neg hc]
      rfl
    have hg : (if b < 0 then 0 - (Int.gcd t b : Int) else (Int.gcd t b : Int)) ≠ 0 := by
      have : Int.gcd t b ≠ 0 := fun z => h0 (Int.gcd_eq_zero_iff.mp z).2
      split <;> omega
    refine ss_one (st_ret (ev_pair (ev_fdiv hB (ev_var 0 rfl rfl (Or.inl rfl)) (ev_var 2 rfl rfl (Or.inl rfl)) hg) (ev_fdiv hB (ev_var 1 rfl rfl (Or.inl rfl)) (ev_var 2 rfl rfl (Or.inl rfl)) hg)) ?_)
    rw [ratio_eq h0 rfl]
end
end M66
/-! Fractions, further. -/
namespace M66
open PySem PySem.Spec PyProof.Rows L2

theorem few_of {i : Int} {n : Nat} (h : i.natAbs < 2 ^ n) (hm : n ≤ BIG) : Few i := Nat.lt_of_lt_of_le h (pow2_mono hm)
theorem S.num {q : Rat} (h : S q) : Few q.num := let ⟨_, hm, h⟩ := h; few_of h.2.1 hm
theorem S.den {q : Rat} (h : S q) : Few (q.den : Int) := let ⟨_, hm, h⟩ := h; few_of (by rw [Int.natAbs_natCast]; exact h.2.2) hm

/-! what the top has left: constants, built-ins -/
structure Gl0 (P : Program) (K : PySem.W.Frag) (mg : Str → Option Value) (base : Heap) : Prop where
  seer : base.NoSeer
  tree : P.given.tree = none
  zero : ∃ a, mg "ZERO" = some (.ref a) ∧ WrT K a ([0, 1].map V.int)
  one : ∃ a, mg "ONE" = some (.ref a) ∧ WrT K a ([1, 1].map V.int)
  minus1 : ∃ a, mg "MINUS" = some (.ref a) ∧ WrT K a ([-1, 1].map V.int)
  half : ∃ a, mg "HALF" = some (.ref a) ∧ WrT K a ([1, 2].map V.int)
  abs : mg "abs" = none
  len : mg "len" = none
  list : mg "list" = none
  max : mg "max" = none
  min : mg "min" = none
  range : mg "range" = none
  reversed : mg "reversed" = none
  enumerate : mg "enumerate" = none
  zip : mg "zip" = none
  int : mg "int" = none
  isinstance : mg "isinstance" = none
  all : mg "all" = none
  tuple : mg "tuple" = none
  bool : mg "bool" = none
section
variable {X : Cx} {W : Wd} {p : Bool} {ρ ρ1 ρ2 : List Sl} {ea eb : Expr} {pos p' : Pos} {q r : Rat} {k : Nat}
theorem ev_zero (g : Gl0 X.prog X.K X.mg X.base) (hg : Gl X "ZERO") : Ev X W p (.Name "ZERO" pos) ρ ρ (fr 0) := let ⟨_, h1, h2⟩ := g.zero; ev_glob (ns := [0, 1]) hg h1 h2
theorem ev_one (g : Gl0 X.prog X.K X.mg X.base) (hg : Gl X "ONE") : Ev X W p (.Name "ONE" pos) ρ ρ (fr 1) := let ⟨_, h1, h2⟩ := g.one; ev_glob (ns := [1, 1]) hg h1 h2
theorem ev_minus1 (g : Gl0 X.prog X.K X.mg X.base) (hg : Gl X "MINUS") : Ev X W p (.Name "MINUS" pos) ρ ρ (fr (-1)) := let ⟨_, h1, h2⟩ := g.minus1; ev_glob (ns := [-1, 1]) hg h1 h2
theorem ev_half (g : Gl0 X.prog X.K X.mg X.base) (hg : Gl X "HALF") : Ev X W p (.Name "HALF" pos) ρ ρ (fr (1 / 2)) := let ⟨_, h1, h2⟩ := g.half; by
  rw [show fr (1 / 2) = .tup ([1, 2].map D.int) by
    unfold fr
    rw [show (1 / 2 : Rat).num = 1 by decide +kernel, show (1 / 2 : Rat).den = 2 by decide +kernel]
    rfl]
  exact ev_glob (ns := [1, 2]) hg h1 h2
theorem ev_num (a : Ev X W p ea ρ ρ1 (fr q)) {j : Nat} {pos' : Pos} : Ev X W p (.Subscript ea (.Constant (.int 0) j pos') pos) ρ ρ1 (.int q.num) := ev_ixT a ev_int rfl
theorem ev_den (a : Ev X W p ea ρ ρ1 (fr q)) {j : Nat} {pos' : Pos} : Ev X W p (.Subscript ea (.Constant (.int 1) j pos') pos) ρ ρ1 (.int (q.den : Int)) := ev_ixT a ev_int rfl
theorem fr_eq {q r : Rat} : decide ([q.num, (q.den : Int)] = [r.num, (r.den : Int)]) = decide (q = r) := by
  congr 1
  refine propext ⟨fun h => ?_, fun h => by rw [h]⟩
  injection h with h1 h2
  injection h2 with h2 _
  exact Rat.ext h1 (by omega)
theorem ev_eqF (hr : Room k X.A) (a : Ev X W p ea ρ ρ1 (fr q)) (b : Ev X W p eb ρ1 ρ2 (fr r)) : Ev X W p (.Compare ea [.Eq] [eb] pos) ρ ρ2 (.bl (decide (q = r))) := by rw [← fr_eq]; exact ev_eqT hr a b
theorem ev_neF (hr : Room k X.A) (a : Ev X W p ea ρ ρ1 (fr q)) (b : Ev X W p eb ρ1 ρ2 (fr r)) : Ev X W p (.Compare ea [.NotEq] [eb] pos) ρ ρ2 (.bl (!decide (q = r))) := by rw [← fr_eq]; exact ev_neT hr a b
theorem et_eqF (hr : Room k X.A) (a : Ev X W p ea ρ ρ1 (fr q)) (b : Ev X W p eb ρ1 ρ2 (fr r)) : EvT X W p (.Compare ea [.Eq] [eb] pos) ρ ρ2 (decide (q = r)) := by rw [← fr_eq]; exact et_eqT hr a b
theorem et_neF (hr : Room k X.A) (a : Ev X W p ea ρ ρ1 (fr q)) (b : Ev X W p eb ρ1 ρ2 (fr r)) : EvT X W p (.Compare ea [.NotEq] [eb] pos) ρ ρ2 (!decide (q = r)) := by rw [← fr_eq]; exact et_neT hr a b
end

def rBin (C : Rat → Rat → Prop) (f : Rat → Rat → D) (as : List Ar) (d : D) : Prop := ∃ p q : Rat, as = [.v (fr p), .v (fr q)] ∧ C p q ∧ d = f p q
def CS (p q : Rat) : Prop := S p ∧ S q
def CD (p q : Rat) : Prop := S p ∧ S q ∧ q ≠ 0
abbrev rPlus := rBin CS fun p q => fr (p + q)
abbrev rMinus := rBin CS fun p q => fr (p - q)
abbrev rTimes := rBin CS fun p q => fr (p * q)
abbrev rOver := rBin CD fun p q => fr (p / q)
abbrev rIsLess := rBin CS fun p q => .bl (decide (p < q))
def rSignOf (as : List Ar) (d : D) : Prop := ∃ p : Rat, as = [.v (fr p)] ∧ d = .int (sgn p)
abbrev sPlus : Stmt := topS 13
theorem scPlus : FnScope ["one", "other"] ["one", "other"] (defScope sPlus) := ⟨rfl, rfl, rfl, by decide +kernel, rfl, by decide +kernel, by decide +kernel⟩
abbrev sMinus : Stmt := topS 14
theorem scMinus : FnScope ["one", "other"] ["one", "other"] (defScope sMinus) := ⟨rfl, rfl, rfl, by decide +kernel, rfl, by decide +kernel, by decide +kernel⟩
abbrev sTimes : Stmt := topS 15
theorem scTimes : FnScope ["one", "other"] ["one", "other"] (defScope sTimes) := ⟨rfl, rfl, rfl, by decide +kernel, rfl, by decide +kernel, by decide +kernel⟩
abbrev sOver : Stmt := topS 16
theorem scOver : FnScope ["one", "other"] ["one", "other"] (defScope sOver) := ⟨rfl, rfl, rfl, by decide +kernel, rfl, by decide +kernel, by decide +kernel⟩
abbrev sIsLess : Stmt := topS 17
theorem scIsLess : FnScope ["one", "other"] ["one", "other"] (defScope sIsLess) := ⟨rfl, rfl, rfl, by decide +kernel, rfl, by decide +kernel, by decide +kernel⟩
abbrev sSignOf : Stmt := topS 18
theorem scSignOf : FnScope ["one"] ["one"] (defScope sSignOf) := ⟨rfl, rfl, rfl, by decide +kernel, rfl, by decide +kernel, by decide +kernel⟩
theorem den_nz (q : Rat) : (q.den : Int) ≠ 0 := by have := q.den_pos; omega
section
variable {P : Program} {w : World} {K : PySem.W.Frag} {mg : Str → Option Value} {base : Heap}
abbrev ps2 : List Str := ["one", "other"]
theorem ok_plus {f : Addr} {fd : FuncData} (F : Fun K "plus" "plus" sPlus f fd) (hb : Binds K fd ["one", "other"] []) (hm : mg "plus" = some (.ref f)) (f1 : FnA P w K mg base 41 "ratio" ["top", "bottom"] rRatio) : FnA P w K mg base 42 "plus" ["one", "other"] rPlus := by
  refine fnA_mk F scPlus hb hm (fun as d h => ?_) (by decide) (fun cdv A outer s H E W hW hr as d h => ?_)
  · obtain ⟨a, b, rfl, _⟩ := h
    rfl
  · obtain ⟨p, q, rfl, ⟨hp, hq⟩, rfl⟩ := h
    refine ss_one (st_ret (ev_call f1 hr (ea_cons (ev_add (ev_mul (ev_num (ev_var 0 rfl rfl (Or.inl rfl))) (ev_den (ev_var 1 rfl rfl (Or.inl rfl))) ⟨hp.num, hq.den⟩) (ev_mul (ev_num (ev_var 1 rfl rfl (Or.inl rfl))) (ev_den (ev_var 0 rfl rfl (Or.inl rfl))) ⟨hq.num, hp.den⟩)) (ea_cons (ev_mul (ev_den (ev_var 0 rfl rfl (Or.inl rfl))) (ev_den (ev_var 1 rfl rfl (Or.inl rfl))) ⟨hp.den, hq.den⟩) ea_nil)) ⟨_, _, rfl, Int.mul_ne_zero (den_nz p) (den_nz q), rfl⟩ rfl) ?_)
    rw [← add_divInt]
theorem ok_minus {f : Addr} {fd : FuncData} (F : Fun K "minus" "minus" sMinus f fd) (hb : Binds K fd ["one", "other"] []) (hm : mg "minus" = some (.ref f)) (f1 : FnA P w K mg base 41 "ratio" ["top", "bottom"] rRatio) : FnA P w K mg base 42 "minus" ["one", "other"] rMinus := by
  refine fnA_mk F scMinus hb hm (fun as d h => ?_) (by decide) (fun cdv A outer s H E W hW hr as d h => ?_)
  · obtain ⟨a, b, rfl, _⟩ := h
    rfl
  · obtain ⟨p, q, rfl, ⟨hp, hq⟩, rfl⟩ := h
    refine ss_one (st_ret (ev_call f1 hr (ea_cons (ev_sub (ev_mul (ev_num (ev_var 0 rfl rfl (Or.inl rfl))) (ev_den (ev_var 1 rfl rfl (Or.inl rfl))) ⟨hp.num, hq.den⟩) (ev_mul (ev_num (ev_var 1 rfl rfl (Or.inl rfl))) (ev_den (ev_var 0 rfl rfl (Or.inl rfl))) ⟨hq.num, hp.den⟩)) (ea_cons (ev_mul (ev_den (ev_var 0 rfl rfl (Or.inl rfl))) (ev_den (ev_var 1 rfl rfl (Or.inl rfl))) ⟨hp.den, hq.den⟩) ea_nil)) ⟨_, _, rfl, Int.mul_ne_zero (den_nz p) (den_nz q), rfl⟩ rfl) ?_)
    rw [← sub_divInt]
theorem ok_times {f : Addr} {fd : FuncData} (F : Fun K "times" "times" sTimes f fd) (hb : Binds K fd ["one", "other"] []) (hm : mg "times" = some (.ref f)) (f1 : FnA P w K mg base 41 "ratio" ["top", "bottom"] rRatio) : FnA P w K mg base 42 "times" ["one", "other"] rTimes := by
  refine fnA_mk F scTimes hb hm (fun as d h => ?_) (by decide) (fun cdv A outer s H E W hW hr as d h => ?_)
  · obtain ⟨a, b, rfl, _⟩ := h
    rfl
  · obtain ⟨p, q, rfl, ⟨hp, hq⟩, rfl⟩ := h
    refine ss_one (st_ret (ev_call f1 hr (ea_cons (ev_mul (ev_num (ev_var 0 rfl rfl (Or.inl rfl))) (ev_num (ev_var 1 rfl rfl (Or.inl rfl))) ⟨hp.num, hq.num⟩) (ea_cons (ev_mul (ev_den (ev_var 0 rfl rfl (Or.inl rfl))) (ev_den (ev_var 1 rfl rfl (Or.inl rfl))) ⟨hp.den, hq.den⟩) ea_nil)) ⟨_, _, rfl, Int.mul_ne_zero (den_nz p) (den_nz q), rfl⟩ rfl) ?_)
    rw [← mul_divInt]
theorem ok_over {f : Addr} {fd : FuncData} (F : Fun K "over" "over" sOver f fd) (hb : Binds K fd ["one", "other"] []) (hm : mg "over" = some (.ref f)) (f1 : FnA P w K mg base 41 "ratio" ["top", "bottom"] rRatio) : FnA P w K mg base 42 "over" ["one", "other"] rOver := by
  refine fnA_mk F scOver hb hm (fun as d h => ?_) (by decide) (fun cdv A outer s H E W hW hr as d h => ?_)
  · obtain ⟨a, b, rfl, _⟩ := h
    rfl
  · obtain ⟨p, q, rfl, ⟨hp, hq, h0⟩, rfl⟩ := h
    refine ss_one (st_ret (ev_call f1 hr (ea_cons (ev_mul (ev_num (ev_var 0 rfl rfl (Or.inl rfl))) (ev_den (ev_var 1 rfl rfl (Or.inl rfl))) ⟨hp.num, hq.den⟩) (ea_cons (ev_mul (ev_den (ev_var 0 rfl rfl (Or.inl rfl))) (ev_num (ev_var 1 rfl rfl (Or.inl rfl))) ⟨hp.den, hq.num⟩) ea_nil)) ⟨_, _, rfl, Int.mul_ne_zero (den_nz p) (fun z => h0 (by rw [← Rat.num_eq_zero]; exact z)), rfl⟩ rfl) ?_)
    rw [← div_divInt]
theorem ok_is_less {f : Addr} {fd : FuncData} (F : Fun K "is_less" "is_less" sIsLess f fd) (hb : Binds K fd ["one", "other"] []) (hm : mg "is_less" = some (.ref f)) : FnA P w K mg base 42 "is_less" ["one", "other"] rIsLess := by
  refine fnA_mk F scIsLess hb hm (fun as d h => ?_) (by decide) (fun cdv A outer s H E W hW hr as d h => ?_)
  · obtain ⟨a, b, rfl, _⟩ := h
    rfl
  · obtain ⟨p, q, rfl, ⟨hp, hq⟩, rfl⟩ := h
    refine ss_one (st_ret (ev_lt (ev_mul (ev_num (ev_var 0 rfl rfl (Or.inl rfl))) (ev_den (ev_var 1 rfl rfl (Or.inl rfl))) ⟨hp.num, hq.den⟩) (ev_mul (ev_num (ev_var 1 rfl rfl (Or.inl rfl))) (ev_den (ev_var 0 rfl rfl (Or.inl rfl))) ⟨hq.num, hp.den⟩)) ?_)
    show _ = Rv.d (D.bl (decide (p < q)))
    rw [show decide (p < q) = decide (p.num * (q.den : Int) < q.num * (p.den : Int)) by simp only [Rat.lt_iff]]
theorem sgn_eq (p : Rat) : (if decide ((0 : Int) < p.num) = true then (1 : Int) else 0) - (if decide (p.num < 0) = true then (1 : Int) else 0) = sgn p := by
  unfold sgn
  have h1 : (0 < p) ↔ 0 < p.num := by
    rw [Rat.lt_iff]; simp
  have h2 : (p < 0) ↔ p.num < 0 := by
    rw [Rat.lt_iff]; simp
  simp only [h1, h2, decide_eq_true_eq]
  split <;> split <;> omega
theorem ok_sign_of {f : Addr} {fd : FuncData} (F : Fun K "sign_of" "sign_of" sSignOf f fd) (hb : Binds K fd ["one"] []) (hm : mg "sign_of" = some (.ref f)) (g : Gl0 P K mg base) : FnA P w K mg base 42 "sign_of" ["one"] rSignOf := by
  refine fnA_mk F scSignOf hb hm (fun as d h => ?_) (by decide) (fun cdv A outer s H E W hW hr as d h => ?_)
  · obtain ⟨a, rfl, _⟩ := h
    rfl
  · obtain ⟨p, rfl, rfl⟩ := h
    refine ss_one (st_ret (ev_sub (ev_callTy call_int1 rc_intB (ea_cons (ev_gt (ev_num (ev_var 0 rfl rfl (Or.inl rfl))) ev_int) ea_nil) rfl g.int (by decide +kernel)) (ev_callTy call_int1 rc_intB (ea_cons (ev_lt (ev_num (ev_var 0 rfl rfl (Or.inl rfl))) ev_int) ea_nil) rfl g.int (by decide +kernel))) ?_)
    rw [sgn_eq]
end
end M66
/-! Polynomials: the walk. -/
namespace M66
open PySem PySem.Spec PyProof.Rows L2

/-- the fractions' defs -/
structure Fra (P : Program) (w : World) (K : PySem.W.Frag) (mg : Str → Option Value) (base : Heap) : Prop where
  g : Gl0 P K mg base
  divisor : FnA P w K mg base 1 "divisor" ["one", "other"] rDivisor
  plus : FnA P w K mg base 42 "plus" ["one", "other"] rPlus
  minus : FnA P w K mg base 42 "minus" ["one", "other"] rMinus
  times : FnA P w K mg base 42 "times" ["one", "other"] rTimes
  over : FnA P w K mg base 42 "over" ["one", "other"] rOver
  isLess : FnA P w K mg base 42 "is_less" ["one", "other"] rIsLess
  signOf : FnA P w K mg base 42 "sign_of" ["one"] rSignOf
section
variable {X : Cx} {W : Wd} {p : Bool} {ρ ρ1 ρ2 : List Sl} {ea eb : Expr} {pos p' : Pos} {q r : Rat} {k : Nat}
variable (L : Fra X.prog X.w X.K X.mg X.base) (hr : Room 42 X.A)
include L hr
theorem ev_plus (a : Ev X W p ea ρ ρ1 (fr q)) (b : Ev X W p eb ρ1 ρ2 (fr r)) (h : S q ∧ S r) (hg : Gl X "plus" := by rfl) (h1 : starEach [ea, eb] X.env = (false, eval ea X.env) :: starEach [eb] X.env := by rfl) (h2 : starEach [eb] X.env = (false, eval eb X.env) :: starEach [] X.env := by rfl) (h3 : (backTo pos (starEach [eb] X.env)).any (·.1) = false := by rfl) :
    Ev X W p (.Call (.Name "plus" p') [ea, eb] [] pos) ρ ρ2 (fr (q + r)) := ev_call L.plus hr (ea_cons a (ea_cons b ea_nil h2) h1) ⟨q, r, rfl, h, rfl⟩ hg (by decide) h1 h3
theorem ev_minus (a : Ev X W p ea ρ ρ1 (fr q)) (b : Ev X W p eb ρ1 ρ2 (fr r)) (h : S q ∧ S r) (hg : Gl X "minus" := by rfl) (h1 : starEach [ea, eb] X.env = (false, eval ea X.env) :: starEach [eb] X.env := by rfl) (h2 : starEach [eb] X.env = (false, eval eb X.env) :: starEach [] X.env := by rfl) (h3 : (backTo pos (starEach [eb] X.env)).any (·.1) = false := by rfl) :
    Ev X W p (.Call (.Name "minus" p') [ea, eb] [] pos) ρ ρ2 (fr (q - r)) := ev_call L.minus hr (ea_cons a (ea_cons b ea_nil h2) h1) ⟨q, r, rfl, h, rfl⟩ hg (by decide) h1 h3
theorem ev_times (a : Ev X W p ea ρ ρ1 (fr q)) (b : Ev X W p eb ρ1 ρ2 (fr r)) (h : S q ∧ S r) (hg : Gl X "times" := by rfl) (h1 : starEach [ea, eb] X.env = (false, eval ea X.env) :: starEach [eb] X.env := by rfl) (h2 : starEach [eb] X.env = (false, eval eb X.env) :: starEach [] X.env := by rfl) (h3 : (backTo pos (starEach [eb] X.env)).any (·.1) = false := by rfl) :
    Ev X W p (.Call (.Name "times" p') [ea, eb] [] pos) ρ ρ2 (fr (q * r)) := ev_call L.times hr (ea_cons a (ea_cons b ea_nil h2) h1) ⟨q, r, rfl, h, rfl⟩ hg (by decide) h1 h3
theorem ev_over (a : Ev X W p ea ρ ρ1 (fr q)) (b : Ev X W p eb ρ1 ρ2 (fr r)) (h : S q ∧ S r ∧ r ≠ 0) (hg : Gl X "over" := by rfl) (h1 : starEach [ea, eb] X.env = (false, eval ea X.env) :: starEach [eb] X.env := by rfl) (h2 : starEach [eb] X.env = (false, eval eb X.env) :: starEach [] X.env := by rfl) (h3 : (backTo pos (starEach [eb] X.env)).any (·.1) = false := by rfl) :
    Ev X W p (.Call (.Name "over" p') [ea, eb] [] pos) ρ ρ2 (fr (q / r)) := ev_call L.over hr (ea_cons a (ea_cons b ea_nil h2) h1) ⟨q, r, rfl, h, rfl⟩ hg (by decide) h1 h3
theorem ev_is_less (a : Ev X W p ea ρ ρ1 (fr q)) (b : Ev X W p eb ρ1 ρ2 (fr r)) (h : S q ∧ S r) (hg : Gl X "is_less" := by rfl) (h1 : starEach [ea, eb] X.env = (false, eval ea X.env) :: starEach [eb] X.env := by rfl) (h2 : starEach [eb] X.env = (false, eval eb X.env) :: starEach [] X.env := by rfl) (h3 : (backTo pos (starEach [eb] X.env)).any (·.1) = false := by rfl) :
    Ev X W p (.Call (.Name "is_less" p') [ea, eb] [] pos) ρ ρ2 (.bl (decide (q < r))) := ev_call L.isLess hr (ea_cons a (ea_cons b ea_nil h2) h1) ⟨q, r, rfl, h, rfl⟩ hg (by decide) h1 h3
theorem ev_sign_of (a : Ev X W p ea ρ ρ1 (fr q)) (hg : Gl X "sign_of" := by rfl) (h1 : starEach [ea] X.env = (false, eval ea X.env) :: starEach [] X.env := by rfl) :
    Ev X W p (.Call (.Name "sign_of" p') [ea] [] pos) ρ ρ1 (.int (sgn q)) := ev_call L.signOf hr (ea_cons a ea_nil h1) ⟨q, rfl, rfl⟩ hg (by decide) h1
end

/-- a polynomial's datum -/
def pl (f : List Rat) : D := .lst (f.map fr)
theorem sh_fr (q : Rat) : (fr q).py.canLay0 = true ∧ (fr q).py.depth ≤ 1 := (ShL.ints (n := 0) _).tup
theorem sh_pl (f : List Rat) : Sh (pl f) := (ShL.of (n := 1) fun d hd => by
  obtain ⟨q, _, rfl⟩ := List.mem_map.mp hd
  exact sh_fr q).sh (by decide)
theorem fr_nat (k : Nat) : D.tup [.int (k : Int), .int 1] = fr (k : Rat) := rfl
theorem isEmpty_map {α β : Type} (f : List α) (h : α → β) : (f.map h).isEmpty = f.isEmpty := by cases f <;> rfl
theorem isEmpty_dec {α : Type} {f : List α} : f.isEmpty = true ↔ f = [] := List.isEmpty_iff
theorem atI_last' {f : List Rat} (h : f ≠ []) : atI (f.map fr) (-1) = some (fr (lst f)) := by
  have e : f.map fr = f.dropLast.map fr ++ [fr (f.getLast h)] := by
    rw [← List.map_singleton, ← List.map_append, List.dropLast_concat_getLast]
  rw [e, atI_last]
  congr 2
  unfold lst
  rw [List.getLastD_eq_getLast?, List.getLast?_eq_some_getLast h]
  rfl
theorem cutD_from1 (ds : List D) : cutD ds (some 1) none = ds.drop 1 := by
  unfold cutD
  rw [show HT.sIx ds.length 0 (some 1) = min 1 ds.length from HT.sIx_nat ds.length 0 1, HT.sIx_none]
  cases ds with
  | nil => rfl
  | cons x r =>
    rw [show min 1 (x :: r).length = 1 by rw [List.length_cons]; omega, List.take_of_length_le]
    rw [List.length_drop, List.length_cons]
    omega
theorem cutD_to (ds : List D) (n : Nat) : cutD ds none (some (n : Int)) = ds.take n := by
  unfold cutD
  rw [HT.sIx_none, HT.sIx_nat, List.drop_zero, Nat.sub_zero]
  by_cases h : n ≤ ds.length
  · rw [Nat.min_eq_left h]
  · rw [Nat.min_eq_right (by omega), List.take_of_length_le (Nat.le_refl _), List.take_of_length_le (by omega)]

def rTotal (as : List Ar) (d : D) : Prop := ∃ f : List Rat, as = [.v (pl f)] ∧ SL f ∧ (∀ i, i < f.length → S (tot (f.take i))) ∧ d = fr (tot f)
def rClean (as : List Ar) (d : D) : Prop := ∃ f : List Rat, as = [.v (pl f)] ∧ d = pl (cln f)
def rAtPlace (as : List Ar) (d : D) : Prop := ∃ (f : List Rat) (i : Nat), as = [.v (pl f), .v (.int (i : Int))] ∧ d = fr (cf f i)
def rSummed (as : List Ar) (d : D) : Prop := ∃ f g : List Rat, as = [.v (pl f), .v (pl g)] ∧ SL f ∧ SL g ∧ f.length ≤ 1000 ∧ g.length ≤ 1000 ∧ d = pl (addP f g)
def rLessened (as : List Ar) (d : D) : Prop := ∃ f g : List Rat, as = [.v (pl f), .v (pl g)] ∧ SL f ∧ SL g ∧ f.length ≤ 1000 ∧ g.length ≤ 1000 ∧ d = pl (subP f g)
def rGrown (as : List Ar) (d : D) : Prop := ∃ (f : List Rat) (c : Rat), as = [.v (pl f), .v (fr c)] ∧ SL f ∧ S c ∧ f.length ≤ 1000 ∧ d = pl (scl f c)
def rRaised (as : List Ar) (d : D) : Prop := ∃ (f : List Rat) (k : Nat), as = [.v (pl f), .v (.int (k : Int))] ∧ f.length + k ≤ 1000 ∧ d = pl (rai f k)
def rMultiplied (as : List Ar) (d : D) : Prop := ∃ f g : List Rat, as = [.v (pl f), .v (pl g)] ∧ MulOk f g ∧ d = pl (mulP f g)
def rPowerOfX (as : List Ar) (d : D) : Prop := ∃ k : Nat, as = [.v (.int (k : Int))] ∧ k ≤ 1000 ∧ d = pl (pwr k)
def rNumberAt (as : List Ar) (d : D) : Prop := ∃ (f : List Rat) (x : Rat), as = [.v (pl f), .v (fr x)] ∧ EvOk f x ∧ d = fr (ev f x)
def rSlope (as : List Ar) (d : D) : Prop := ∃ f : List Rat, as = [.v (pl f)] ∧ SL f ∧ f.length ≤ 1000 ∧ d = pl (slp f)
def rLed (as : List Ar) (d : D) : Prop := ∃ f : List Rat, as = [.v (pl f)] ∧ SL f ∧ f.length ≤ 1000 ∧ (f = [] ∨ lst f ≠ 0) ∧ d = pl (ledP f)

abbrev sTotal : Stmt := topS 19
theorem scTotal : FnScope ["some", "found", "one"] ["some"] (defScope sTotal) := ⟨rfl, rfl, rfl, by decide +kernel, rfl, by decide +kernel, by decide +kernel⟩
abbrev sClean : Stmt := topS 22
theorem scClean : FnScope ["numbers", "many"] ["numbers"] (defScope sClean) := ⟨rfl, rfl, rfl, by decide +kernel, rfl, by decide +kernel, by decide +kernel⟩
abbrev sAtPlace : Stmt := topS 23
theorem scAtPlace : FnScope ["f", "place"] ["f", "place"] (defScope sAtPlace) := ⟨rfl, rfl, rfl, by decide +kernel, rfl, by decide +kernel, by decide +kernel⟩
abbrev sSummed : Stmt := topS 24
theorem scSummed : FnScope ["f", "g", "place"] ["f", "g"] (defScope sSummed) := ⟨rfl, rfl, rfl, by decide +kernel, rfl, by decide +kernel, by decide +kernel⟩
abbrev sGrown : Stmt := topS 25
theorem scGrown : FnScope ["f", "by", "one"] ["f", "by"] (defScope sGrown) := ⟨rfl, rfl, rfl, by decide +kernel, rfl, by decide +kernel, by decide +kernel⟩
abbrev sLessened : Stmt := topS 26
theorem scLessened : FnScope ["f", "g", "place"] ["f", "g"] (defScope sLessened) := ⟨rfl, rfl, rfl, by decide +kernel, rfl, by decide +kernel, by decide +kernel⟩
abbrev sRaised : Stmt := topS 27
theorem scRaised : FnScope ["f", "many"] ["f", "many"] (defScope sRaised) := ⟨rfl, rfl, rfl, by decide +kernel, rfl, by decide +kernel, by decide +kernel⟩
abbrev sMultiplied : Stmt := topS 28
theorem scMultiplied : FnScope ["f", "g", "found", "place", "one"] ["f", "g"] (defScope sMultiplied) := ⟨rfl, rfl, rfl, by decide +kernel, rfl, by decide +kernel, by decide +kernel⟩
abbrev sPowerOfX : Stmt := topS 29
theorem scPowerOfX : FnScope ["many"] ["many"] (defScope sPowerOfX) := ⟨rfl, rfl, rfl, by decide +kernel, rfl, by decide +kernel, by decide +kernel⟩
abbrev sNumberAt : Stmt := topS 30
theorem scNumberAt : FnScope ["f", "x", "found", "one"] ["f", "x"] (defScope sNumberAt) := ⟨rfl, rfl, rfl, by decide +kernel, rfl, by decide +kernel, by decide +kernel⟩
abbrev sSlope : Stmt := topS 31
theorem scSlope : FnScope ["f", "place", "one"] ["f"] (defScope sSlope) := ⟨rfl, rfl, rfl, by decide +kernel, rfl, by decide +kernel, by decide +kernel⟩
abbrev sLed : Stmt := topS 32
theorem scLed : FnScope ["f", "one"] ["f"] (defScope sLed) := ⟨rfl, rfl, rfl, by decide +kernel, rfl, by decide +kernel, by decide +kernel⟩

theorem tot_snoc (f : List Rat) (c : Rat) : tot (f ++ [c]) = tot f + c := by
  unfold tot
  rw [List.foldl_append]
  rfl
theorem get_map {f : List Rat} {i : Nat} {d : D} (h : (f.map fr)[i]? = some d) : ∃ c, f[i]? = some c ∧ d = fr c := by
  rw [List.getElem?_map] at h
  cases e : f[i]? with
  | none =>
    rw [e] at h
    cases h
  | some c =>
    rw [e] at h
    cases h
    exact ⟨c, rfl, rfl⟩
theorem max_cast (a b : Nat) : (max (a : Int) (b : Int)).toNat = max a b := by omega
section
variable {P : Program} {w : World} {K : PySem.W.Frag} {mg : Str → Option Value} {base : Heap}
theorem ok_total {f : Addr} {fd : FuncData} (F : Fun K "total" "total" sTotal f fd) (hb : Binds K fd ["some"] []) (hm : mg "total" = some (.ref f)) (L : Fra P w K mg base) : FnA P w K mg base 43 "total" ["some"] rTotal := by
  refine fnA_mk F scTotal hb hm (fun as d h => ?_) (by decide) (fun cdv A outer s H E W hW hr as d h => ?_)
  · obtain ⟨f, rfl, _⟩ := h
    rfl
  · obtain ⟨f, rfl, hf, hp, rfl⟩ := h
    refine ss_seq (st_set 1 (ev_zero L.g rfl) scTotal.nd rfl (Or.inl rfl) (.inl hW)) ?_
    refine ss_cons (M := fun ρ => ∃ x, ρ = [.val (pl f), .val (fr (tot f)), x]) (st_for (fun i ρ => i ≤ f.length ∧ ∃ x, ρ = [.val (pl f), .val (fr (tot (f.take i))), x]) (ei_list (ev_var 0 rfl rfl (Or.inl rfl))) ⟨Nat.zero_le _, .un, rfl⟩ PassesOwn.never rfl ?_ ?_) ?_
    · rintro i d _ hi ⟨hl, x, rfl⟩
      obtain ⟨c, hc, rfl⟩ := get_map hi
      have hlt : i < f.length := (List.getElem?_eq_some_iff.mp hc).1
      refine ⟨_, _, eg_name 2 scTotal.nd rfl (Or.inl rfl) (.inl hW), ?_⟩
      refine ss_one (StD.imp (st_set 1 (ev_plus L hr (ev_var 1 rfl rfl (Or.inl rfl)) (ev_var 2 rfl rfl (Or.inl rfl)) ⟨hp i hlt, hf c (List.mem_of_getElem? hc)⟩) scTotal.nd rfl (Or.inl rfl) (.inl hW)) ?_ fun _ _ h => h)
      rintro _ rfl
      refine ⟨hlt, .val (fr c), ?_⟩
      rw [take_snoc hc, tot_snoc]
      rfl
    · rintro _ ⟨_, x, rfl⟩
      rw [List.length_map, List.take_of_length_le (Nat.le_refl _)]
      exact ⟨x, rfl⟩
    · rintro _ ⟨x, rfl⟩
      exact ss_one (st_ret (ev_var 1 rfl rfl (Or.inl rfl)) rfl)
theorem ok_clean {f : Addr} {fd : FuncData} (F : Fun K "clean" "clean" sClean f fd) (hb : Binds K fd ["numbers"] []) (hm : mg "clean" = some (.ref f)) (L : Fra P w K mg base) : FnA P w K mg base 43 "clean" ["numbers"] rClean := by
  refine fnA_mk F scClean hb hm (fun as d h => ?_) (by decide) (fun cdv A outer s H E W hW hr as d h => ?_)
  · obtain ⟨f, rfl, _⟩ := h
    rfl
  · obtain ⟨f, rfl, rfl⟩ := h
    refine ss_seq (st_set 1 (ev_len (.inl rfl) (ea_cons (ev_var 0 rfl rfl (Or.inl rfl)) ea_nil) rfl L.g.len (by decide +kernel)) scClean.nd rfl (Or.inl rfl) (.inl hW)) ?_
    refine ss_cons (M := fun ρ => ∃ n, n ≤ f.length ∧ ρ = [.val (pl f), .val (.int (n : Int))] ∧ f.take n = cln f) (st_while (fun n ρ => n ≤ f.length ∧ ρ = [.val (pl f), .val (.int (n : Int))] ∧ cln (f.take n) = cln f) f.length ⟨Nat.le_refl _, by rw [List.length_map]; rfl, by rw [List.take_of_length_le (Nat.le_refl _)]⟩ PassesOwn.never ?_) ?_
    · rintro n _ ⟨hn, rfl, hc⟩
      have hx : 0 < n → atI (f.map fr) ((n : Int) - 1) = some (fr (cf f (n - 1))) := fun h => by
        rw [show (n : Int) - 1 = ((n - 1 : Nat) : Int) by omega]
        refine atI_nat ?_
        rw [List.getElem?_map, List.getElem?_eq_getElem (by omega), cf_lt (by omega)]
        rfl
      refine ⟨decide ((0 : Int) < (n : Int)) && decide (cf f (n - 1) = 0), et_and2 (et_gt (ev_var 1 rfl rfl (Or.inl rfl)) ev_int) (fun h => et_eqF hr (ev_ixL (ev_var 0 rfl rfl (Or.inl rfl)) (ev_sub (ev_var 1 rfl rfl (Or.inl rfl)) ev_int) (hx (by have := of_decide_eq_true h; omega))) (ev_zero L.g rfl)), fun h => ?_, fun h => ⟨n, hn, rfl, ?_⟩⟩
      · rw [Bool.and_eq_true] at h
        have h1 : 0 < n := by have := of_decide_eq_true h.1; omega
        have h2 := of_decide_eq_true h.2
        refine ss_one (StD.imp (st_set 1 (ev_sub (ev_var 1 rfl rfl (Or.inl rfl)) ev_int) scClean.nd rfl (Or.inl rfl) (.inl hW)) ?_ fun _ _ h => h)
        rintro _ rfl
        refine ⟨n - 1, by omega, by omega, by rw [show (n : Int) - 1 = ((n - 1 : Nat) : Int) by omega]; rfl, ?_⟩
        rw [← hc]
        have e : f.take n = f.take (n - 1) ++ [cf f (n - 1)] := by
          have := take_snoc (f := f) (i := n - 1) (c := cf f (n - 1)) (by rw [List.getElem?_eq_getElem (by omega), cf_lt (by omega)])
          rwa [show n - 1 + 1 = n by omega] at this
        rw [e, cln_concat, if_pos h2]
      · rw [← hc]
        by_cases h1 : n = 0
        · subst h1
          rfl
        · have h2 : cf f (n - 1) ≠ 0 := by
            intro z
            rw [Bool.and_eq_false_iff] at h
            rcases h with h | h
            · have := of_decide_eq_false h
              omega
            · exact of_decide_eq_false h z
          have e : f.take n = f.take (n - 1) ++ [cf f (n - 1)] := by
            have := take_snoc (f := f) (i := n - 1) (c := cf f (n - 1)) (by rw [List.getElem?_eq_getElem (by omega), cf_lt (by omega)])
            rwa [show n - 1 + 1 = n by omega] at this
          rw [e, cln_concat, if_neg h2]
    · rintro _ ⟨n, hn, rfl, hc⟩
      refine ss_one (st_ret (EvF.ev (ef_list (EvF.ev (ef_slice (ev_var 0 rfl rfl (Or.inl rfl)) ep_none (ep_some (ev_var 1 rfl rfl (Or.inl rfl))))) rfl L.g.list (by decide +kernel))) ?_)
      rw [cutD_to, ← List.map_take, hc]
      rfl
end

theorem flat_rep (k : Nat) (d : D) : (List.replicate k [d]).flatten = List.replicate k d := by
  induction k with
  | zero => rfl
  | succ k ih => rw [List.replicate_succ, List.flatten_cons, ih, List.replicate_succ]; rfl
theorem horner {f : List Rat} {i : Nat} {c x : Rat} (h : f.reverse[i]? = some c) : ev (f.drop (f.length - (i + 1))) x = ev (f.drop (f.length - i)) x * x + c := by
  have hi : i < f.length := by
    have := (List.getElem?_eq_some_iff.mp h).1
    rwa [List.length_reverse] at this
  rw [List.getElem?_reverse hi] at h
  have e : f.drop (f.length - (i + 1)) = c :: f.drop (f.length - i) := by
    have h2 : f.length - 1 - i < f.length := by omega
    have h3 := List.drop_eq_getElem_cons h2
    rw [List.getElem?_eq_getElem h2] at h
    injection h with h
    rw [h] at h3
    rwa [show f.length - 1 - i = f.length - (i + 1) by omega, show f.length - (i + 1) + 1 = f.length - i by omega] at h3
  rw [e, ev_cons]
theorem slp_data (f : List Rat) : (f.map fr).zipIdx.map (fun z => D.tup [.int z.2, z.1]) = f.zipIdx.map (fun z => D.tup [.int (z.2 : Int), fr z.1]) := by
  rw [List.zipIdx_map, List.map_map]
  rfl
theorem drop_map1 (f : List (Rat × Nat)) (h : Rat × Nat → Rat) : (f.map fun z => fr (h z)).drop 1 = ((f.map h).drop 1).map fr := by
  rw [← List.map_drop, ← List.map_drop, List.map_map]
  rfl
theorem S.nat {k : Nat} (h : k < 2 ^ 64) : S (k : Rat) := (sz_int (i := (k : Int)) (n := 64) (by decide) (by simpa using h)).s (by decide)
theorem nat_lt64 {k : Nat} (h : k ≤ 1000) : k < 2 ^ 64 := Nat.lt_of_le_of_lt h (by decide)
theorem zipIdx_lt {α : Type} {f : List α} {x : α × Nat} (h : x ∈ f.zipIdx) : x.2 < f.length ∧ x.1 ∈ f := by
  obtain ⟨x1, x2⟩ := x
  have := List.mem_zipIdx h
  refine ⟨by omega, ?_⟩
  rw [this.2.2]
  exact List.getElem_mem _
section
variable {P : Program} {w : World} {K : PySem.W.Frag} {mg : Str → Option Value} {base : Heap}
theorem ok_at_place {f : Addr} {fd : FuncData} (F : Fun K "at_place" "at_place" sAtPlace f fd) (hb : Binds K fd ["f", "place"] []) (hm : mg "at_place" = some (.ref f)) (L : Fra P w K mg base) : FnA P w K mg base 43 "at_place" ["f", "place"] rAtPlace := by
  refine fnA_mk F scAtPlace hb hm (fun as d h => ?_) (by decide) (fun cdv A outer s H E W hW hr as d h => ?_)
  · obtain ⟨f, i, rfl, _⟩ := h
    rfl
  · obtain ⟨f, i, rfl, rfl⟩ := h
    refine ss_cons (M := fun ρ => ρ = [.val (pl f), .val (.int (i : Int))] ∧ ¬ i < f.length) (st_if (et_lt (ev_var 1 rfl rfl (Or.inl rfl)) (ev_len (.inl rfl) (ea_cons (ev_var 0 rfl rfl (Or.inl rfl)) ea_nil) rfl L.g.len (by decide +kernel))) (fun hc => ?_) (fun hc => ss_nil ⟨rfl, ?_⟩)) ?_
    · have hc := of_decide_eq_true hc
      rw [List.length_map] at hc
      have hi : i < f.length := by omega
      refine ss_one (st_ret (ev_ixL (ev_var 0 rfl rfl (Or.inl rfl)) (ev_var 1 rfl rfl (Or.inl rfl)) (atI_nat (v := fr (cf f i)) ?_)) rfl)
      rw [List.getElem?_map, List.getElem?_eq_getElem hi, cf_lt hi]
      rfl
    · have hc := of_decide_eq_false hc
      rw [List.length_map] at hc
      omega
    · rintro _ ⟨rfl, hc⟩
      refine ss_one (st_ret (ev_zero L.g rfl) ?_)
      rw [cf_of_le (by omega)]
theorem ok_summed {f : Addr} {fd : FuncData} (F : Fun K "summed" "summed" sSummed f fd) (hb : Binds K fd ["f", "g"] []) (hm : mg "summed" = some (.ref f)) (L : Fra P w K mg base)
    (f_clean : FnA P w K mg base 43 "clean" ["numbers"] rClean) (f_at : FnA P w K mg base 43 "at_place" ["f", "place"] rAtPlace) : FnA P w K mg base 44 "summed" ["f", "g"] rSummed := by
  refine fnA_mk F scSummed hb hm (fun as d h => ?_) (by decide) (fun cdv A outer s H E W hW hr as d h => ?_)
  · obtain ⟨f, g, rfl, _⟩ := h
    rfl
  · obtain ⟨f, g, rfl, hf, hg, lf, lg, rfl⟩ := h
    have r2 : Room 42 _ := hr.mono (by decide)
    refine ss_one (st_ret (ev_call f_clean hr (ea_cons (EvF.ev (LcOk.ef (lc_all (List.range (max f.length g.length)) (fun i => .int (i : Int)) (fun i => fr (cf f i + cf g i)) [("place", 2)] (ei_range1 (ea_cons (ev_callB (call_max2 rfl) rc_max (ea_cons (ev_len (.inl rfl) (ea_cons (ev_var 0 rfl rfl (Or.inr (Or.inl rfl))) ea_nil) rfl L.g.len (by decide +kernel)) (ea_cons (ev_len (.inl rfl) (ea_cons (ev_var 1 rfl rfl (Or.inr (Or.inl rfl))) ea_nil) rfl L.g.len (by decide +kernel)) ea_nil)) rfl L.g.max (by decide +kernel)) ea_nil) rfl L.g.range (by rw [List.length_map, List.length_map]; omega) (by omega)) (by rw [List.length_map, List.length_map, max_cast]) hW (blkOk_by (N := ["f", "g", "place"]) (sc := defScope sSummed) (by decide +kernel)) (by rw [List.length_range]; omega) (by decide) (fun x hx => ⟨_, fun s H C cl fp => ⟨(eg_name 2 scSummed.nd rfl (Or.inl rfl) (.inl hW)), (ev_plus L r2 (ev_call f_at hr (ea_cons (ev_var 0 rfl rfl (Or.inr (Or.inl rfl))) (ea_cons (ev_var 2 rfl rfl (Or.inl rfl)) ea_nil)) ⟨f, x, rfl, rfl⟩ rfl) (ev_call f_at hr (ea_cons (ev_var 1 rfl rfl (Or.inr (Or.inl rfl))) (ea_cons (ev_var 2 rfl rfl (Or.inl rfl)) ea_nil)) ⟨g, x, rfl, rfl⟩ rfl) ⟨sl_get hf x, sl_get hg x⟩)⟩⟩)) rfl scSummed.nd)) ea_nil) ⟨(List.range (max f.length g.length)).map (fun i => cf f i + cf g i), by unfold pl; rw [List.map_map]; rfl, rfl⟩ rfl) ?_)
    rfl
theorem ok_lessened {f : Addr} {fd : FuncData} (F : Fun K "lessened" "lessened" sLessened f fd) (hb : Binds K fd ["f", "g"] []) (hm : mg "lessened" = some (.ref f)) (L : Fra P w K mg base)
    (f_clean : FnA P w K mg base 43 "clean" ["numbers"] rClean) (f_at : FnA P w K mg base 43 "at_place" ["f", "place"] rAtPlace) : FnA P w K mg base 44 "lessened" ["f", "g"] rLessened := by
  refine fnA_mk F scLessened hb hm (fun as d h => ?_) (by decide) (fun cdv A outer s H E W hW hr as d h => ?_)
  · obtain ⟨f, g, rfl, _⟩ := h
    rfl
  · obtain ⟨f, g, rfl, hf, hg, lf, lg, rfl⟩ := h
    have r2 : Room 42 _ := hr.mono (by decide)
    refine ss_one (st_ret (ev_call f_clean hr (ea_cons (EvF.ev (LcOk.ef (lc_all (List.range (max f.length g.length)) (fun i => .int (i : Int)) (fun i => fr (cf f i - cf g i)) [("place", 2)] (ei_range1 (ea_cons (ev_callB (call_max2 rfl) rc_max (ea_cons (ev_len (.inl rfl) (ea_cons (ev_var 0 rfl rfl (Or.inr (Or.inl rfl))) ea_nil) rfl L.g.len (by decide +kernel)) (ea_cons (ev_len (.inl rfl) (ea_cons (ev_var 1 rfl rfl (Or.inr (Or.inl rfl))) ea_nil) rfl L.g.len (by decide +kernel)) ea_nil)) rfl L.g.max (by decide +kernel)) ea_nil) rfl L.g.range (by rw [List.length_map, List.length_map]; omega) (by omega)) (by rw [List.length_map, List.length_map, max_cast]) hW (blkOk_by (N := ["f", "g", "place"]) (sc := defScope sLessened) (by decide +kernel)) (by rw [List.length_range]; omega) (by decide) (fun x hx => ⟨_, fun s H C cl fp => ⟨(eg_name 2 scLessened.nd rfl (Or.inl rfl) (.inl hW)), (ev_minus L r2 (ev_call f_at hr (ea_cons (ev_var 0 rfl rfl (Or.inr (Or.inl rfl))) (ea_cons (ev_var 2 rfl rfl (Or.inl rfl)) ea_nil)) ⟨f, x, rfl, rfl⟩ rfl) (ev_call f_at hr (ea_cons (ev_var 1 rfl rfl (Or.inr (Or.inl rfl))) (ea_cons (ev_var 2 rfl rfl (Or.inl rfl)) ea_nil)) ⟨g, x, rfl, rfl⟩ rfl) ⟨sl_get hf x, sl_get hg x⟩)⟩⟩)) rfl scLessened.nd)) ea_nil) ⟨(List.range (max f.length g.length)).map (fun i => cf f i - cf g i), by unfold pl; rw [List.map_map]; rfl, rfl⟩ rfl) ?_)
    rfl
theorem ok_grown {f : Addr} {fd : FuncData} (F : Fun K "grown" "grown" sGrown f fd) (hb : Binds K fd ["f", "by"] []) (hm : mg "grown" = some (.ref f)) (L : Fra P w K mg base)
    (f_clean : FnA P w K mg base 43 "clean" ["numbers"] rClean) : FnA P w K mg base 44 "grown" ["f", "by"] rGrown := by
  refine fnA_mk F scGrown hb hm (fun as d h => ?_) (by decide) (fun cdv A outer s H E W hW hr as d h => ?_)
  · obtain ⟨f, c, rfl, _⟩ := h
    rfl
  · obtain ⟨f, c, rfl, hf, hc, lf, rfl⟩ := h
    have r2 : Room 42 _ := hr.mono (by decide)
    refine ss_one (st_ret (ev_call f_clean hr (ea_cons (EvF.ev (LcOk.ef (lc_all f fr (fun x => fr (x * c)) [("one", 2)] (ei_list (ev_var 0 rfl rfl (Or.inl rfl))) rfl hW (blkOk_by (N := ["f", "by", "one"]) (sc := defScope sGrown) (by decide +kernel)) (by omega) (by decide) (fun x hx => ⟨_, fun s H C cl fp => ⟨(eg_name 2 scGrown.nd rfl (Or.inl rfl) (.inl hW)), (ev_times L r2 (ev_var 2 rfl rfl (Or.inl rfl)) (ev_var 1 rfl rfl (Or.inr (Or.inl rfl))) ⟨hf x hx, hc⟩)⟩⟩)) rfl scGrown.nd)) ea_nil) ⟨f.map (· * c), by unfold pl; rw [List.map_map]; rfl, rfl⟩ rfl) ?_)
    rfl
theorem ok_raised {f : Addr} {fd : FuncData} (F : Fun K "raised" "raised" sRaised f fd) (hb : Binds K fd ["f", "many"] []) (hm : mg "raised" = some (.ref f)) (L : Fra P w K mg base) : FnA P w K mg base 43 "raised" ["f", "many"] rRaised := by
  refine fnA_mk F scRaised hb hm (fun as d h => ?_) (by decide) (fun cdv A outer s H E W hW hr as d h => ?_)
  · obtain ⟨f, k, rfl, _⟩ := h
    rfl
  · obtain ⟨f, k, rfl, lf, rfl⟩ := h
    refine ss_cons (M := fun ρ => ρ = [.val (pl f), .val (.int (k : Int))] ∧ f ≠ []) (st_if (et_eqNil hr (sh_pl f) (ev_var 0 rfl rfl (Or.inl rfl))) (fun hc => ?_) (fun hc => ss_nil ⟨rfl, ?_⟩)) ?_
    · rw [isEmpty_map, isEmpty_dec] at hc
      subst hc
      exact ss_one (st_ret (EvF.ev (ef_lst (ds := []) ea_nil (by show 0 ≤ 1000; decide))) rfl)
    · rintro rfl
      cases hc
    · rintro _ ⟨rfl, hc⟩
      refine ss_one (st_ret (EvF.ev (ef_cat (EvF.ev (ef_rep (EvF.ev (ef_lst (ds := [_]) (ea_cons (ev_zero L.g rfl) ea_nil) (by show 1 ≤ 1000; decide))) (ev_var 1 rfl rfl (Or.inl rfl)) (by omega) (by show 1 * _ ≤ _; omega) (by omega))) (ev_var 0 rfl rfl (Or.inl rfl)) (by rw [Int.toNat_natCast, flat_rep, List.length_replicate, List.length_map]; omega))) ?_)
      rw [Int.toNat_natCast, flat_rep]
      unfold rai pl
      rw [if_neg hc, List.map_append, List.map_replicate]
theorem ok_multiplied {f : Addr} {fd : FuncData} (F : Fun K "multiplied" "multiplied" sMultiplied f fd) (hb : Binds K fd ["f", "g"] []) (hm : mg "multiplied" = some (.ref f)) (L : Fra P w K mg base)
    (f_summed : FnA P w K mg base 44 "summed" ["f", "g"] rSummed) (f_raised : FnA P w K mg base 43 "raised" ["f", "many"] rRaised) (f_grown : FnA P w K mg base 44 "grown" ["f", "by"] rGrown) : FnA P w K mg base 45 "multiplied" ["f", "g"] rMultiplied := by
  refine fnA_mk F scMultiplied hb hm (fun as d h => ?_) (by decide) (fun cdv A outer s H E W hW hr as d h => ?_)
  · obtain ⟨f, g, rfl, _⟩ := h
    rfl
  · obtain ⟨f, g, rfl, ⟨hl, hf, hg, ho⟩, rfl⟩ := h
    refine ss_seq (st_set 2 (EvF.ev (ef_lst (ds := []) ea_nil (by show 0 ≤ 1000; decide))) scMultiplied.nd rfl (Or.inl rfl) (.inl hW)) ?_
    refine ss_cons (M := fun ρ => ∃ x y, ρ = [.val (pl f), .val (pl g), .val (pl (mulP f g)), x, y]) (st_for (fun i ρ => ∃ x y, ρ = [.val (pl f), .val (pl g), .val (pl (mulP f (g.take i))), x, y]) (ei_enum (ev_var 1 rfl rfl (Or.inl rfl)) rfl L.g.enumerate) ⟨.un, .un, rfl⟩ PassesOwn.never rfl ?_ ?_) ?_
    · rintro i d _ hi ⟨x, y, rfl⟩
      obtain ⟨c, hc, rfl⟩ : ∃ c, g[i]? = some c ∧ d = .tup [.int (i : Int), fr c] := by
        rw [slp_data, List.getElem?_map, List.getElem?_zipIdx] at hi
        cases e : g[i]? with
        | none =>
          rw [e] at hi
          cases hi
        | some c =>
          rw [e] at hi
          simp only [Option.map_some, Option.some.injEq, Nat.zero_add] at hi
          exact ⟨c, rfl, hi.symm⟩
      have hlt : i < g.length := (List.getElem?_eq_some_iff.mp hc).1
      obtain ⟨o1, o2, o3⟩ := ho i c hc
      refine ⟨_, _, (eg_pair rfl (eg_name 3 scMultiplied.nd rfl (Or.inl rfl) (.inl hW)) (eg_name 4 scMultiplied.nd rfl (Or.inl rfl) (.inl hW))), ?_⟩
      have hlen : (scl f c).length ≤ f.length := by
        have h2 := cln_length (f.map (· * c))
        rw [List.length_map] at h2
        exact h2
      have hlen2 : (rai (scl f c) i).length ≤ f.length + i := by
        unfold rai
        split
        · exact Nat.zero_le _
        · rw [List.length_append, List.length_replicate]
          omega
      refine ss_one (StD.imp (st_set 2 (ev_call f_summed hr (ea_cons (ev_var 2 rfl rfl (Or.inl rfl)) (ea_cons (ev_call f_raised (hr.mono (by decide)) (ea_cons (ev_call f_grown hr (ea_cons (ev_var 0 rfl rfl (Or.inl rfl)) (ea_cons (ev_var 4 rfl rfl (Or.inl rfl)) ea_nil)) ⟨f, c, rfl, hf, hg c (List.mem_of_getElem? hc), by omega, rfl⟩ rfl) (ea_cons (ev_var 3 rfl rfl (Or.inl rfl)) ea_nil)) ⟨scl f c, i, rfl, by omega, rfl⟩ rfl) ea_nil)) ⟨mulP f (g.take i), rai (scl f c) i, rfl, o2, sl_rai o1 i, o3, by omega, rfl⟩ rfl) scMultiplied.nd rfl (Or.inl rfl) (.inl hW)) ?_ fun _ _ h => h)
      rintro _ rfl
      refine ⟨.val (.int (i : Int)), .val (fr c), ?_⟩
      rw [mulP_snoc hc]
      rfl
    · rintro _ ⟨x, y, rfl⟩
      refine ⟨x, y, ?_⟩
      rw [List.length_map, List.length_zipIdx, List.length_map, List.take_of_length_le (Nat.le_refl _)]
    · rintro _ ⟨x, y, rfl⟩
      exact ss_one (st_ret (ev_var 2 rfl rfl (Or.inl rfl)) rfl)
theorem ok_power_of_x {f : Addr} {fd : FuncData} (F : Fun K "power_of_x" "power_of_x" sPowerOfX f fd) (hb : Binds K fd ["many"] []) (hm : mg "power_of_x" = some (.ref f)) (L : Fra P w K mg base) : FnA P w K mg base 43 "power_of_x" ["many"] rPowerOfX := by
  refine fnA_mk F scPowerOfX hb hm (fun as d h => ?_) (by decide) (fun cdv A outer s H E W hW hr as d h => ?_)
  · obtain ⟨k, rfl, _⟩ := h
    rfl
  · obtain ⟨k, rfl, lk, rfl⟩ := h
    refine ss_one (st_ret (EvF.ev (ef_cat (EvF.ev (ef_rep (EvF.ev (ef_lst (ds := [_]) (ea_cons (ev_zero L.g rfl) ea_nil) (by show 1 ≤ 1000; decide))) (ev_var 0 rfl rfl (Or.inl rfl)) (by omega) (by show 1 * _ ≤ _; omega) (by omega))) (EvF.ev (ef_lst (ds := [_]) (ea_cons (ev_one L.g rfl) ea_nil) (by show 1 ≤ 1000; decide))) (by rw [Int.toNat_natCast, flat_rep, List.length_replicate]; show k + 1 ≤ _; omega))) ?_)
    rw [Int.toNat_natCast, flat_rep]
    unfold pwr pl
    rw [List.map_append, List.map_replicate]
    rfl
theorem ok_number_at {f : Addr} {fd : FuncData} (F : Fun K "number_at" "number_at" sNumberAt f fd) (hb : Binds K fd ["f", "x"] []) (hm : mg "number_at" = some (.ref f)) (L : Fra P w K mg base) : FnA P w K mg base 43 "number_at" ["f", "x"] rNumberAt := by
  refine fnA_mk F scNumberAt hb hm (fun as d h => ?_) (by decide) (fun cdv A outer s H E W hW hr as d h => ?_)
  · obtain ⟨f, x, rfl, _⟩ := h
    rfl
  · obtain ⟨f, x, rfl, ⟨hf, hx, ho⟩, rfl⟩ := h
    refine ss_seq (st_set 2 (ev_zero L.g rfl) scNumberAt.nd rfl (Or.inl rfl) (.inl hW)) ?_
    refine ss_cons (M := fun ρ => ∃ z, ρ = [.val (pl f), .val (fr x), .val (fr (ev f x)), z]) (st_for (fun i ρ => ∃ z, ρ = [.val (pl f), .val (fr x), .val (fr (ev (f.drop (f.length - i)) x)), z]) (ei_rev (ev_var 0 rfl rfl (Or.inl rfl)) rfl L.g.reversed) ⟨.un, by rw [Nat.sub_zero, List.drop_length]; rfl⟩ PassesOwn.never rfl ?_ ?_) ?_
    · rintro i d _ hi ⟨z, rfl⟩
      rw [← List.map_reverse] at hi
      obtain ⟨c, hc, rfl⟩ := get_map hi
      have hlt : i < f.length := by
        have := (List.getElem?_eq_some_iff.mp hc).1
        rwa [List.length_reverse] at this
      have o : S (ev (f.drop (f.length - i)) x) ∧ S (ev (f.drop (f.length - i)) x * x) := ho (f.length - i) (by omega) (by omega)
      refine ⟨_, _, eg_name 3 scNumberAt.nd rfl (Or.inl rfl) (.inl hW), ?_⟩
      refine ss_one (StD.imp (st_set 2 (ev_plus L hr (ev_times L hr (ev_var 2 rfl rfl (Or.inl rfl)) (ev_var 1 rfl rfl (Or.inl rfl)) ⟨o.1, hx⟩) (ev_var 3 rfl rfl (Or.inl rfl)) ⟨o.2, hf c (List.mem_reverse.mp (List.mem_of_getElem? hc))⟩) scNumberAt.nd rfl (Or.inl rfl) (.inl hW)) ?_ fun _ _ h => h)
      rintro _ rfl
      refine ⟨.val (fr c), ?_⟩
      rw [horner hc]
      rfl
    · rintro _ ⟨z, rfl⟩
      refine ⟨z, ?_⟩
      rw [List.length_reverse, List.length_map, Nat.sub_self, List.drop_zero]
    · rintro _ ⟨z, rfl⟩
      exact ss_one (st_ret (ev_var 2 rfl rfl (Or.inl rfl)) rfl)
theorem ok_slope {f : Addr} {fd : FuncData} (F : Fun K "slope" "slope" sSlope f fd) (hb : Binds K fd ["f"] []) (hm : mg "slope" = some (.ref f)) (L : Fra P w K mg base)
    (f_clean : FnA P w K mg base 43 "clean" ["numbers"] rClean) : FnA P w K mg base 44 "slope" ["f"] rSlope := by
  refine fnA_mk F scSlope hb hm (fun as d h => ?_) (by decide) (fun cdv A outer s H E W hW hr as d h => ?_)
  · obtain ⟨f, rfl, _⟩ := h
    rfl
  · obtain ⟨f, rfl, hf, lf, rfl⟩ := h
    have r2 : Room 42 _ := hr.mono (by decide)
    refine ss_one (st_ret (ev_call f_clean hr (ea_cons (EvF.ev (ef_slice (EvF.ev (LcOk.ef (lc_all f.zipIdx (fun z => D.tup [.int (z.2 : Int), fr z.1]) (fun z => fr (z.1 * (z.2 : Rat))) [("place", 1), ("one", 2)] (ei_enum (ev_var 0 rfl rfl (Or.inl rfl)) rfl L.g.enumerate) (slp_data f) hW (blkOk_by (N := ["f", "place", "one"]) (sc := defScope sSlope) (by decide +kernel)) (by rw [List.length_zipIdx]; omega) (by decide) (fun x hx => ⟨_, fun s H C cl fp => ⟨(eg_pair rfl (eg_name 1 scSlope.nd rfl (Or.inl rfl) (.inl hW)) (eg_name 2 scSlope.nd rfl (Or.inl rfl) (.inl hW))), (ev_times (r := (x.2 : Rat)) L r2 (ev_var 2 rfl rfl (Or.inl rfl)) (ev_pair (ev_var 1 rfl rfl (Or.inl rfl)) ev_int) ⟨hf _ (zipIdx_lt hx).2, S.nat (nat_lt64 (by have := (zipIdx_lt hx).1; omega))⟩)⟩⟩)) rfl scSlope.nd)) (ep_some ev_int) ep_none)) ea_nil) ⟨(f.zipIdx.map fun z => z.1 * (z.2 : Rat)).drop 1, by rw [cutD_from1, drop_map1]; rfl, rfl⟩ rfl) ?_)
    rfl
theorem ok_led {f : Addr} {fd : FuncData} (F : Fun K "led" "led" sLed f fd) (hb : Binds K fd ["f"] []) (hm : mg "led" = some (.ref f)) (L : Fra P w K mg base) : FnA P w K mg base 43 "led" ["f"] rLed := by
  refine fnA_mk F scLed hb hm (fun as d h => ?_) (by decide) (fun cdv A outer s H E W hW hr as d h => ?_)
  · obtain ⟨f, rfl, _⟩ := h
    rfl
  · obtain ⟨f, rfl, hf, lf, h0, rfl⟩ := h
    refine ss_cons (M := fun ρ => ρ = [.val (pl f), .un] ∧ f ≠ []) (st_if (et_eqNil hr (sh_pl f) (ev_var 0 rfl rfl (Or.inr (Or.inl rfl)))) (fun hc => ?_) (fun hc => ss_nil ⟨rfl, ?_⟩)) ?_
    · rw [isEmpty_map, isEmpty_dec] at hc
      subst hc
      exact ss_one (st_ret (EvF.ev (ef_lst (ds := []) ea_nil (by show 0 ≤ 1000; decide))) rfl)
    · rintro rfl
      cases hc
    · rintro _ ⟨rfl, hc⟩
      have h1 := h0.resolve_left hc
      have h2 : S (lst f) := by
        rw [lst_eq hc]
        exact sl_get hf _
      refine ss_one (st_ret (EvF.ev (LcOk.ef (lc_all f fr (fun x => fr (x / lst f)) [("one", 1)] (ei_list (ev_var 0 rfl rfl (Or.inr (Or.inl rfl)))) rfl hW (blkOk_by (N := ["f", "one"]) (sc := defScope sLed) (by decide +kernel)) (by omega) (by decide) (fun x hx => ⟨_, fun s H C cl fp => ⟨(eg_name 1 scLed.nd rfl (Or.inl rfl) (.inl hW)), (ev_over L hr (ev_var 1 rfl rfl (Or.inl rfl)) (ev_ixL (ev_var 0 rfl rfl (Or.inr (Or.inl rfl))) (ev_neg ev_int) (atI_last' hc)) ⟨hf x hx, h2, h1⟩)⟩⟩)) rfl scLed.nd)) ?_)
      unfold pl ledP
      rw [List.map_map]
      rfl
end
end M66
/-! Division, shared polynomials, worths: the walk. -/
namespace M66
open PySem PySem.Spec PyProof.Rows L2

/-- the polynomials' defs -/
structure Pol (P : Program) (w : World) (K : PySem.W.Frag) (mg : Str → Option Value) (base : Heap) : Prop where
  L : Fra P w K mg base
  total : FnA P w K mg base 43 "total" ["some"] rTotal
  clean : FnA P w K mg base 43 "clean" ["numbers"] rClean
  atPlace : FnA P w K mg base 43 "at_place" ["f", "place"] rAtPlace
  summed : FnA P w K mg base 44 "summed" ["f", "g"] rSummed
  grown : FnA P w K mg base 44 "grown" ["f", "by"] rGrown
  lessened : FnA P w K mg base 44 "lessened" ["f", "g"] rLessened
  raised : FnA P w K mg base 43 "raised" ["f", "many"] rRaised
  multiplied : FnA P w K mg base 45 "multiplied" ["f", "g"] rMultiplied
  powerOfX : FnA P w K mg base 43 "power_of_x" ["many"] rPowerOfX
  numberAt : FnA P w K mg base 43 "number_at" ["f", "x"] rNumberAt
  slope : FnA P w K mg base 44 "slope" ["f"] rSlope
  led : FnA P w K mg base 43 "led" ["f"] rLed

section
variable {X : Cx} {W : Wd} {p : Bool} {ρ ρ1 ρ2 : List Sl} {ea eb ec : Expr} {pos p' : Pos} {k : Nat}
variable {f g : List Rat} {c x : Rat} {n : Nat}
variable (T : Pol X.prog X.w X.K X.mg X.base)
include T
/-! the polynomials' defs, called -/
theorem ev_number_at (hr : Room 43 X.A) (a : Ev X W p ea ρ ρ1 (pl f)) (b : Ev X W p eb ρ1 ρ2 (fr x)) (h : EvOk f x) (hg : Gl X "number_at" := by rfl) (h1 : starEach [ea, eb] X.env = (false, eval ea X.env) :: starEach [eb] X.env := by rfl) (h2 : starEach [eb] X.env = (false, eval eb X.env) :: starEach [] X.env := by rfl) (h3 : (backTo pos (starEach [eb] X.env)).any (·.1) = false := by rfl) :
    Ev X W p (.Call (.Name "number_at" p') [ea, eb] [] pos) ρ ρ2 (fr (ev f x)) := ev_call T.numberAt hr (ea_cons a (ea_cons b ea_nil h2) h1) ⟨f, x, rfl, h, rfl⟩ hg (by decide) h1 h3
theorem ev_summed (hr : Room 44 X.A) (a : Ev X W p ea ρ ρ1 (pl f)) (b : Ev X W p eb ρ1 ρ2 (pl g)) (h : SL f ∧ SL g ∧ f.length ≤ 1000 ∧ g.length ≤ 1000) (hg : Gl X "summed" := by rfl) (h1 : starEach [ea, eb] X.env = (false, eval ea X.env) :: starEach [eb] X.env := by rfl) (h2 : starEach [eb] X.env = (false, eval eb X.env) :: starEach [] X.env := by rfl) (h3 : (backTo pos (starEach [eb] X.env)).any (·.1) = false := by rfl) :
    Ev X W p (.Call (.Name "summed" p') [ea, eb] [] pos) ρ ρ2 (pl (addP f g)) := ev_call T.summed hr (ea_cons a (ea_cons b ea_nil h2) h1) ⟨f, g, rfl, h.1, h.2.1, h.2.2.1, h.2.2.2, rfl⟩ hg (by decide) h1 h3
theorem ev_lessened (hr : Room 44 X.A) (a : Ev X W p ea ρ ρ1 (pl f)) (b : Ev X W p eb ρ1 ρ2 (pl g)) (h : SL f ∧ SL g ∧ f.length ≤ 1000 ∧ g.length ≤ 1000) (hg : Gl X "lessened" := by rfl) (h1 : starEach [ea, eb] X.env = (false, eval ea X.env) :: starEach [eb] X.env := by rfl) (h2 : starEach [eb] X.env = (false, eval eb X.env) :: starEach [] X.env := by rfl) (h3 : (backTo pos (starEach [eb] X.env)).any (·.1) = false := by rfl) :
    Ev X W p (.Call (.Name "lessened" p') [ea, eb] [] pos) ρ ρ2 (pl (subP f g)) := ev_call T.lessened hr (ea_cons a (ea_cons b ea_nil h2) h1) ⟨f, g, rfl, h.1, h.2.1, h.2.2.1, h.2.2.2, rfl⟩ hg (by decide) h1 h3
theorem ev_grown (hr : Room 44 X.A) (a : Ev X W p ea ρ ρ1 (pl f)) (b : Ev X W p eb ρ1 ρ2 (fr c)) (h : SL f ∧ S c ∧ f.length ≤ 1000) (hg : Gl X "grown" := by rfl) (h1 : starEach [ea, eb] X.env = (false, eval ea X.env) :: starEach [eb] X.env := by rfl) (h2 : starEach [eb] X.env = (false, eval eb X.env) :: starEach [] X.env := by rfl) (h3 : (backTo pos (starEach [eb] X.env)).any (·.1) = false := by rfl) :
    Ev X W p (.Call (.Name "grown" p') [ea, eb] [] pos) ρ ρ2 (pl (scl f c)) := ev_call T.grown hr (ea_cons a (ea_cons b ea_nil h2) h1) ⟨f, c, rfl, h.1, h.2.1, h.2.2, rfl⟩ hg (by decide) h1 h3
theorem ev_raised (hr : Room 43 X.A) (a : Ev X W p ea ρ ρ1 (pl f)) (b : Ev X W p eb ρ1 ρ2 (.int (n : Int))) (h : f.length + n ≤ 1000) (hg : Gl X "raised" := by rfl) (h1 : starEach [ea, eb] X.env = (false, eval ea X.env) :: starEach [eb] X.env := by rfl) (h2 : starEach [eb] X.env = (false, eval eb X.env) :: starEach [] X.env := by rfl) (h3 : (backTo pos (starEach [eb] X.env)).any (·.1) = false := by rfl) :
    Ev X W p (.Call (.Name "raised" p') [ea, eb] [] pos) ρ ρ2 (pl (rai f n)) := ev_call T.raised hr (ea_cons a (ea_cons b ea_nil h2) h1) ⟨f, n, rfl, h, rfl⟩ hg (by decide) h1 h3
theorem ev_multiplied (hr : Room 45 X.A) (a : Ev X W p ea ρ ρ1 (pl f)) (b : Ev X W p eb ρ1 ρ2 (pl g)) (h : MulOk f g) (hg : Gl X "multiplied" := by rfl) (h1 : starEach [ea, eb] X.env = (false, eval ea X.env) :: starEach [eb] X.env := by rfl) (h2 : starEach [eb] X.env = (false, eval eb X.env) :: starEach [] X.env := by rfl) (h3 : (backTo pos (starEach [eb] X.env)).any (·.1) = false := by rfl) :
    Ev X W p (.Call (.Name "multiplied" p') [ea, eb] [] pos) ρ ρ2 (pl (mulP f g)) := ev_call T.multiplied hr (ea_cons a (ea_cons b ea_nil h2) h1) ⟨f, g, rfl, h, rfl⟩ hg (by decide) h1 h3
theorem ev_power_of_x (hr : Room 43 X.A) (a : Ev X W p ea ρ ρ1 (.int (n : Int))) (h : n ≤ 1000) (hg : Gl X "power_of_x" := by rfl) (h1 : starEach [ea] X.env = (false, eval ea X.env) :: starEach [] X.env := by rfl) :
    Ev X W p (.Call (.Name "power_of_x" p') [ea] [] pos) ρ ρ1 (pl (pwr n)) := ev_call T.powerOfX hr (ea_cons a ea_nil h1) ⟨n, rfl, h, rfl⟩ hg (by decide) h1
theorem ev_slope (hr : Room 44 X.A) (a : Ev X W p ea ρ ρ1 (pl f)) (h : SL f ∧ f.length ≤ 1000) (hg : Gl X "slope" := by rfl) (h1 : starEach [ea] X.env = (false, eval ea X.env) :: starEach [] X.env := by rfl) :
    Ev X W p (.Call (.Name "slope" p') [ea] [] pos) ρ ρ1 (pl (slp f)) := ev_call T.slope hr (ea_cons a ea_nil h1) ⟨f, rfl, h.1, h.2, rfl⟩ hg (by decide) h1
theorem ev_led (hr : Room 43 X.A) (a : Ev X W p ea ρ ρ1 (pl f)) (h : SL f ∧ f.length ≤ 1000 ∧ (f = [] ∨ lst f ≠ 0)) (hg : Gl X "led" := by rfl) (h1 : starEach [ea] X.env = (false, eval ea X.env) :: starEach [] X.env := by rfl) :
    Ev X W p (.Call (.Name "led" p') [ea] [] pos) ρ ρ1 (pl (ledP f)) := ev_call T.led hr (ea_cons a ea_nil h1) ⟨f, rfl, h.1, h.2.1, h.2.2, rfl⟩ hg (by decide) h1
theorem ev_total (hr : Room 43 X.A) (a : Ev X W p ea ρ ρ1 (pl f)) (h : SL f ∧ (∀ i, i < f.length → S (tot (f.take i)))) (hg : Gl X "total" := by rfl) (h1 : starEach [ea] X.env = (false, eval ea X.env) :: starEach [] X.env := by rfl) :
    Ev X W p (.Call (.Name "total" p') [ea] [] pos) ρ ρ1 (fr (tot f)) := ev_call T.total hr (ea_cons a ea_nil h1) ⟨f, rfl, h.1, h.2, rfl⟩ hg (by decide) h1
end

/-! isinstance, all -/
def tyName : D → String
  | .non => "NoneType" | .bl _ => "bool" | .int _ => "int" | .str _ => "str" | .tup _ => "tuple" | .lst _ => "list" | .scr _ => "list"
theorem Dv.ty {K : PySem.W.Frag} {O : OS} {H : Hp} {v : V} {d : D} (h : Dv K O H v d) (hd : ∀ ns, d ≠ .scr ns) : TyX K H v (.type (tyName d)) := by
  cases h with
  | non => exact .base .non
  | bl b => exact .base (.bl b)
  | int i => exact .base (.int i)
  | str x => exact .base (.str x)
  | tup e n t => exact .base (.tup e)
  | tupK w t =>
    rcases w with w | ⟨o, its, n, h1, h2, _⟩
    · rcases w with w | ⟨o, w⟩ <;> cases w
    · exact .kTuple h1 h2
  | lst e n t => exact .base (.lst e)
  | scr e n => exact absurd rfl (hd _)
  | scrK w => exact absurd rfl (hd _)
section
variable {X : Cx} {W : Wd} {p : Bool} {ρ ρ1 ρ2 : List Sl} {ea eb : Expr} {pos p' p2 : Pos} {d : D} {T : Str} {t : String} {b : Bool}
theorem ev_isi (a : Ev X W p ea ρ ρ1 d) (hk : kitB (tyName d) t = some b) (hd : ∀ ns, d ≠ .scr ns) (hm : X.mg "isinstance" = none) (hT : X.mg T = none) (hv : bootBuiltins T = some (.type t)) (hg : Gl X "isinstance" := by rfl) (hg2 : Gl X T := by rfl)
    (hn : T ≠ "__name__" := by decide) (hdd : (T == ("__debug__" : Str)) = false := by decide) (h1 : starEach [ea, .Name T p2] X.env = (false, eval ea X.env) :: starEach [.Name T p2] X.env := by rfl) (h2 : starEach [.Name T p2] X.env = (false, eval (.Name T p2) X.env) :: starEach [] X.env := by rfl)
    (h3 : (backTo pos (starEach [.Name T p2] X.env)).any (·.1) = false := by rfl) : Ev X W p (.Call (.Name "isinstance" p') [ea, .Name T p2] [] pos) ρ ρ1 (.bl b) := fun O σ H E Q q =>
  of_pe (pe_callB call_isi hg hm (by decide +kernel) (pa_cons sem_pe (pa_cons (pe_bltn (v := .ty t) hg2 hT hv rfl hn hdd) pa_nil h2) h1) (by decide) (by decide) h1 h3) (a O σ H E _ fun x H1 P1 q1 =>
    ⟨x, .ty t, .type (tyName d), .type t, b, rfl, .ty t, q1.ty hd, kit_ty hk, q _ H1 P1 (.bl b)⟩)
theorem dvl_bls {K : PySem.W.Frag} {O : OS} {H : Hp} : ∀ {bs : List Bool} {vs : List V}, DvL K O H vs (bs.map D.bl) → vs = bs.map V.bl
  | [], _, .nil => rfl
  | b :: bs, _, .cons h t => by rw [h.bl_inv, dvl_bls t]; rfl
theorem ev_all {bs : List Bool} (a : Ev X W p ea ρ ρ1 (.lst (bs.map D.bl))) (hc : X.calm = true) (hm : X.mg "all" = none) (hg : Gl X "all" := by rfl) (h1 : starEach [ea] X.env = (false, eval ea X.env) :: starEach [] X.env := by rfl) : Ev X W p (.Call (.Name "all" p') [ea] [] pos) ρ ρ1 (.bl (bs.all id)) := fun O σ H E Q q =>
  of_pe (pe_callB (cr_all hc) hg hm (by decide +kernel) (pa_cons sem_pe pa_nil h1) (by decide) (by decide) h1) (a O σ H E _ fun x H1 P1 q1 => by
    obtain ⟨l, vs, rfl, hh, _, t⟩ := q1.lst_inv
    exact ⟨l, bs, rfl, by rw [← dvl_bls t]; exact SqL.of hh, q _ H1 P1 (.bl _)⟩)
end

def rParted (as : List Ar) (d : D) : Prop := ∃ f g : List Rat, as = [.v (pl f), .v (pl g)] ∧ g ≠ [] ∧ lst g ≠ 0 ∧ f.length ≤ 100 ∧ g.length ≤ 100 ∧ PartOk g (f.length + 1) [] f ∧ d = .tup [pl (partP f g).1, pl (partP f g).2]
def rShared (as : List Ar) (d : D) : Prop := ∃ f g : List Rat, as = [.v (pl f), .v (pl g)] ∧ SharOk (g.length + 1) f g ∧ SL (sharF (g.length + 1) f g) ∧ (sharF (g.length + 1) f g).length ≤ 1000 ∧ (sharF (g.length + 1) f g = [] ∨ lst (sharF (g.length + 1) f g) ≠ 0) ∧ d = pl (sharP f g)
def rTurnedAbout (as : List Ar) (d : D) : Prop := ∃ f : List Rat, as = [.v (pl f)] ∧ SL f ∧ f.length ≤ 1000 ∧ d = pl (neg f)
def rWorth (as : List Ar) (d : D) : Prop := ∃ sums f : List Rat, as = [.v (pl sums), .v (pl f)] ∧ WorOk sums f ∧ d = fr (tot (wor sums f))
def rSquareSum (as : List Ar) (d : D) : Prop := ∃ sums f g : List Rat, as = [.v (pl sums), .v (pl f), .v (pl g)] ∧ MulOk f g ∧ WorOk sums (mulP f g) ∧ d = fr (tot (wor sums (mulP f g)))
def rIsWhole (as : List Ar) (d : D) : Prop := ∃ i : Int, as = [.v (.int i)] ∧ d = .bl true
def rIsFraction (as : List Ar) (d : D) : Prop := ∃ q : Rat, as = [.v (fr q)] ∧ d = .bl true
def rIsPolynomial (as : List Ar) (d : D) : Prop := ∃ f : List Rat, as = [.v (pl f)] ∧ f.length ≤ 1000 ∧ Nrm f ∧ d = .bl true
def rNeedPolynomial (as : List Ar) (d : D) : Prop := ∃ f : List Rat, as = [.v (pl f)] ∧ f ≠ [] ∧ d = .non

abbrev sParted : Stmt := topS 33
theorem scParted : FnScope ["f", "g", "rest", "quotient", "part"] ["f", "g"] (defScope sParted) := ⟨rfl, rfl, rfl, by decide +kernel, rfl, by decide +kernel, by decide +kernel⟩
abbrev sShared : Stmt := topS 34
theorem scShared : FnScope ["f", "g", "one", "other"] ["f", "g"] (defScope sShared) := ⟨rfl, rfl, rfl, by decide +kernel, rfl, by decide +kernel, by decide +kernel⟩
abbrev sTurnedAbout : Stmt := topS 35
theorem scTurnedAbout : FnScope ["f"] ["f"] (defScope sTurnedAbout) := ⟨rfl, rfl, rfl, by decide +kernel, rfl, by decide +kernel, by decide +kernel⟩
abbrev sWorth : Stmt := topS 56
theorem scWorth : FnScope ["sums", "f", "one", "other"] ["sums", "f"] (defScope sWorth) := ⟨rfl, rfl, rfl, by decide +kernel, rfl, by decide +kernel, by decide +kernel⟩
abbrev sSquareSum : Stmt := topS 57
theorem scSquareSum : FnScope ["sums", "f", "g"] ["sums", "f", "g"] (defScope sSquareSum) := ⟨rfl, rfl, rfl, by decide +kernel, rfl, by decide +kernel, by decide +kernel⟩
abbrev sIsWhole : Stmt := topS 9
theorem scIsWhole : FnScope ["thing"] ["thing"] (defScope sIsWhole) := ⟨rfl, rfl, rfl, by decide +kernel, rfl, by decide +kernel, by decide +kernel⟩
abbrev sIsFraction : Stmt := topS 11
theorem scIsFraction : FnScope ["thing"] ["thing"] (defScope sIsFraction) := ⟨rfl, rfl, rfl, by decide +kernel, rfl, by decide +kernel, by decide +kernel⟩
abbrev sIsPolynomial : Stmt := topS 21
theorem scIsPolynomial : FnScope ["thing", "one"] ["thing"] (defScope sIsPolynomial) := ⟨rfl, rfl, rfl, by decide +kernel, rfl, by decide +kernel, by decide +kernel⟩
abbrev sNeedPolynomial : Stmt := topS 38
theorem scNeedPolynomial : FnScope ["f"] ["f"] (defScope sNeedPolynomial) := ⟨rfl, rfl, rfl, by decide +kernel, rfl, by decide +kernel, by decide +kernel⟩

theorem sl_pwr (k : Nat) : SL (pwr k) := fun c hc => by
  rcases List.mem_append.mp hc with hc | hc
  · rw [List.eq_of_mem_replicate hc]
    exact S.zero
  · rw [List.mem_singleton.mp hc]
    exact S.one
theorem len_pl (f : List Rat) : ((f.map fr).length : Int) = (f.length : Int) := by rw [List.length_map]
section
variable {P : Program} {w : World} {K : PySem.W.Frag} {mg : Str → Option Value} {base : Heap}
theorem ok_parted {f : Addr} {fd : FuncData} (F : Fun K "parted" "parted" sParted f fd) (hb : Binds K fd ["f", "g"] []) (hm : mg "parted" = some (.ref f)) (T : Pol P w K mg base) : FnA P w K mg base 46 "parted" ["f", "g"] rParted := by
  refine fnA_mk F scParted hb hm (fun as d h => ?_) (by decide) (fun cdv A outer s H E W hW hr as d h => ?_)
  · obtain ⟨f, g, rfl, _⟩ := h
    rfl
  · obtain ⟨f, g, rfl, hg, h0, lf, lg, ho, rfl⟩ := h
    have L := T.L
    have r2 : Room 42 _ := hr.mono (by decide)
    have r3 : Room 43 _ := hr.mono (by decide)
    have r4 : Room 44 _ := hr.mono (by decide)
    refine ss_seq (st_if (et_eqNil r2 (sh_pl g) (ev_var 1 rfl rfl (Or.inl rfl))) (fun hc => ?_) (fun hc => ss_nil rfl)) ?_
    · rw [isEmpty_map, isEmpty_dec] at hc
      exact absurd hc hg
    refine ss_seq (st_set 2 (EvF.ev (ef_list (ev_var 0 rfl rfl (Or.inl rfl)) rfl L.g.list (by decide +kernel))) scParted.nd rfl (Or.inl rfl) (.inl hW)) ?_
    refine ss_seq (st_set 3 (EvF.ev (ef_lst (ds := []) ea_nil (by show 0 ≤ 1000; decide))) scParted.nd rfl (Or.inl rfl) (.inl hW)) ?_
    refine ss_cons (M := fun ρ => ∃ x, ρ = [.val (pl f), .val (pl g), .val (pl (partP f g).2), .val (pl (partP f g).1), x]) (st_while (fun m ρ => ∃ n q r x, ρ = [.val (pl f), .val (pl g), .val (pl r), .val (pl q), x] ∧ partF g n q r = partP f g ∧ PartOk g n q r ∧ r.length < n ∧ m = r.length ∧ r.length ≤ 100 ∧ q.length ≤ 101) f.length ⟨f.length + 1, [], f, .un, rfl, rfl, ho, Nat.lt_succ_self _, rfl, lf, Nat.zero_le _⟩ PassesOwn.never ?_) ?_
    · rintro m _ ⟨n, q, r, x, rfl, hp, hk, hn, rfl, lr, lq⟩
      refine ⟨_, et_ge (ev_len (.inl rfl) (ea_cons (ev_var 2 rfl rfl (Or.inl rfl)) ea_nil) rfl L.g.len (by decide +kernel)) (ev_len (.inl rfl) (ea_cons (ev_var 1 rfl rfl (Or.inl rfl)) ea_nil) rfl L.g.len (by decide +kernel)), fun hc => ?_, fun hc => ?_⟩
      · have hc := of_decide_eq_true hc
        rw [len_pl, len_pl] at hc
        have hl : g.length ≤ r.length := by omega
        obtain ⟨n, rfl⟩ : ∃ n', n = n' + 1 := ⟨n - 1, by omega⟩
        obtain ⟨k1, k2, k3, k4, k5, k6, k7, k8, k9⟩ := hk hl
        have hrn : r ≠ [] := by
          intro z
          rw [z] at hl
          exact hg (List.eq_nil_of_length_eq_zero (Nat.le_zero.mp hl))
        have hlt := part_less hg h0 hl
        have lpt : (divPt g r).length ≤ 101 := by
          have e1 := scl_length (pwr (r.length - g.length)) (divC g r)
          have e2 : (pwr (r.length - g.length)).length = r.length - g.length + 1 := by unfold pwr; rw [List.length_append, List.length_replicate]; rfl
          unfold divPt
          omega
        have lml := mulP_length g (divPt g r)
        refine ss_seq (st_set 4 (ev_grown T r4 (ev_power_of_x (n := r.length - g.length) T r3 (Ev.cast (ev_sub (ev_len (.inl rfl) (ea_cons (ev_var 2 rfl rfl (Or.inl rfl)) ea_nil) rfl L.g.len (by decide +kernel)) (ev_len (.inl rfl) (ea_cons (ev_var 1 rfl rfl (Or.inl rfl)) ea_nil) rfl L.g.len (by decide +kernel))) (by rw [len_pl, len_pl]; congr 1; omega)) (by omega)) (ev_over L r2 (ev_ixL (ev_var 2 rfl rfl (Or.inl rfl)) (ev_neg ev_int) (atI_last' hrn)) (ev_ixL (ev_var 1 rfl rfl (Or.inl rfl)) (ev_neg ev_int) (atI_last' hg)) ⟨k1, k2, h0⟩) ⟨sl_pwr _, k3, by unfold pwr; rw [List.length_append, List.length_replicate]; show _ + 1 ≤ _; omega⟩) scParted.nd rfl (Or.inl rfl) (.inl hW)) ?_
        refine ss_seq (st_set 3 (ev_summed T r4 (ev_var 3 rfl rfl (Or.inl rfl)) (ev_var 4 rfl rfl (Or.inl rfl)) ⟨k4, k5, by omega, by show (divPt g r).length ≤ _; omega⟩) scParted.nd rfl (Or.inl rfl) (.inl hW)) ?_
        refine ss_one (StD.imp (st_set 2 (ev_lessened T r4 (ev_var 2 rfl rfl (Or.inl rfl)) (ev_multiplied T hr (ev_var 1 rfl rfl (Or.inl rfl)) (ev_var 4 rfl rfl (Or.inl rfl)) k6) ⟨k7, k8, by omega, by show (mulP g (divPt g r)).length ≤ _; omega⟩) scParted.nd rfl (Or.inl rfl) (.inl hW)) ?_ fun _ _ h => h)
        rintro _ rfl
        refine ⟨(subP r (mulP g (divPt g r))).length, hlt, n, addP q (divPt g r), subP r (mulP g (divPt g r)), .val (pl (divPt g r)), rfl, ?_, k9, by omega, rfl, by omega, ?_⟩
        · rw [← hp]
          show _ = (if g.length ≤ r.length then _ else _)
          rw [if_pos hl]
        · have := addP_length q (divPt g r)
          omega
      · have hc := of_decide_eq_false hc
        rw [len_pl, len_pl] at hc
        refine ⟨x, ?_⟩
        have : partF g n q r = (q, r) := by
          cases n with
          | zero => rfl
          | succ n =>
            show (if g.length ≤ r.length then _ else _) = _
            rw [if_neg (by omega)]
        rw [← hp, this]
    · rintro _ ⟨x, rfl⟩
      exact ss_one (st_ret (ev_pair (ev_var 3 rfl rfl (Or.inl rfl)) (ev_var 2 rfl rfl (Or.inl rfl))) rfl)
theorem ok_shared {f : Addr} {fd : FuncData} (F : Fun K "shared" "shared" sShared f fd) (hb : Binds K fd ["f", "g"] []) (hm : mg "shared" = some (.ref f)) (T : Pol P w K mg base) (f_parted : FnA P w K mg base 46 "parted" ["f", "g"] rParted) : FnA P w K mg base 47 "shared" ["f", "g"] rShared := by
  refine fnA_mk F scShared hb hm (fun as d h => ?_) (by decide) (fun cdv A outer s H E W hW hr as d h => ?_)
  · obtain ⟨f, g, rfl, _⟩ := h
    rfl
  · obtain ⟨f, g, rfl, ho, hs, hl, hz, rfl⟩ := h
    have L := T.L
    have r2 : Room 42 _ := hr.mono (by decide)
    have r3 : Room 43 _ := hr.mono (by decide)
    refine ss_seq (st_set 2 (EvF.ev (ef_list (ev_var 0 rfl rfl (Or.inl rfl)) rfl L.g.list (by decide +kernel))) scShared.nd rfl (Or.inl rfl) (.inl hW)) ?_
    refine ss_seq (st_set 3 (EvF.ev (ef_list (ev_var 1 rfl rfl (Or.inl rfl)) rfl L.g.list (by decide +kernel))) scShared.nd rfl (Or.inl rfl) (.inl hW)) ?_
    refine ss_cons (M := fun ρ => ∃ x, ρ = [.val (pl f), .val (pl g), .val (pl (sharF (g.length + 1) f g)), x]) (st_while (fun m ρ => ∃ n a b, ρ = [.val (pl f), .val (pl g), .val (pl a), .val (pl b)] ∧ sharF n a b = sharF (g.length + 1) f g ∧ SharOk n a b ∧ b.length < n ∧ m = b.length) g.length ⟨g.length + 1, f, g, rfl, rfl, ho, Nat.lt_succ_self _, rfl⟩ PassesOwn.never ?_) ?_
    · rintro m _ ⟨n, a, b, rfl, hp, hk, hn, rfl⟩
      obtain ⟨n, rfl⟩ : ∃ n', n = n' + 1 := ⟨n - 1, by omega⟩
      refine ⟨_, et_neNil r2 (sh_pl b) (ev_var 3 rfl rfl (Or.inl rfl)), fun hc => ?_, fun hc => ⟨.val (pl b), ?_⟩⟩
      · have hb0 : b ≠ [] := by
          intro z
          rw [z] at hc
          cases hc
        obtain ⟨k1, k2, k3, k4, k5⟩ := hk.resolve_left hb0
        refine ss_one (StD.imp (st_par 2 3 (ev_var 3 rfl rfl (Or.inl rfl)) (ev_ixT (ev_call f_parted (hr.mono (by decide)) (ea_cons (ev_var 2 rfl rfl (Or.inl rfl)) (ea_cons (ev_var 3 rfl rfl (Or.inl rfl)) ea_nil)) ⟨a, b, rfl, hb0, k1, k2, k3, k4, rfl⟩ rfl) ev_int rfl) rfl scShared.nd rfl rfl (by decide) rfl rfl hW rfl) ?_ fun _ _ h => h)
        rintro _ rfl
        have hlt := partF_len hb0 k1 (a.length + 1) [] a (Nat.lt_succ_self _)
        refine ⟨(partP a b).2.length, hlt, n, b, (partP a b).2, rfl, ?_, k5, ?_, rfl⟩
        · rw [← hp]
          show _ = (if b = [] then a else _)
          rw [if_neg hb0]
        · have : (partP a b).2.length < b.length := hlt
          omega
      · have hb0 : b = [] := by
          cases b with
          | nil => rfl
          | cons x b => cases hc
        rw [← hp]
        rw [show sharF (n + 1) a b = (if b = [] then a else sharF n b (partP a b).2) from rfl, if_pos hb0]
    · rintro _ ⟨x, rfl⟩
      exact ss_one (st_ret (ev_led T r3 (ev_var 2 rfl rfl (Or.inl rfl)) ⟨hs, hl, hz⟩) rfl)
theorem ok_turned_about {f : Addr} {fd : FuncData} (F : Fun K "turned_about" "turned_about" sTurnedAbout f fd) (hb : Binds K fd ["f"] []) (hm : mg "turned_about" = some (.ref f)) (T : Pol P w K mg base) : FnA P w K mg base 45 "turned_about" ["f"] rTurnedAbout := by
  refine fnA_mk F scTurnedAbout hb hm (fun as d h => ?_) (by decide) (fun cdv A outer s H E W hW hr as d h => ?_)
  · obtain ⟨f, rfl, _⟩ := h
    rfl
  · obtain ⟨f, rfl, h1, h2, rfl⟩ := h
    exact ss_one (st_ret (ev_grown T hr (ev_var 0 rfl rfl (Or.inl rfl)) (ev_minus1 T.L.g rfl) ⟨h1, (Sz.one (n := 1) (by decide)).neg.s (by decide), h2⟩) rfl)
theorem wor_data (sums f : List Rat) : ((f.map fr).zip (sums.map fr)).map (fun z => D.tup [z.1, z.2]) = (f.zip sums).map fun z => D.tup [fr z.1, fr z.2] := by
  rw [List.zip_map, List.map_map]
  rfl
theorem ok_worth {f : Addr} {fd : FuncData} (F : Fun K "worth" "worth" sWorth f fd) (hb : Binds K fd ["sums", "f"] []) (hm : mg "worth" = some (.ref f)) (T : Pol P w K mg base) : FnA P w K mg base 44 "worth" ["sums", "f"] rWorth := by
  refine fnA_mk F scWorth hb hm (fun as d h => ?_) (by decide) (fun cdv A outer s H E W hW hr as d h => ?_)
  · obtain ⟨sums, f, rfl, _⟩ := h
    rfl
  · obtain ⟨sums, f, rfl, ⟨h1, h2, h3, h4, h5, h6⟩, rfl⟩ := h
    have L := T.L
    have r2 : Room 42 _ := hr.mono (by decide)
    refine ss_seq (st_if (et_gt (ev_len (.inl rfl) (ea_cons (ev_var 1 rfl rfl (Or.inl rfl)) ea_nil) rfl L.g.len (by decide +kernel)) (ev_len (.inl rfl) (ea_cons (ev_var 0 rfl rfl (Or.inl rfl)) ea_nil) rfl L.g.len (by decide +kernel))) (fun hc => ?_) (fun hc => ss_nil rfl)) ?_
    · have hc := of_decide_eq_true hc
      rw [len_pl, len_pl] at hc
      omega
    refine ss_one (st_ret (ev_total (f := wor sums f) T hr (Ev.cast (EvF.ev (LcOk.ef (lc_all (f.zip sums) (fun z => D.tup [fr z.1, fr z.2]) (fun z => fr (z.1 * z.2)) [("one", 2), ("other", 3)] (ei_zip (ev_var 1 rfl rfl (Or.inl rfl)) (ev_var 0 rfl rfl (Or.inl rfl)) rfl L.g.zip) (wor_data sums f) hW (blkOk_by (N := ["sums", "f", "one", "other"]) (sc := defScope sWorth) (by decide +kernel)) (by rw [List.length_zip]; omega) (by decide) (fun x hx => ⟨_, fun s H C cl fp => ⟨(eg_pair rfl (eg_name 2 scWorth.nd rfl (Or.inl rfl) (.inl hW)) (eg_name 3 scWorth.nd rfl (Or.inl rfl) (.inl hW))), (ev_times L r2 (ev_var 2 rfl rfl (Or.inl rfl)) (ev_var 3 rfl rfl (Or.inl rfl)) ⟨h3 _ (List.of_mem_zip hx).1, h4 _ (List.of_mem_zip hx).2⟩)⟩⟩)) rfl scWorth.nd)) (by unfold pl wor; rw [List.map_map]; rfl)) ⟨h5, h6⟩) rfl)
theorem ok_square_sum {f : Addr} {fd : FuncData} (F : Fun K "square_sum" "square_sum" sSquareSum f fd) (hb : Binds K fd ["sums", "f", "g"] []) (hm : mg "square_sum" = some (.ref f)) (T : Pol P w K mg base) (f_worth : FnA P w K mg base 44 "worth" ["sums", "f"] rWorth) : FnA P w K mg base 46 "square_sum" ["sums", "f", "g"] rSquareSum := by
  refine fnA_mk F scSquareSum hb hm (fun as d h => ?_) (by decide) (fun cdv A outer s H E W hW hr as d h => ?_)
  · obtain ⟨sums, f, g, rfl, _⟩ := h
    rfl
  · obtain ⟨sums, f, g, rfl, h1, h2, rfl⟩ := h
    exact ss_one (st_ret (ev_call f_worth (hr.mono (by decide)) (ea_cons (ev_var 0 rfl rfl (Or.inl rfl)) (ea_cons (ev_multiplied T hr (ev_var 1 rfl rfl (Or.inl rfl)) (ev_var 2 rfl rfl (Or.inl rfl)) h1) ea_nil)) ⟨sums, mulP f g, rfl, h2, rfl⟩ rfl) rfl)
theorem ok_is_whole {f : Addr} {fd : FuncData} (F : Fun K "is_whole" "is_whole" sIsWhole f fd) (hb : Binds K fd ["thing"] []) (hm : mg "is_whole" = some (.ref f)) (g : Gl0 P K mg base) : FnA P w K mg base 42 "is_whole" ["thing"] rIsWhole := by
  refine fnA_mk F scIsWhole hb hm (fun as d h => ?_) (by decide) (fun cdv A outer s H E W hW hr as d h => ?_)
  · obtain ⟨i, rfl, _⟩ := h
    rfl
  · obtain ⟨i, rfl, rfl⟩ := h
    exact ss_one (st_ret (ev_and2 (c := true) (k := true) (ev_isi (t := "int") (ev_var 0 rfl rfl (Or.inl rfl)) (by show kitB "int" "int" = some true; decide +kernel) (fun _ h => nomatch h) g.isinstance g.int (by decide +kernel)) (fun _ => ev_not (c := false) (ev_isi (t := "bool") (ev_var 0 rfl rfl (Or.inl rfl)) (by show kitB "int" "bool" = some false; decide +kernel) (fun _ h => nomatch h) g.isinstance g.bool (by decide +kernel)))) rfl)
theorem ok_is_fraction {f : Addr} {fd : FuncData} (F : Fun K "is_fraction" "is_fraction" sIsFraction f fd) (hb : Binds K fd ["thing"] []) (hm : mg "is_fraction" = some (.ref f)) (L : Fra P w K mg base) (f_is_whole : FnA P w K mg base 42 "is_whole" ["thing"] rIsWhole) : FnA P w K mg base 43 "is_fraction" ["thing"] rIsFraction := by
  refine fnA_mk F scIsFraction hb hm (fun as d h => ?_) (by decide) (fun cdv A outer s H E W hW hr as d h => ?_)
  · obtain ⟨q, rfl, _⟩ := h
    rfl
  · obtain ⟨q, rfl, rfl⟩ := h
    have g := L.g
    refine ss_seq (st_if (et_or4 (c := false) (k := false) (l := false) (m := false) (et_not (c := true) (et_val (ev_isi (t := "tuple") (ev_var 0 rfl rfl (Or.inl rfl)) (by show kitB "tuple" "tuple" = some true; decide +kernel) (fun _ h => nomatch h) g.isinstance g.tuple (by decide +kernel)))) (fun _ => (et_neI (i := 2) (j := 2) (ev_len (ds := [q.num, (q.den : Int)].map D.int) (.inr (.inr rfl)) (ea_cons (ev_var 0 rfl rfl (Or.inl rfl)) ea_nil) rfl g.len (by decide +kernel)) ev_int)) (fun _ _ => (et_not (c := true) (et_val (ev_call f_is_whole hr (ea_cons (ev_num (ev_var 0 rfl rfl (Or.inl rfl))) ea_nil) ⟨q.num, rfl, rfl⟩ rfl)))) (fun _ _ _ => (et_not (c := true) (et_val (ev_call f_is_whole hr (ea_cons (ev_den (ev_var 0 rfl rfl (Or.inl rfl))) ea_nil) ⟨_, rfl, rfl⟩ rfl))))) (fun hc => ?_) (fun hc => ss_nil rfl)) ?_
    · cases hc
    have e1 : decide ((0 : Int) < (q.den : Int)) = true := decide_eq_true (by have := q.den_pos; omega)
    have e2 : decide ((Int.gcd q.num q.den : Int) = 1) = true := decide_eq_true (by
      have := q.reduced
      unfold Nat.Coprime at this
      show ((Nat.gcd q.num.natAbs (q.den : Int).natAbs : Nat) : Int) = 1
      rw [Int.natAbs_natCast, this]
      rfl)
    refine ss_one (st_ret (ev_and2 (ev_gt (ev_den (ev_var 0 rfl rfl (Or.inl rfl))) ev_int) (fun _ => (ev_eqI (ev_call L.divisor (hr.mono (by decide)) (ea_cons (ev_num (ev_var 0 rfl rfl (Or.inl rfl))) (ea_cons (ev_den (ev_var 0 rfl rfl (Or.inl rfl))) ea_nil)) ⟨_, _, rfl, rfl⟩ rfl) ev_int))) ?_)
    rw [e1, e2]
    rfl
theorem all_tt {α : Type} : ∀ f : List α, ((f.map fun _ => true).all id) = true
  | [] => rfl
  | _ :: f => all_tt f
theorem ok_is_polynomial {f : Addr} {fd : FuncData} (F : Fun K "is_polynomial" "is_polynomial" sIsPolynomial f fd) (hb : Binds K fd ["thing"] []) (hm : mg "is_polynomial" = some (.ref f)) (g : Gl0 P K mg base) (f_is_fraction : FnA P w K mg base 43 "is_fraction" ["thing"] rIsFraction) : FnA P w K mg base 44 "is_polynomial" ["thing"] rIsPolynomial := by
  refine fnA_mk F scIsPolynomial hb hm (fun as d h => ?_) (by decide) (fun cdv A outer s H E W hW hr as d h => ?_)
  · obtain ⟨f, rfl, _⟩ := h
    rfl
  · obtain ⟨f, rfl, hl, hn, rfl⟩ := h
    have r2 : Room 42 _ := hr.mono (by decide)
    refine ss_seq (st_if (et_or2 (c := false) (k := false) (et_not (c := true) (et_val (ev_isi (t := "list") (ev_var 0 rfl rfl (Or.inl rfl)) (by show kitB "list" "list" = some true; decide +kernel) (fun _ h => nomatch h) g.isinstance g.list (by decide +kernel)))) (fun _ => (et_not (c := true) (et_val (Ev.cast (ev_all (bs := f.map fun _ => true) (Ev.cast (EvF.ev (LcOk.ef (lc_all f fr (fun _ => D.bl true) [("one", 1)] (ei_list (ev_var 0 rfl rfl (Or.inl rfl))) rfl hW (blkOk_by (N := ["thing", "one"]) (sc := defScope sIsPolynomial) (by decide +kernel)) (by omega) (by decide) (fun x hx => ⟨_, fun s H C cl fp => ⟨(eg_name 1 scIsPolynomial.nd rfl (Or.inl rfl) (.inl hW)), (ev_call f_is_fraction hr (ea_cons (ev_var 1 rfl rfl (Or.inl rfl)) ea_nil) ⟨x, rfl, rfl⟩ rfl)⟩⟩)) rfl scIsPolynomial.nd)) (by rw [List.map_map]; rfl)) rfl g.all) (by rw [all_tt])))))) (fun hc => ?_) (fun hc => ss_nil rfl)) ?_
    · cases hc
    have e : (f.map fr).isEmpty = f.isEmpty := isEmpty_map _ _
    refine ss_one (st_ret (ev_or2 (k := true) (ev_eqNil (j := 0) r2 (sh_pl f) (ev_var 0 rfl rfl (Or.inl rfl))) (fun hc => ?_)) ?_)
    · have h0 : f ≠ [] := by
        rintro rfl
        cases hc
      have h1 := hn.resolve_left h0
      exact Ev.cast (ev_neF r2 (ev_ixL (ev_var 0 rfl rfl (Or.inl rfl)) (ev_neg ev_int) (atI_last' h0)) (ev_zero g rfl)) (by rw [decide_eq_false h1]; rfl)
    · rw [Bool.or_true]
theorem ok_need_polynomial {f : Addr} {fd : FuncData} (F : Fun K "need_polynomial" "need_polynomial" sNeedPolynomial f fd) (hb : Binds K fd ["f"] []) (hm : mg "need_polynomial" = some (.ref f)) : FnA P w K mg base 43 "need_polynomial" ["f"] rNeedPolynomial := by
  refine fnA_mk F scNeedPolynomial hb hm (fun as d h => ?_) (by decide) (fun cdv A outer s H E W hW hr as d h => ?_)
  · obtain ⟨f, rfl, _⟩ := h
    rfl
  · obtain ⟨f, rfl, h0, rfl⟩ := h
    refine ss_one (st_if (et_eqNil hr (sh_pl f) (ev_var 0 rfl rfl (Or.inl rfl))) (fun hc => ?_) (fun hc => ss_nil rfl))
    rw [isEmpty_map, isEmpty_dec] at hc
    exact absurd hc h0
end
end M66
/-! Chains and stretches: the walk. -/
namespace M66
open PySem PySem.Spec PyProof.Rows L2

structure Div (P : Program) (w : World) (K : PySem.W.Frag) (mg : Str → Option Value) (base : Heap) : Prop where
  T : Pol P w K mg base
  parted : FnA P w K mg base 46 "parted" ["f", "g"] rParted
  shared : FnA P w K mg base 47 "shared" ["f", "g"] rShared
  turnedAbout : FnA P w K mg base 45 "turned_about" ["f"] rTurnedAbout
  squareSum : FnA P w K mg base 46 "square_sum" ["sums", "f", "g"] rSquareSum
  isFraction : FnA P w K mg base 43 "is_fraction" ["thing"] rIsFraction
  isPolynomial : FnA P w K mg base 44 "is_polynomial" ["thing"] rIsPolynomial
  needPolynomial : FnA P w K mg base 43 "need_polynomial" ["f"] rNeedPolynomial

theorem dvl_snoc {K : PySem.W.Frag} {O : OS} {H : Hp} {d : D} : ∀ {ds : List D} {vs : List V}, DvL K O H vs (ds ++ [d]) → ∃ ws v, vs = ws ++ [v] ∧ DvL K O H ws ds ∧ Dv K O H v d
  | [], _, .cons h .nil => ⟨[], _, rfl, .nil, h⟩
  | _ :: _, _, .cons h t => by
    obtain ⟨ws, v, rfl, h1, h2⟩ := dvl_snoc t
    exact ⟨_ :: ws, v, rfl, .cons h h1, h2⟩
section
variable {X : Cx} {W : Wd} {ρ : List Sl} {pos' : Pos} {ds : List D} {d : D}
/-- x.pop(): x an own list -/
theorem ev_pop (i : Nat) {x : Str} {apos cpos : Pos} (hi : ρ[i]? = some (.own (ds ++ [d]))) (hN : X.N[i]? = some x) (hv : Vis X.env.scope x) (hdd : (x == ("__debug__" : Str)) = false := by decide) (hcd : (x == ("__classdict__" : Str)) = false := by decide)
    (hbase : attributeBase (.Name x pos') "pop" X.env (eval (.Name x pos') X.env) = eval (.Name x pos') X.env := by rfl) (hline : (apos.endLine == cpos.line) = true := by rfl) :
    Ev X W false (.Call (.Attribute (.Name x pos') "pop" apos) [] [] cpos) ρ (ρ.set i (.own ds)) d := fun O σ H E Q q =>
  of_pe (pe_bm0 PySem.F.plainAttrs_list PySem.F.slot_list_pop PySem.F.type_list_pop mt_pop (pe_var hN hv hdd hcd) hbase hline) (by
    obtain ⟨l, vs, e1, o, hh, t⟩ := own_now E hi
    obtain ⟨ws, v, rfl, t1, t2⟩ := dvl_snoc t
    obtain ⟨E', f⟩ := E.change hi e1 t1
    refine ⟨.ref l, e1, .inl ⟨rfl, _, SqL.of hh⟩, l, _, v, rfl, rfl, hh, ?_, ?_⟩
    · rw [List.length_append, List.length_singleton, Nat.add_sub_cancel, List.getElem?_append_right (Nat.le_refl _), Nat.sub_self]
      rfl
    · rw [List.dropLast_concat]
      exact q v _ ⟨E', f, fun z => nomatch z⟩ (t2.fr f))
end

def xD : Option Rat → D
  | none => .non
  | some q => fr q
def plL (ch : List (List Rat)) : D := .lst (ch.map pl)
def rPlain (as : List Ar) (d : D) : Prop := ∃ f : List Rat, as = [.v (pl f)] ∧ PlainOk f ∧ d = pl (plainP f)
def rChain (as : List Ar) (d : D) : Prop := ∃ f : List Rat, as = [.v (pl f)] ∧ f ≠ [] ∧ SL f ∧ f.length ≤ 100 ∧ ChainOk (f.length + 1) f (slp f) ∧ d = plL (chainP f)
def rSignFar (as : List Ar) (d : D) : Prop := ∃ (f : List Rat) (side : Int), as = [.v (pl f), .v (.int side)] ∧ f ≠ [] ∧ d = .int (signFar f side)
def rChanges (as : List Ar) (d : D) : Prop := ∃ (ch : List (List Rat)) (x : Option Rat) (side : Int), as = [.v (plL ch), .v (xD x), .v (.int side)] ∧ ChOk ch x ∧ d = .int (chg ch x side : Int)
def rBetween (as : List Ar) (d : D) : Prop := ∃ (ch : List (List Rat)) (lo hi : Option Rat), as = [.v (plL ch), .v (xD lo), .v (xD hi)] ∧ ChOk ch lo ∧ ChOk ch hi ∧ d = .int (btw ch lo hi)
def rHowMany (as : List Ar) (d : D) : Prop := ∃ (f : List Rat) (hi : Option Rat), as = [.v (pl f), .v .non, .v (xD hi)] ∧ f ≠ [] ∧ PlainOk f ∧ plainP f ≠ [] ∧ SL (plainP f) ∧ (plainP f).length ≤ 100 ∧ ChainOk ((plainP f).length + 1) (plainP f) (slp (plainP f)) ∧
  ChOk (chainP (plainP f)) none ∧ ChOk (chainP (plainP f)) hi ∧ d = .int (btw (chainP (plainP f)) none hi)
def rBound (as : List Ar) (d : D) : Prop := ∃ f : List Rat, as = [.v (pl f)] ∧ BndOk f ∧ d = fr (bnd f)
def rHalved (as : List Ar) (d : D) : Prop := ∃ (ch : List (List Rat)) (lo hi : Rat), as = [.v (plL ch), .v (fr lo), .v (fr hi)] ∧ HlvOk ch lo hi ∧ d = .tup [fr (hlv ch lo hi).1, fr (hlv ch lo hi).2]
def prD (z : Rat × Rat) : D := .tup [fr z.1, fr z.2]
def rApart (as : List Ar) (d : D) : Prop := ∃ (ch : List (List Rat)) (lo hi : Rat) (l : List (Rat × Rat)) (n : Nat), as = [.v (plL ch), .v (fr lo), .v (fr hi)] ∧ Ap ch lo hi l n ∧ n ≤ 300000 ∧ d = .lst (l.map prD)
def rFirstStretches (as : List Ar) (d : D) : Prop := ∃ (f : List Rat) (l : List (Rat × Rat)), as = [.v (pl f)] ∧ FsOk f l ∧ d = .tup [plL (chainP (plainP f)), .lst (l.map prD)]
def rNarrowed (as : List Ar) (d : D) : Prop := ∃ (ch : List (List Rat)) (w lo hi lo' hi' : Rat) (n : Nat), as = [.v (plL ch), .v (prD (lo, hi)), .v (fr w)] ∧ S w ∧ Nar ch w lo hi lo' hi' n ∧ d = prD (lo', hi')
def rStretches (as : List Ar) (d : D) : Prop := ∃ (f : List Rat) (w : Rat) (l : List ((Rat × Rat) × (Rat × Rat))), as = [.v (pl f), .v (fr w)] ∧ f ≠ [] ∧ FsOk f (l.map (·.1)) ∧ S w ∧ l.length ≤ 1000 ∧ (∀ z ∈ l, ∃ n, Nar (chainP (plainP f)) w z.1.1 z.1.2 z.2.1 z.2.2 n) ∧ d = .lst (l.map fun z => prD z.2)

abbrev sChain : Stmt := topS 39
theorem scChain : FnScope ["f", "found", "more"] ["f"] (defScope sChain) := ⟨rfl, rfl, rfl, by decide +kernel, rfl, by decide +kernel, by decide +kernel⟩
abbrev sPlain : Stmt := topS 40
theorem scPlain : FnScope ["f"] ["f"] (defScope sPlain) := ⟨rfl, rfl, rfl, by decide +kernel, rfl, by decide +kernel, by decide +kernel⟩
abbrev sSignFar : Stmt := topS 41
theorem scSignFar : FnScope ["f", "side"] ["f", "side"] (defScope sSignFar) := ⟨rfl, rfl, rfl, by decide +kernel, rfl, by decide +kernel, by decide +kernel⟩
abbrev sChanges : Stmt := topS 42
theorem scChanges : FnScope ["some", "x", "side", "signs", "one", "sign", "other"] ["some", "x", "side"] (defScope sChanges) := ⟨rfl, rfl, rfl, by decide +kernel, rfl, by decide +kernel, by decide +kernel⟩
abbrev sBetween : Stmt := topS 43
theorem scBetween : FnScope ["some", "low", "high"] ["some", "low", "high"] (defScope sBetween) := ⟨rfl, rfl, rfl, by decide +kernel, rfl, by decide +kernel, by decide +kernel⟩
abbrev sHowMany : Stmt := topS 44
theorem scHowMany : FnScope ["f", "low", "high"] ["f", "low", "high"] (defScope sHowMany) := ⟨rfl, rfl, rfl, by decide +kernel, rfl, by decide +kernel, by decide +kernel⟩
abbrev sBound : Stmt := topS 45
theorem scBound : FnScope ["f", "parts", "one"] ["f"] (defScope sBound) := ⟨rfl, rfl, rfl, by decide +kernel, rfl, by decide +kernel, by decide +kernel⟩
abbrev sHalved : Stmt := topS 46
theorem scHalved : FnScope ["some", "low", "high", "middle"] ["some", "low", "high"] (defScope sHalved) := ⟨rfl, rfl, rfl, by decide +kernel, rfl, by decide +kernel, by decide +kernel⟩
abbrev sApart : Stmt := topS 47
theorem scApart : FnScope ["some", "low", "high", "found", "left", "one", "other", "many", "middle"] ["some", "low", "high"] (defScope sApart) := ⟨rfl, rfl, rfl, by decide +kernel, rfl, by decide +kernel, by decide +kernel⟩
abbrev sFirstStretches : Stmt := topS 48
theorem scFirstStretches : FnScope ["f", "some", "far"] ["f"] (defScope sFirstStretches) := ⟨rfl, rfl, rfl, by decide +kernel, rfl, by decide +kernel, by decide +kernel⟩
abbrev sNarrowed : Stmt := topS 50
theorem scNarrowed : FnScope ["some", "stretch", "width", "low", "high"] ["some", "stretch", "width"] (defScope sNarrowed) := ⟨rfl, rfl, rfl, by decide +kernel, rfl, by decide +kernel, by decide +kernel⟩
abbrev sStretches : Stmt := topS 51
theorem scStretches : FnScope ["f", "width", "some", "found", "stretch"] ["f", "width"] (defScope sStretches) := ⟨rfl, rfl, rfl, by decide +kernel, rfl, by decide +kernel, by decide +kernel⟩

theorem isNon_xD (x : Option Rat) : isNon (xD x) = x.isNone := by cases x <;> rfl
theorem isNon_fr (q : Rat) : isNon (fr q) = false := rfl
theorem absR_num (q : Rat) : D.tup [.int (if q.num < 0 then -q.num else q.num), .int (q.den : Int)] = fr (absR q) := by
  unfold absR
  have h2 : (q < 0) ↔ q.num < 0 := by
    rw [Rat.lt_iff]; simp
  by_cases h : q < 0
  · rw [if_pos h, if_pos (h2.mp h)]
    unfold fr
    rw [Rat.neg_num]
    rfl
  · rw [if_neg h, if_neg (fun z => h (h2.mpr z))]
    rfl
theorem S.abs {q : Rat} (h : S q) : S (absR q) := by
  unfold absR
  split
  · obtain ⟨n, h1, h2⟩ := h
    exact ⟨n, h1, h2.neg⟩
  · exact h
theorem absR_ne {q : Rat} (h : q ≠ 0) : absR q ≠ 0 := by
  unfold absR
  split <;> grind
theorem half_s : S (1 / 2) := ((Sz.one (n := 2) (by decide)).div (sz_int (i := 2) (n := 2) (by decide) (by decide))).s (by decide)
section
variable {P : Program} {w : World} {K : PySem.W.Frag} {mg : Str → Option Value} {base : Heap}
theorem ok_plain {f : Addr} {fd : FuncData} (F : Fun K "plain" "plain" sPlain f fd) (hb : Binds K fd ["f"] []) (hm : mg "plain" = some (.ref f)) (V : Div P w K mg base) : FnA P w K mg base 48 "plain" ["f"] rPlain := by
  refine fnA_mk F scPlain hb hm (fun as d h => ?_) (by decide) (fun cdv A outer s H E W hW hr as d h => ?_)
  · obtain ⟨f, rfl, _⟩ := h
    rfl
  · obtain ⟨f, rfl, ⟨h1, h2, h3, h4, h5, h6, h7, h8, h9, h10⟩, rfl⟩ := h
    have T := V.T
    exact ss_one (st_ret (ev_ixT (ev_call V.parted (hr.mono (by decide)) (ea_cons (ev_var 0 rfl rfl (Or.inl rfl)) (ea_cons (ev_call V.shared hr (ea_cons (ev_var 0 rfl rfl (Or.inl rfl)) (ea_cons (ev_slope T (hr.mono (by decide)) (ev_var 0 rfl rfl (Or.inl rfl)) ⟨h1, by omega⟩) ea_nil)) ⟨f, slp f, rfl, h3, h4, h5, h6, rfl⟩ rfl) ea_nil)) ⟨f, sharP f (slp f), rfl, h7, h8, h2, h9, h10, rfl⟩ rfl) ev_int rfl) rfl)
theorem ok_chain {f : Addr} {fd : FuncData} (F : Fun K "chain" "chain" sChain f fd) (hb : Binds K fd ["f"] []) (hm : mg "chain" = some (.ref f)) (V : Div P w K mg base) : FnA P w K mg base 48 "chain" ["f"] rChain := by
  refine fnA_mk F scChain hb hm (fun as d h => ?_) (by decide) (fun cdv A outer s H E W hW hr as d h => ?_)
  · obtain ⟨f, rfl, _⟩ := h
    rfl
  · obtain ⟨f, rfl, h0, h1, h2, h3, rfl⟩ := h
    have T := V.T
    have L := T.L
    have r2 : Room 42 _ := hr.mono (by decide)
    refine ss_seq (st_expr (ev_call V.needPolynomial (hr.mono (by decide)) (ea_cons (ev_var 0 rfl rfl (Or.inl rfl)) ea_nil) ⟨f, rfl, h0, rfl⟩ rfl)) ?_
    refine ss_seq (st_own 1 (ef_lst (ds := [_]) (ea_cons (EvF.ev (ef_list (ev_var 0 rfl rfl (Or.inl rfl)) rfl L.g.list (by decide +kernel))) ea_nil) (by show 1 ≤ 1000; decide)) scChain.nd rfl (Or.inl rfl) (by show 1 < 3; decide) (.inl hW)) ?_
    refine ss_seq (st_set 2 (ev_slope T (hr.mono (by decide)) (ev_var 0 rfl rfl (Or.inl rfl)) ⟨h1, by omega⟩) scChain.nd rfl (Or.inl rfl) (.inl hW)) ?_
    refine ss_cons (M := fun ρ => ∃ x, ρ = [.val (pl f), .own ((chainP f).map pl), x]) (st_while (fun m ρ => ∃ n pre a more, ρ = [.val (pl f), .own ((pre ++ [a]).map pl), .val (pl more)] ∧ pre ++ [a] ++ chainF n a more = chainP f ∧ ChainOk n a more ∧ more.length < n ∧ m = n ∧ pre.length + n ≤ 102) (f.length + 1) ⟨f.length + 1, [], f, slp f, rfl, rfl, h3, ?_, rfl, by show 0 + (f.length + 1) ≤ 102; omega⟩ PassesOwn.never ?_) ?_
    · have e1 : (slp f).length ≤ f.length := by
        have e := cln_length ((f.zipIdx.map fun z => z.1 * (z.2 : Rat)).drop 1)
        rw [List.length_drop, List.length_map, List.length_zipIdx] at e
        unfold slp
        omega
      omega
    · rintro m _ ⟨n, pre, a, more, rfl, hp, hk, hn, rfl, hl⟩
      obtain ⟨n, rfl⟩ : ∃ n', m = n' + 1 := ⟨m - 1, by omega⟩
      refine ⟨_, et_neNil r2 (sh_pl more) (ev_var 2 rfl rfl (Or.inl rfl)), fun hc => ?_, fun hc => ⟨.val (pl more), ?_⟩⟩
      · have hb0 : more ≠ [] := by
          intro z
          rw [z] at hc
          cases hc
        obtain ⟨k1, k2, k3, k4, k5, k6, k7⟩ := hk.resolve_left hb0
        refine ss_seq (st_append 1 rfl ⟨_, rfl⟩ (ev_var 2 rfl rfl (Or.inl rfl)) (by rw [List.length_map, List.length_append]; show pre.length + 1 < _; omega) rfl (Or.inl rfl)) ?_
        have hat : atI ((pre ++ [a]).map pl ++ [pl more]) (-2) = some (pl a) := by
          unfold atI
          have hlen : ((pre ++ [a]).map pl ++ [pl more]).length = pre.length + 2 := by
            rw [List.length_append, List.length_map, List.length_append]
            rfl
          have : ixN ((pre ++ [a]).map pl ++ [pl more]).length (-2) = some pre.length := by
            rw [hlen]
            unfold ixN
            rw [if_neg (by omega), if_pos (by omega)]
            congr 1
            omega
          rw [this]
          show ((pre ++ [a]).map pl ++ [pl more])[pre.length]? = _
          rw [List.map_append, List.append_assoc, List.getElem?_append_right (by rw [List.length_map]; exact Nat.le_refl _), List.length_map, Nat.sub_self]
          rfl
        have hlt := partF_len hb0 k1 (a.length + 1) [] a (Nat.lt_succ_self _)
        have hlt2 : (neg (partP a more).2).length ≤ (partP a more).2.length := scl_length _ _
        refine ss_one (StD.imp (st_set 2 (ev_call V.turnedAbout (hr.mono (by decide)) (ea_cons (ev_ixT (ev_call V.parted (hr.mono (by decide)) (ea_cons (ev_ixO 1 (.inl rfl) (ev_neg ev_int) hat rfl (Or.inl rfl)) (ea_cons (ev_var 2 rfl rfl (Or.inl rfl)) ea_nil)) ⟨a, more, rfl, hb0, k1, k2, k3, k5, rfl⟩ rfl) ev_int rfl) ea_nil) ⟨(partP a more).2, rfl, k6, by show (partF more (a.length + 1) [] a).2.length ≤ _; omega, rfl⟩ rfl) scChain.nd rfl (Or.inl rfl) (.inl hW)) ?_ fun _ _ h => h)
        rintro _ rfl
        refine ⟨n, Nat.lt_succ_self _, n, pre ++ [a], more, neg (partP a more).2, ?_, ?_, k7, ?_, rfl, ?_⟩
        · rw [List.map_append (l₁ := pre ++ [a])]
          rfl
        · rw [← hp]
          show pre ++ [a] ++ [more] ++ _ = pre ++ [a] ++ (if more = [] then [] else more :: chainF n more _)
          rw [if_neg hb0, List.append_assoc (pre ++ [a])]
          rfl
        · have : (partP a more).2.length < more.length := hlt
          omega
        · rw [List.length_append]
          show pre.length + 1 + n ≤ 102
          omega
      · have hb0 : more = [] := by
          cases more with
          | nil => rfl
          | cons x b => cases hc
        rw [← hp]
        rw [show chainF (n + 1) a more = (if more = [] then [] else more :: chainF n more (neg (partP a more).2)) from rfl, if_pos hb0, List.append_nil]
    · rintro _ ⟨x, rfl⟩
      exact ss_one (st_retO 1 rfl (.inl hW) rfl rfl (Or.inl rfl))
theorem ok_sign_far {f : Addr} {fd : FuncData} (F : Fun K "sign_far" "sign_far" sSignFar f fd) (hb : Binds K fd ["f", "side"] []) (hm : mg "sign_far" = some (.ref f)) (L : Fra P w K mg base) : FnA P w K mg base 43 "sign_far" ["f", "side"] rSignFar := by
  refine fnA_mk F scSignFar hb hm (fun as d h => ?_) (by decide) (fun cdv A outer s H E W hW hr as d h => ?_)
  · obtain ⟨f, side, rfl, _⟩ := h
    rfl
  · obtain ⟨f, side, rfl, h0, rfl⟩ := h
    have hif : (decide (side < 0) && decide (((f.map fr).length : Int).fmod 2 = 0)) = true ↔ (side < 0 ∧ f.length % 2 = 0) := by
      rw [Bool.and_eq_true, decide_eq_true_eq, decide_eq_true_eq, len_pl, Int.fmod_eq_emod_of_nonneg _ (by decide)]
      constructor <;> intro ⟨a, b⟩ <;> exact ⟨a, by omega⟩
    refine ss_cons (M := fun ρ => ρ = [.val (pl f), .val (.int side)] ∧ ¬ (side < 0 ∧ f.length % 2 = 0)) (st_if (et_and2 (et_lt (ev_var 1 rfl rfl (Or.inl rfl)) ev_int) (fun _ => (et_eqI (ev_mod (ev_len (.inl rfl) (ea_cons (ev_var 0 rfl rfl (Or.inl rfl)) ea_nil) rfl L.g.len (by decide +kernel)) ev_int (by decide)) ev_int))) (fun hc => ?_) (fun hc => ss_nil ⟨rfl, ?_⟩)) ?_
    · refine ss_one (st_ret (ev_sub ev_int (ev_sign_of L hr (ev_ixL (ev_var 0 rfl rfl (Or.inl rfl)) (ev_neg ev_int) (atI_last' h0)))) ?_)
      unfold signFar
      rw [if_pos (hif.mp hc)]
    · intro z
      rw [hif.mpr z] at hc
      cases hc
    · rintro _ ⟨rfl, hc⟩
      refine ss_one (st_ret (ev_sign_of L hr (ev_ixL (ev_var 0 rfl rfl (Or.inl rfl)) (ev_neg ev_int) (atI_last' h0))) ?_)
      unfold signFar
      rw [if_neg hc]
theorem sgs_data (l : List Int) : ((l.map D.int).zip ((l.map D.int).drop 1)).map (fun z => D.tup [z.1, z.2]) = (l.zip (l.drop 1)).map fun z => D.tup [.int z.1, .int z.2] := by
  rw [← List.map_drop, List.zip_map, List.map_map]
  rfl
theorem ok_changes {f : Addr} {fd : FuncData} (F : Fun K "changes" "changes" sChanges f fd) (hb : Binds K fd ["some", "x", "side"] []) (hm : mg "changes" = some (.ref f)) (T : Pol P w K mg base) (f_sign_far : FnA P w K mg base 43 "sign_far" ["f", "side"] rSignFar) : FnA P w K mg base 44 "changes" ["some", "x", "side"] rChanges := by
  refine fnA_mk F scChanges hb hm (fun as d h => ?_) (by decide) (fun cdv A outer s H E W hW hr as d h => ?_)
  · obtain ⟨ch, x, side, rfl, _⟩ := h
    rfl
  · obtain ⟨ch, x, side, rfl, ⟨hl, ho⟩, rfl⟩ := h
    have L := T.L
    have r2 : Room 42 _ := hr.mono (by decide)
    refine ss_seq (st_own 3 (ef_lst (ds := []) ea_nil (by show 0 ≤ 1000; decide)) scChanges.nd rfl (Or.inl rfl) (by show 3 < 7; decide) (.inl hW)) ?_
    refine ss_cons (M := fun ρ => ∃ y, ρ = [.val (plL ch), .val (xD x), .val (.int side), .own ((ch.map (sg x side)).map D.int), y, .un, .un]) (st_for (fun i ρ => i ≤ ch.length ∧ ∃ y, ρ = [.val (plL ch), .val (xD x), .val (.int side), .own (((ch.take i).map (sg x side)).map D.int), y, .un, .un]) (ei_list (ev_var 0 rfl rfl (Or.inl rfl))) ⟨Nat.zero_le _, .un, rfl⟩ PassesOwn.never rfl ?_ ?_) ?_
    · rintro i d _ hi ⟨hil, y, rfl⟩
      rw [List.getElem?_map] at hi
      cases e : ch[i]? with
      | none =>
        rw [e] at hi
        cases hi
      | some f =>
        rw [e] at hi
        cases hi
        obtain ⟨hf0, hfe⟩ := ho f (List.mem_of_getElem? e)
        have hlt : i < ch.length := (List.getElem?_eq_some_iff.mp e).1
        have hlen : (((ch.take i).map (sg x side)).map D.int).length < 1000000 := by
          rw [List.length_map, List.length_map, List.length_take]
          omega
        refine ⟨_, _, eg_name 4 scChanges.nd rfl (Or.inl rfl) (.inl hW), ?_⟩
        have fin : ∀ s' : Int, s' = sg x side f → i + 1 ≤ ch.length ∧ ∃ y, [Sl.val (plL ch), .val (xD x), .val (.int side), .own (((ch.take i).map (sg x side)).map D.int ++ [.int s']), .val (pl f), .un, .un] = [Sl.val (plL ch), .val (xD x), .val (.int side), .own (((ch.take (i + 1)).map (sg x side)).map D.int), y, .un, .un] := fun s' hs => by
          refine ⟨hlt, .val (pl f), ?_⟩
          rw [take_snoc e, List.map_append, List.map_append, hs]
          rfl
        cases x with
        | none =>
          refine ss_one (st_if (c := true) (et_isN (ev_var (d := .non) 1 rfl rfl (Or.inl rfl))) (fun _ => ?_) (fun z => nomatch z))
          refine ss_one (StD.imp (st_append 3 rfl ⟨_, rfl⟩ (ev_call f_sign_far hr (ea_cons (ev_var 4 rfl rfl (Or.inl rfl)) (ea_cons (ev_var 2 rfl rfl (Or.inl rfl)) ea_nil)) ⟨f, side, rfl, hf0, rfl⟩ rfl) hlen rfl (Or.inl rfl)) ?_ fun _ _ h => h)
          rintro _ rfl
          exact fin _ rfl
        | some q =>
          refine ss_one (st_if (c := false) (et_isN (ev_var (d := fr q) 1 rfl rfl (Or.inl rfl))) (fun z => nomatch z) (fun _ => ?_))
          refine ss_one (StD.imp (st_append 3 rfl ⟨_, rfl⟩ (ev_sign_of L r2 (ev_number_at T hr (ev_var 4 rfl rfl (Or.inl rfl)) (ev_var 1 rfl rfl (Or.inl rfl)) (hfe q rfl))) hlen rfl (Or.inl rfl)) ?_ fun _ _ h => h)
          rintro _ rfl
          exact fin _ rfl
    · rintro _ ⟨_, y, rfl⟩
      rw [List.length_map, List.take_of_length_le (Nat.le_refl _)]
      exact ⟨y, rfl⟩
    · rintro _ ⟨y, rfl⟩
      refine ss_freeze 3 rfl (.inl hW) ?_
      refine ss_seq (st_setLc 3 (lc_if (ch.map (sg x side)) D.int (fun s => !decide (s = 0)) D.int [("sign", 5)] (ei_list (ev_var 3 rfl rfl (Or.inl rfl))) rfl hW (blkOk_by (N := ["some", "x", "side", "signs", "one", "sign", "other"]) (sc := defScope sChanges) (by decide +kernel)) (by rw [List.length_map]; omega) (by decide) (fun x hx => ⟨_, fun s H C cl fp => ⟨(eg_name 5 scChanges.nd rfl (Or.inl rfl) (.inl hW)), (et_neI (ev_var 5 rfl rfl (Or.inl rfl)) ev_int), fun _ => (ev_var 5 rfl rfl (Or.inl rfl))⟩⟩)) rfl scChanges.nd rfl rfl (.inl hW) (sw_true rfl rfl rfl (by decide +kernel))) ?_
      generalize hS : (ch.map (sg x side)).filter (fun s => !decide (s = 0)) = S0
      have hSl : S0.length ≤ 1000 := by
        rw [← hS]
        exact Nat.le_trans (List.length_filter_le _ _) (by rw [List.length_map]; exact hl)
      refine ss_one (st_ret (ev_len (.inl rfl) (ea_cons (EvF.ev (LcOk.ef (lc_if (S0.zip (S0.drop 1)) (fun z => D.tup [.int z.1, .int z.2]) (fun z => !decide (z.1 = z.2)) (fun z => D.int z.1) [("one", 4), ("other", 6)] (ei_zip (ev_var 3 rfl rfl (Or.inl rfl)) (Ev.cast (EvF.ev (ef_slice (ev_var 3 rfl rfl (Or.inl rfl)) (ep_some ev_int) ep_none)) (congrArg D.lst (cutD_from1 (S0.map D.int)))) rfl L.g.zip) (sgs_data S0) hW (blkOk_by (N := ["some", "x", "side", "signs", "one", "sign", "other"]) (sc := defScope sChanges) (by decide +kernel)) (by rw [List.length_zip]; omega) (by decide) (fun x hx => ⟨_, fun s H C cl fp => ⟨(eg_pair rfl (eg_name 4 scChanges.nd rfl (Or.inl rfl) (.inl hW)) (eg_name 6 scChanges.nd rfl (Or.inl rfl) (.inl hW))), (et_neI (ev_var 4 rfl rfl (Or.inl rfl)) (ev_var 6 rfl rfl (Or.inl rfl))), fun _ => (ev_var 4 rfl rfl (Or.inl rfl))⟩⟩)) rfl scChanges.nd)) ea_nil) rfl L.g.len (by decide +kernel)) ?_)
      rw [List.length_map]
      unfold chg alt
      rw [hS]
theorem ok_between {f : Addr} {fd : FuncData} (F : Fun K "between" "between" sBetween f fd) (hb : Binds K fd ["some", "low", "high"] []) (hm : mg "between" = some (.ref f)) (f_changes : FnA P w K mg base 44 "changes" ["some", "x", "side"] rChanges) : FnA P w K mg base 45 "between" ["some", "low", "high"] rBetween := by
  refine fnA_mk F scBetween hb hm (fun as d h => ?_) (by decide) (fun cdv A outer s H E W hW hr as d h => ?_)
  · obtain ⟨ch, lo, hi, rfl, _⟩ := h
    rfl
  · obtain ⟨ch, lo, hi, rfl, h1, h2, rfl⟩ := h
    exact ss_one (st_ret (ev_sub (ev_call f_changes hr (ea_cons (ev_var 0 rfl rfl (Or.inl rfl)) (ea_cons (ev_var 1 rfl rfl (Or.inl rfl)) (ea_cons (ev_neg ev_int) ea_nil))) ⟨ch, lo, -1, rfl, h1, rfl⟩ rfl) (ev_call f_changes hr (ea_cons (ev_var 0 rfl rfl (Or.inl rfl)) (ea_cons (ev_var 2 rfl rfl (Or.inl rfl)) (ea_cons ev_int ea_nil))) ⟨ch, hi, 1, rfl, h2, rfl⟩ rfl)) rfl)
theorem ok_how_many {f : Addr} {fd : FuncData} (F : Fun K "how_many" "how_many" sHowMany f fd) (hb : Binds K fd ["f", "low", "high"] []) (hm : mg "how_many" = some (.ref f)) (V : Div P w K mg base)
    (f_plain : FnA P w K mg base 48 "plain" ["f"] rPlain) (f_chain : FnA P w K mg base 48 "chain" ["f"] rChain) (f_between : FnA P w K mg base 45 "between" ["some", "low", "high"] rBetween) : FnA P w K mg base 49 "how_many" ["f", "low", "high"] rHowMany := by
  refine fnA_mk F scHowMany hb hm (fun as d h => ?_) (by decide) (fun cdv A outer s H E W hW hr as d h => ?_)
  · obtain ⟨f, hi, rfl, _⟩ := h
    rfl
  · obtain ⟨f, hi, rfl, h0, h1, h2, h3, h4, h5, h6, h7, rfl⟩ := h
    refine ss_seq (st_expr (ev_call V.needPolynomial (hr.mono (by decide)) (ea_cons (ev_var 0 rfl rfl (Or.inl rfl)) ea_nil) ⟨f, rfl, h0, rfl⟩ rfl)) ?_
    refine ss_seq (st_if (et_and3 (c := false) (k := false) (l := false) (et_notN (ev_var (d := .non) 1 rfl rfl (Or.inl rfl))) (fun z => nomatch z) (fun z => nomatch z)) (fun z => nomatch z) (fun hc => ss_nil rfl)) ?_
    exact ss_one (st_ret (ev_call f_between (hr.mono (by decide)) (ea_cons (ev_call f_chain hr (ea_cons (ev_call f_plain hr (ea_cons (ev_var 0 rfl rfl (Or.inl rfl)) ea_nil) ⟨f, rfl, h1, rfl⟩ rfl) ea_nil) ⟨plainP f, rfl, h2, h3, h4, h5, rfl⟩ rfl) (ea_cons (ev_var 1 rfl rfl (Or.inl rfl)) (ea_cons (ev_var 2 rfl rfl (Or.inl rfl)) ea_nil))) ⟨chainP (plainP f), none, hi, rfl, h6, h7, rfl⟩ rfl) rfl)
theorem ok_bound {f : Addr} {fd : FuncData} (F : Fun K "bound" "bound" sBound f fd) (hb : Binds K fd ["f"] []) (hm : mg "bound" = some (.ref f)) (T : Pol P w K mg base) : FnA P w K mg base 44 "bound" ["f"] rBound := by
  refine fnA_mk F scBound hb hm (fun as d h => ?_) (by decide) (fun cdv A outer s H E W hW hr as d h => ?_)
  · obtain ⟨f, rfl, _⟩ := h
    rfl
  · obtain ⟨f, rfl, ⟨h1, h2, h3, h4, h5, h6, h7⟩, rfl⟩ := h
    have L := T.L
    have r2 : Room 42 _ := hr.mono (by decide)
    have hl : S (lst f) := by
      rw [lst_eq h3]
      exact sl_get h1 _
    refine ss_seq (st_setLc 1 (lc_all f fr (fun x => fr (absR x / absR (lst f))) [("one", 2)] (ei_list (ev_var 0 rfl rfl (Or.inr (Or.inl rfl)))) rfl hW (blkOk_by (N := ["f", "parts", "one"]) (sc := defScope sBound) (by decide +kernel)) (by omega) (by decide) (fun x hx => ⟨_, fun s H C cl fp => ⟨(eg_name 2 scBound.nd rfl (Or.inl rfl) (.inl hW)), (ev_over L r2 (Ev.cast (ev_pair (ev_callB call_abs rc_abs (ea_cons (ev_num (ev_var 2 rfl rfl (Or.inl rfl))) ea_nil) rfl L.g.abs (by decide +kernel)) (ev_den (ev_var 2 rfl rfl (Or.inl rfl)))) (absR_num x)) (Ev.cast (ev_pair (ev_callB call_abs rc_abs (ea_cons (ev_num (ev_ixL (ev_var 0 rfl rfl (Or.inr (Or.inl rfl))) (ev_neg ev_int) (atI_last' h3))) ea_nil) rfl L.g.abs (by decide +kernel)) (ev_den (ev_ixL (ev_var 0 rfl rfl (Or.inr (Or.inl rfl))) (ev_neg ev_int) (atI_last' h3)))) (absR_num (lst f))) ⟨(h1 x hx).abs, hl.abs, absR_ne h4⟩)⟩⟩)) rfl scBound.nd rfl rfl (.inl hW) (sw_true rfl rfl rfl (by decide +kernel))) ?_
    refine ss_one (st_ret (ev_plus L r2 (ev_one L.g rfl) (ev_total (f := parts f) T hr (ev_var 1 (by unfold pl parts; rw [List.map_map]; rfl) rfl (Or.inl rfl)) ⟨h5, by unfold parts; rw [List.length_map]; exact h6⟩) ⟨S.one, h7⟩) rfl)
theorem ok_halved {f : Addr} {fd : FuncData} (F : Fun K "halved" "halved" sHalved f fd) (hb : Binds K fd ["some", "low", "high"] []) (hm : mg "halved" = some (.ref f)) (L : Fra P w K mg base) (f_between : FnA P w K mg base 45 "between" ["some", "low", "high"] rBetween) : FnA P w K mg base 46 "halved" ["some", "low", "high"] rHalved := by
  refine fnA_mk F scHalved hb hm (fun as d h => ?_) (by decide) (fun cdv A outer s H E W hW hr as d h => ?_)
  · obtain ⟨ch, lo, hi, rfl, _⟩ := h
    rfl
  · obtain ⟨ch, lo, hi, rfl, ⟨⟨h1, h2, h3⟩, h4, h5⟩, rfl⟩ := h
    have r2 : Room 42 _ := hr.mono (by decide)
    refine ss_seq (st_set 3 (ev_times L r2 (ev_half L.g rfl) (ev_plus L r2 (ev_var 1 rfl rfl (Or.inl rfl)) (ev_var 2 rfl rfl (Or.inl rfl)) ⟨h1, h2⟩) ⟨half_s, h3⟩) scHalved.nd rfl (Or.inl rfl) (.inl hW)) ?_
    refine ss_cons (M := fun ρ => ρ = [.val (plL ch), .val (fr lo), .val (fr hi), .val (fr (mid lo hi))] ∧ ¬ btw ch (some lo) (some (mid lo hi)) = 1) (st_if (et_eqI (ev_call f_between hr (ea_cons (ev_var 0 rfl rfl (Or.inl rfl)) (ea_cons (ev_var 1 rfl rfl (Or.inl rfl)) (ea_cons (ev_var 3 rfl rfl (Or.inl rfl)) ea_nil))) ⟨ch, some lo, some (mid lo hi), rfl, h4, h5, rfl⟩ rfl) ev_int) (fun hc => ?_) (fun hc => ss_nil ⟨rfl, of_decide_eq_false hc⟩)) ?_
    · refine ss_one (st_ret (ev_pair (ev_var 1 rfl rfl (Or.inl rfl)) (ev_var 3 rfl rfl (Or.inl rfl))) ?_)
      unfold hlv
      rw [if_pos (of_decide_eq_true hc)]
      rfl
    · rintro _ ⟨rfl, hc⟩
      refine ss_one (st_ret (ev_pair (ev_var 3 rfl rfl (Or.inl rfl)) (ev_var 2 rfl rfl (Or.inl rfl))) ?_)
      unfold hlv
      rw [if_neg hc]
end
end M66
/-! Stretches: the walk. -/
namespace M66
open PySem PySem.Spec PyProof.Rows L2

structure Cha (P : Program) (w : World) (K : PySem.W.Frag) (mg : Str → Option Value) (base : Heap) : Prop where
  V : Div P w K mg base
  plain : FnA P w K mg base 48 "plain" ["f"] rPlain
  chain : FnA P w K mg base 48 "chain" ["f"] rChain
  between : FnA P w K mg base 45 "between" ["some", "low", "high"] rBetween
  howMany : FnA P w K mg base 49 "how_many" ["f", "low", "high"] rHowMany
  bound : FnA P w K mg base 44 "bound" ["f"] rBound
  halved : FnA P w K mg base 46 "halved" ["some", "low", "high"] rHalved

theorem snoc_cases {α : Type} (l : List α) : l = [] ∨ ∃ i a, l = i ++ [a] := by
  rcases List.eq_nil_or_concat l with h | ⟨i, a, h⟩
  · exact .inl h
  · exact .inr ⟨i, a, by rw [h]; simp⟩
theorem sh_prL (l : List (Rat × Rat)) : Sh (.lst (l.map prD)) := (ShL.of (n := 2) fun d hd => by
  obtain ⟨z, _, rfl⟩ := List.mem_map.mp hd
  exact (ShL.cons (sh_fr z.1) (ShL.cons (sh_fr z.2) .nil)).tup).sh (by decide)
abbrev ApIt := (Rat × Rat) × (List (Rat × Rat) × Nat)
def itL (items : List ApIt) : List D := (items.map (·.1)).map prD
theorem itL_snoc (i : List ApIt) (a : ApIt) : itL (i ++ [a]) = itL i ++ [prD a.1] := by
  unfold itL
  rw [List.map_append, List.map_append]
  rfl
theorem Ap.pos {ch : List (List Rat)} {lo hi : Rat} {l : List (Rat × Rat)} {n : Nat} (h : Ap ch lo hi l n) : 0 < n := by cases h <;> omega
theorem it_len : ∀ (items : List ApIt), (∀ it ∈ items, 0 < it.2.2) → items.length ≤ (items.map (·.2.2)).sum
  | [], _ => Nat.le_refl _
  | a :: r, h => by
    have h1 := h a List.mem_cons_self
    have h2 := it_len r fun it hi => h it (List.mem_cons_of_mem _ hi)
    rw [List.map_cons, List.sum_cons, List.length_cons]
    omega
theorem sum_snoc (i : List ApIt) (a : ApIt) : ((i ++ [a]).map (·.2.2)).sum = (i.map (·.2.2)).sum + a.2.2 := by
  rw [List.map_append, List.sum_append]
  simp
theorem flat_snoc (i : List ApIt) (a : ApIt) : (i ++ [a]).reverse.flatMap (·.2.1) = a.2.1 ++ i.reverse.flatMap (·.2.1) := by
  rw [List.reverse_append]
  rfl
section
variable {P : Program} {w : World} {K : PySem.W.Frag} {mg : Str → Option Value} {base : Heap}
theorem ok_apart {f : Addr} {fd : FuncData} (F : Fun K "apart" "apart" sApart f fd) (hb : Binds K fd ["some", "low", "high"] []) (hm : mg "apart" = some (.ref f)) (C : Cha P w K mg base) : FnA P w K mg base 46 "apart" ["some", "low", "high"] rApart := by
  refine fnA_mk F scApart hb hm (fun as d h => ?_) (by decide) (fun cdv A outer s H E W hW hr as d h => ?_)
  · obtain ⟨ch, lo, hi, l, n, rfl, _⟩ := h
    rfl
  · obtain ⟨ch, lo, hi, l, n, rfl, hA, hn, rfl⟩ := h
    have L := C.V.T.L
    have r2 : Room 42 _ := hr.mono (by decide)
    refine ss_seq (st_own 3 (ef_lst (ds := []) ea_nil (by show 0 ≤ 1000; decide)) scApart.nd rfl (Or.inl rfl) (by show 3 < 9; decide) (.inl hW)) ?_
    refine ss_seq (st_own 4 (ef_lst (ds := [_]) (ea_cons (ev_pair (ev_var 1 rfl rfl (Or.inl rfl)) (ev_var 2 rfl rfl (Or.inl rfl))) ea_nil) (by show 1 ≤ 1000; decide)) scApart.nd rfl (Or.inl rfl) (by show 4 < 9; decide) (.inl hW)) ?_
    refine ss_cons (M := fun ρ => ∃ x4 x5 x6 x7 x8, ρ = [.val (plL ch), .val (fr lo), .val (fr hi), .own (l.map prD), x4, x5, x6, x7, x8]) (st_while (fun m ρ => ∃ (acc : List (Rat × Rat)) (items : List ApIt) (x5 x6 x7 x8 : Sl), ρ = [.val (plL ch), .val (fr lo), .val (fr hi), .own (acc.map prD), .own (itL items), x5, x6, x7, x8] ∧ (∀ it ∈ items, Ap ch it.1.1 it.1.2 it.2.1 it.2.2) ∧ acc ++ items.reverse.flatMap (·.2.1) = l ∧ m = (items.map (·.2.2)).sum ∧ acc.length + (items.map (·.2.2)).sum ≤ n) n ⟨[], [((lo, hi), (l, n))], .un, .un, .un, .un, rfl, ?_, ?_, ?_, ?_⟩ PassesOwn.never ?_) ?_
    · intro it hit
      rw [List.mem_singleton.mp hit]
      exact hA
    · show [] ++ (l ++ []) = l
      simp
    · simp
    · simp
    · rintro m _ ⟨acc, items, x5, x6, x7, x8, rfl, hI, hl, rfl, hle⟩
      refine ⟨_, et_neNilO 4 r2 rfl (sh_prL _) rfl (Or.inl rfl), fun hc => ?_, fun hc => ?_⟩
      · rcases snoc_cases items with rfl | ⟨init, ⟨⟨a, b⟩, ⟨l1, n1⟩⟩, rfl⟩
        · cases hc
        · rw [itL_snoc]
          rw [flat_snoc] at hl
          have hA1 : Ap ch a b l1 n1 := hI _ (List.mem_append_right _ (List.mem_singleton_self _))
          have hI2 : ∀ it ∈ init, Ap ch it.1.1 it.1.2 it.2.1 it.2.2 := fun it hit => hI it (List.mem_append_left _ hit)
          have hlen := it_len init fun it hit => (hI2 it hit).pos
          rw [sum_snoc] at hle ⊢
          have hacc : (acc.map prD).length < 1000000 := by rw [List.length_map]; omega
          have hitl : (itL init).length = init.length := by unfold itL; rw [List.length_map, List.length_map]
          refine ss_seq (st_asg (ev_pop (d := prD (a, b)) 4 rfl rfl (Or.inl rfl)) (eg_pair rfl (eg_name 5 scApart.nd rfl (Or.inl rfl) (.inl hW)) (eg_name 6 scApart.nd rfl (Or.inl rfl) (.inl hW)))) ?_
          have hch : ChOk ch (some a) ∧ ChOk ch (some b) := by cases hA1 <;> exact ⟨‹_›, ‹_›⟩
          refine ss_seq (st_set 7 (ev_call C.between hr (ea_cons (ev_var 0 rfl rfl (Or.inl rfl)) (ea_cons (ev_var 5 rfl rfl (Or.inl rfl)) (ea_cons (ev_var 6 rfl rfl (Or.inl rfl)) ea_nil))) ⟨ch, some a, some b, rfl, hch.1, hch.2, rfl⟩ rfl) scApart.nd rfl (Or.inl rfl) (.inl hW)) ?_
          cases hA1 with
          | no h1 h2 h3 =>
            refine ss_seq (st_if (et_eqI (ev_var 7 rfl rfl (Or.inl rfl)) ev_int) (fun hc => absurd (of_decide_eq_true hc) (by omega)) (fun _ => ss_nil rfl)) ?_
            refine ss_one (st_if (et_gt (ev_var 7 rfl rfl (Or.inl rfl)) ev_int) (fun hc => absurd (of_decide_eq_true hc) (by omega)) (fun _ => ss_nil ⟨_, ?_, acc, init, .val (fr a), .val (fr b), .val (.int (btw ch (some a) (some b))), x8, rfl, hI2, hl, rfl, by have : acc.length + ((init.map (·.2.2)).sum + 1) ≤ n := hle; omega⟩))
            show _ < _ + 1
            omega
          | one h1 h2 h3 =>
            refine ss_seq (st_if (et_eqI (ev_var 7 rfl rfl (Or.inl rfl)) ev_int) (fun _ => ss_one (st_append 3 rfl ⟨_, rfl⟩ (ev_pair (ev_var 5 rfl rfl (Or.inl rfl)) (ev_var 6 rfl rfl (Or.inl rfl))) hacc rfl (Or.inl rfl))) (fun hc => absurd h3 (of_decide_eq_false hc))) ?_
            refine ss_one (st_if (et_gt (ev_var 7 rfl rfl (Or.inl rfl)) ev_int) (fun hc => absurd (of_decide_eq_true hc) (by omega)) (fun _ => ss_nil ⟨_, ?_, acc ++ [(a, b)], init, .val (fr a), .val (fr b), .val (.int (btw ch (some a) (some b))), x8, ?_, hI2, ?_, rfl, ?_⟩))
            · show _ < _ + 1
              omega
            · rw [List.map_append]
              rfl
            · rw [← hl, List.append_assoc]
            · rw [List.length_append, List.length_singleton]
              have : acc.length + ((init.map (·.2.2)).sum + 1) ≤ n := hle
              omega
          | @more _ _ l1 l2 n1 n2 h1 h2 h3 h4 h5 h6 =>
            obtain ⟨s1, s2, s3⟩ := h4
            refine ss_seq (st_if (et_eqI (ev_var 7 rfl rfl (Or.inl rfl)) ev_int) (fun hc => absurd (of_decide_eq_true hc) (by omega)) (fun _ => ss_nil rfl)) ?_
            refine ss_one (st_if (et_gt (ev_var 7 rfl rfl (Or.inl rfl)) ev_int) (fun _ => ?_) (fun hc => absurd h3 (of_decide_eq_false hc)))
            refine ss_seq (st_set 8 (ev_times L r2 (ev_half L.g rfl) (ev_plus L r2 (ev_var 5 rfl rfl (Or.inl rfl)) (ev_var 6 rfl rfl (Or.inl rfl)) ⟨s1, s2⟩) ⟨half_s, s3⟩) scApart.nd rfl (Or.inl rfl) (.inl hW)) ?_
            refine ss_one (StD.imp (st_extend 4 rfl (ef_lst (ds := [_, _]) (ea_cons (ev_pair (ev_var 8 rfl rfl (Or.inl rfl)) (ev_var 6 rfl rfl (Or.inl rfl))) (ea_cons (ev_pair (ev_var 5 rfl rfl (Or.inl rfl)) (ev_var 8 rfl rfl (Or.inl rfl))) ea_nil)) (by show 2 ≤ 1000; decide)) (by rw [hitl]; show init.length + 2 < _; omega) rfl (Or.inl rfl)) ?_ fun _ _ h => h)
            rintro _ rfl
            refine ⟨((init ++ [((mid a b, b), (l2, n2))] ++ [((a, mid a b), (l1, n1))]).map (·.2.2)).sum, ?_, acc, init ++ [((mid a b, b), (l2, n2))] ++ [((a, mid a b), (l1, n1))], .val (fr a), .val (fr b), .val (.int (btw ch (some a) (some b))), .val (fr (mid a b)), ?_, ?_, ?_, rfl, ?_⟩
            · rw [sum_snoc, sum_snoc]
              show _ + n2 + n1 < _ + (n1 + n2 + 1)
              omega
            · rw [itL_snoc, itL_snoc, List.append_assoc]
              rfl
            · intro it hit
              rcases List.mem_append.mp hit with hit | hit
              · rcases List.mem_append.mp hit with hit | hit
                · exact hI2 it hit
                · rw [List.mem_singleton.mp hit]
                  exact h6
              · rw [List.mem_singleton.mp hit]
                exact h5
            · rw [flat_snoc, flat_snoc, ← hl]
              show acc ++ (l1 ++ (l2 ++ _)) = acc ++ ((l1 ++ l2) ++ _)
              rw [List.append_assoc]
            · rw [sum_snoc, sum_snoc]
              show _ + (_ + n2 + n1) ≤ _
              have : acc.length + ((init.map (·.2.2)).sum + (n1 + n2 + 1)) ≤ n := hle
              omega
      · rcases snoc_cases items with rfl | ⟨init, a, rfl⟩
        · refine ⟨.own [], x5, x6, x7, x8, ?_⟩
          rw [← hl, show acc ++ ([] : List ApIt).reverse.flatMap (·.2.1) = acc from List.append_nil acc]
          rfl
        · rw [itL_snoc] at hc
          simp at hc
    · rintro _ ⟨x4, x5, x6, x7, x8, rfl⟩
      exact ss_one (st_retO 3 rfl (.inl hW) rfl rfl (Or.inl rfl))
theorem ok_first_stretches {f : Addr} {fd : FuncData} (F : Fun K "first_stretches" "first_stretches" sFirstStretches f fd) (hb : Binds K fd ["f"] []) (hm : mg "first_stretches" = some (.ref f)) (C : Cha P w K mg base) (f_apart : FnA P w K mg base 46 "apart" ["some", "low", "high"] rApart) : FnA P w K mg base 49 "first_stretches" ["f"] rFirstStretches := by
  refine fnA_mk F scFirstStretches hb hm (fun as d h => ?_) (by decide) (fun cdv A outer s H E W hW hr as d h => ?_)
  · obtain ⟨f, l, rfl, _⟩ := h
    rfl
  · obtain ⟨f, l, rfl, ⟨h1, h2, h3, h4, h5, h6, h7, n, h8, h9⟩, rfl⟩ := h
    have L := C.V.T.L
    have r2 : Room 42 _ := hr.mono (by decide)
    refine ss_seq (st_set 1 (ev_call C.chain hr (ea_cons (ev_call C.plain hr (ea_cons (ev_var 0 rfl rfl (Or.inl rfl)) ea_nil) ⟨f, rfl, h1, rfl⟩ rfl) ea_nil) ⟨plainP f, rfl, h2, h3, h4, h5, rfl⟩ rfl) scFirstStretches.nd rfl (Or.inl rfl) (.inl hW)) ?_
    refine ss_seq (st_set 2 (ev_call C.bound (hr.mono (by decide)) (ea_cons (ev_ixL (d := pl (plainP f)) (ev_var 1 rfl rfl (Or.inl rfl)) ev_int (atI_nat (j := 0) rfl)) ea_nil) ⟨plainP f, rfl, h6, rfl⟩ rfl) scFirstStretches.nd rfl (Or.inl rfl) (.inl hW)) ?_
    exact ss_one (st_ret (ev_pair (ev_var 1 rfl rfl (Or.inl rfl)) (ev_call f_apart (hr.mono (by decide)) (ea_cons (ev_var 1 rfl rfl (Or.inl rfl)) (ea_cons (ev_minus L r2 (ev_zero L.g rfl) (ev_var 2 rfl rfl (Or.inl rfl)) ⟨S.zero, h7⟩) (ea_cons (ev_var 2 rfl rfl (Or.inl rfl)) ea_nil))) ⟨_, _, _, l, n, rfl, h9, h8, rfl⟩ rfl)) rfl)
theorem ok_narrowed {f : Addr} {fd : FuncData} (F : Fun K "narrowed" "narrowed" sNarrowed f fd) (hb : Binds K fd ["some", "stretch", "width"] []) (hm : mg "narrowed" = some (.ref f)) (C : Cha P w K mg base) : FnA P w K mg base 47 "narrowed" ["some", "stretch", "width"] rNarrowed := by
  refine fnA_mk F scNarrowed hb hm (fun as d h => ?_) (by decide) (fun cdv A outer s H E W hW hr as d h => ?_)
  · obtain ⟨ch, wd, lo, hi, lo', hi', n, rfl, _⟩ := h
    rfl
  · obtain ⟨ch, wd, lo, hi, lo', hi', n, rfl, hw, hN, rfl⟩ := h
    have L := C.V.T.L
    have r2 : Room 42 _ := hr.mono (by decide)
    refine ss_seq (st_asg (ev_var 1 rfl rfl (Or.inl rfl)) (eg_pair rfl (eg_name 3 scNarrowed.nd rfl (Or.inl rfl) (.inl hW)) (eg_name 4 scNarrowed.nd rfl (Or.inl rfl) (.inl hW)))) ?_
    refine ss_cons (M := fun ρ => ∃ x, ρ = [.val (plL ch), x, .val (fr wd), .val (fr lo'), .val (fr hi')]) (st_while (fun m ρ => ∃ a b x, ρ = [.val (plL ch), x, .val (fr wd), .val (fr a), .val (fr b)] ∧ Nar ch wd a b lo' hi' m) n ⟨lo, hi, _, rfl, hN⟩ PassesOwn.never ?_) ?_
    · rintro m _ ⟨a, b, x, rfl, hN⟩
      cases hN with
      | stop s1 s2 s3 h =>
        exact ⟨_, et_val (ev_is_less L r2 (ev_var 2 rfl rfl (Or.inl rfl)) (ev_minus L r2 (ev_var 4 rfl rfl (Or.inl rfl)) (ev_var 3 rfl rfl (Or.inl rfl)) ⟨s2, s1⟩) ⟨hw, s3⟩), fun hc => absurd (of_decide_eq_true hc) h, fun _ => ⟨x, rfl⟩⟩
      | @go _ _ _ _ m s1 s2 s3 h h4 h5 =>
        refine ⟨_, et_val (ev_is_less L r2 (ev_var 2 rfl rfl (Or.inl rfl)) (ev_minus L r2 (ev_var 4 rfl rfl (Or.inl rfl)) (ev_var 3 rfl rfl (Or.inl rfl)) ⟨s2, s1⟩) ⟨hw, s3⟩), fun _ => ?_, fun hc => absurd h (of_decide_eq_false hc)⟩
        refine ss_one (StD.imp (st_asg (ev_call C.halved hr (ea_cons (ev_var 0 rfl rfl (Or.inl rfl)) (ea_cons (ev_var 3 rfl rfl (Or.inl rfl)) (ea_cons (ev_var 4 rfl rfl (Or.inl rfl)) ea_nil))) ⟨ch, a, b, rfl, h4, rfl⟩ rfl) (eg_pair rfl (eg_name 3 scNarrowed.nd rfl (Or.inl rfl) (.inl hW)) (eg_name 4 scNarrowed.nd rfl (Or.inl rfl) (.inl hW)))) ?_ fun _ _ h => h)
        rintro _ rfl
        exact ⟨m, Nat.lt_succ_self _, _, _, x, rfl, h5⟩
    · rintro _ ⟨x, rfl⟩
      exact ss_one (st_ret (ev_pair (ev_var 3 rfl rfl (Or.inl rfl)) (ev_var 4 rfl rfl (Or.inl rfl))) rfl)
theorem ok_stretches {f : Addr} {fd : FuncData} (F : Fun K "stretches" "stretches" sStretches f fd) (hb : Binds K fd ["f", "width"] []) (hm : mg "stretches" = some (.ref f)) (C : Cha P w K mg base) (f_fs : FnA P w K mg base 49 "first_stretches" ["f"] rFirstStretches) (f_nar : FnA P w K mg base 47 "narrowed" ["some", "stretch", "width"] rNarrowed) : FnA P w K mg base 50 "stretches" ["f", "width"] rStretches := by
  refine fnA_mk F scStretches hb hm (fun as d h => ?_) (by decide) (fun cdv A outer s H E W hW hr as d h => ?_)
  · obtain ⟨f, wd, l, rfl, _⟩ := h
    rfl
  · obtain ⟨f, wd, l, rfl, h0, h1, h2, h3, h4, rfl⟩ := h
    have L := C.V.T.L
    refine ss_seq (st_expr (ev_call C.V.needPolynomial (hr.mono (by decide)) (ea_cons (ev_var 0 rfl rfl (Or.inl rfl)) ea_nil) ⟨f, rfl, h0, rfl⟩ rfl)) ?_
    refine ss_seq (st_asg (ev_call f_fs hr (ea_cons (ev_var 0 rfl rfl (Or.inl rfl)) ea_nil) ⟨f, _, rfl, h1, rfl⟩ rfl) (eg_pair rfl (eg_name 2 scStretches.nd rfl (Or.inr rfl) (.inl hW)) (eg_name 3 scStretches.nd rfl (Or.inl rfl) (.inl hW)))) ?_
    exact ss_one (st_ret (EvF.ev (LcOk.ef (lc_all l (fun z => prD z.1) (fun z => prD z.2) [("stretch", 4)] (ei_list (ev_var 3 rfl rfl (Or.inl rfl))) (by rw [List.map_map]; rfl) hW (blkOk_by (N := ["f", "width", "some", "found", "stretch"]) (sc := defScope sStretches) (by decide +kernel)) (by omega) (by decide) (fun z hz => ⟨_, fun s H Cc cl fp => ⟨(eg_name 4 scStretches.nd rfl (Or.inl rfl) (.inl hW)), (ev_call f_nar (hr.mono (by decide)) (ea_cons (ev_var 2 rfl rfl (Or.inr (Or.inl rfl))) (ea_cons (ev_var 4 rfl rfl (Or.inl rfl)) (ea_cons (ev_var 1 rfl rfl (Or.inr (Or.inl rfl))) ea_nil))) (by
      obtain ⟨n, hn⟩ := h4 z hz
      exact ⟨_, wd, z.1.1, z.1.2, z.2.1, z.2.2, n, rfl, h2, hn, rfl⟩) rfl)⟩⟩)) rfl scStretches.nd)) rfl)
end
end M66
/-! Powers of roots, steps: the walk. -/
namespace M66
open PySem PySem.Spec PyProof.Rows L2

theorem few_small {i : Int} (h : i.natAbs ≤ 1000000) : Few i := Nat.lt_of_le_of_lt h (Nat.lt_of_lt_of_le (show 1000000 < 2 ^ 20 by decide) (pow2_mono (by decide)))
theorem atI_m2 (l : List D) (c d : D) : atI (l ++ [c, d]) (-2) = some c := by
  unfold atI
  have : ixN (l ++ [c, d]).length (-2) = some l.length := by
    rw [List.length_append]
    show ixN (l.length + 2) (-2) = _
    unfold ixN
    rw [if_neg (by omega), if_pos (by omega)]
    congr 1
    omega
  rw [this]
  show (l ++ [c, d])[l.length]? = _
  rw [List.getElem?_append_right (Nat.le_refl _), Nat.sub_self]
  rfl
section
variable {X : Cx} {W : Wd} {p : Bool} {ρ : List Sl} {eb : Expr} {d : D} {ds : List D} {pos : Pos}
/-- a list by name: a datum, an own one, a lent one -/
def NmL (ρ : List Sl) (i : Nat) (ds : List D) : Prop := ρ[i]? = some (.val (.lst ds)) ∨ ρ[i]? = some (.own ds) ∨ ρ[i]? = some (.bor ds)
theorem ev_ixM (i : Nat) {x : Str} {pos' : Pos} {n : Int} (h : NmL ρ i ds) (b : Ev X W true eb ρ ρ (.int n)) (hd : atI ds n = some d) (hN : X.N[i]? = some x) (hv : Vis X.env.scope x) (hs : PlainIx eb := by intro _ _; rfl)
    (hdd : (x == ("__debug__" : Str)) = false := by decide) (hcd : (x == ("__classdict__" : Str)) = false := by decide) : Ev X W p (.Subscript (.Name x pos') eb pos) ρ ρ d := by
  rcases h with h | h
  · exact ev_ixL (ev_var i h hN hv hdd hcd) (Ev.weak b) hd hs
  · exact ev_ixO i h b hd hN hv hs hdd hcd
theorem ev_lenM (i : Nat) {x y : Str} {p' pos' : Pos} (h : NmL ρ i ds) (hN : X.N[i]? = some x) (hv : Vis X.env.scope x) (hg : Gl X y) (hm : X.mg y = none) (hv2 : bootBuiltins y = some (.builtin "len")) (hn : y ≠ "__name__" := by decide) (hdb : (y == ("__debug__" : Str)) = false := by decide)
    (hs : starEach [.Name x pos'] X.env = (false, eval (.Name x pos') X.env) :: starEach [] X.env := by rfl) (hdd : (x == ("__debug__" : Str)) = false := by decide) (hcd : (x == ("__classdict__" : Str)) = false := by decide) :
    Ev X W p (.Call (.Name y p') [.Name x pos'] [] pos) ρ ρ (.int ds.length) := by
  rcases h with h | h
  · exact ev_len (.inl rfl) (ea_cons (ev_var i h hN hv hdd hcd) ea_nil hs) hg hm hv2 hn hdb hs
  · exact ev_len (.inr (.inl rfl)) (ea_bor i h ea_nil hN hv hs hdd hcd) hg hm hv2 hn hdb hs
end
theorem nmL_start {N : List Str} {as : List Ar} {i : Nat} {ds : List D} (h : as[i]? = some (.v (.lst ds)) ∨ as[i]? = some (.b ds)) : NmL (rho N as) i ds := by
  have hi : i < as.length := by rcases h with h | h <;> exact (List.getElem?_eq_some_iff.mp h).1
  have e : (rho N as)[i]? = (as[i]?).map slOf := by
    unfold rho
    rw [List.getElem?_append_left (by rw [List.length_map]; exact hi), List.getElem?_map]
  rcases h with h | h
  · exact .inl (by rw [e, h]; rfl)
  · exact .inr (.inr (by rw [e, h]; rfl))

theorem EvT.cast {X : Cx} {W : Wd} {p : Bool} {ρ ρ1 : List Sl} {e : Expr} {c c' : Bool} (h : EvT X W p e ρ ρ1 c) (e0 : c = c') : EvT X W p e ρ ρ1 c' := e0 ▸ h
def rRootPowers (as : List Ar) (d : D) : Prop := ∃ (R : List Rat) (many : Nat), as = [.v (pl R), .v (.int (many : Int))] ∧ 1 ≤ many ∧ many ≤ 1000 ∧ RpOk R many ∧ d = pl (rpL R (many - 1))
def stD (s : Stp) : D := .tup [pl s.1, fr s.2]
def stL (l : List Stp) : List D := l.map stD
def rNextStep (as : List Ar) (d : D) : Prop := ∃ (some : List Stp) (t : Rat) (a : Ar), as = [a, .v (fr t)] ∧ (a = .v (.lst (stL some)) ∨ a = .b (stL some)) ∧ some.length ≤ 200 ∧ NstOk some t ∧ d = pl (nstep some t)
def rTurnOf (as : List Ar) (d : D) : Prop := ∃ (sums : List Rat) (some : List Stp) (a : Ar), as = [.v (pl sums), a] ∧ (a = .v (.lst (stL some)) ∨ a = .b (stL some)) ∧ TrnOk sums some ∧ d = fr (trn sums some)
def rSteps (as : List Ar) (d : D) : Prop := ∃ (sums : List Rat) (res : List Stp), as = [.v (pl sums)] ∧ StsOk sums res ∧ d = .lst (stL res)
def barD (f : List Rat) : Option Nat → D
  | none => .non
  | some k => .tup [.str "nought", pl f, pl (pwr k)]
def rNoughtBar (as : List Ar) (d : D) : Prop := ∃ (sums f : List Rat) (b : Option Nat), as = [.v (pl sums), .v (pl f)] ∧ f.length ≤ sums.length ∧ sums.length ≤ 200 ∧ Bar sums f b ∧ d = barD f b
theorem stL_last {some : List Stp} (h : some ≠ []) : atI (stL some) (-1) = Option.some (stD (lastS some)) := by
  have e : stL some = stL some.dropLast ++ [stD (some.getLast h)] := by
    unfold stL
    rw [← List.map_singleton, ← List.map_append, List.dropLast_concat_getLast]
  rw [e, atI_last]
  congr 2
  unfold lastS
  rw [List.getLastD_eq_getLast?, List.getLast?_eq_some_getLast h]
  rfl
theorem stL_prev {some : List Stp} (h : 1 < some.length) : atI (stL some) (-2) = Option.some (stD (prevS some)) := by
  have h0 : some ≠ [] := by
    intro z
    rw [z] at h
    exact Nat.not_lt_zero _ h
  have h1 : some.dropLast ≠ [] := by
    intro z
    have := congrArg List.length z
    rw [List.length_dropLast] at this
    simp at this
    omega
  have e : stL some = stL some.dropLast.dropLast ++ [stD (some.dropLast.getLast h1), stD (some.getLast h0)] := by
    unfold stL
    conv => lhs; rw [← List.dropLast_concat_getLast h0, ← List.dropLast_concat_getLast h1]
    rw [List.map_append, List.map_append, List.append_assoc]
    rfl
  rw [e, atI_m2]
  congr 2
  unfold prevS
  rw [List.getLastD_eq_getLast?, List.getLast?_eq_some_getLast h1]
  rfl

abbrev sRootPowers : Stmt := topS 53
theorem scRootPowers : FnScope ["roots", "many", "degree", "found", "k", "here", "back"] ["roots", "many"] (defScope sRootPowers) := ⟨rfl, rfl, rfl, by decide +kernel, rfl, by decide +kernel, by decide +kernel⟩
abbrev sNextStep : Stmt := topS 59
theorem scNextStep : FnScope ["some", "turn", "last", "square", "found"] ["some", "turn"] (defScope sNextStep) := ⟨rfl, rfl, rfl, by decide +kernel, rfl, by decide +kernel, by decide +kernel⟩
abbrev sTurnOf : Stmt := topS 60
theorem scTurnOf : FnScope ["sums", "some", "last", "square"] ["sums", "some"] (defScope sTurnOf) := ⟨rfl, rfl, rfl, by decide +kernel, rfl, by decide +kernel, by decide +kernel⟩
abbrev sSteps : Stmt := topS 61
theorem scSteps : FnScope ["sums", "found", "more"] ["sums"] (defScope sSteps) := ⟨rfl, rfl, rfl, by decide +kernel, rfl, by decide +kernel, by decide +kernel⟩
abbrev sNoughtBar : Stmt := topS 63
theorem scNoughtBar : FnScope ["sums", "f", "many"] ["sums", "f"] (defScope sNoughtBar) := ⟨rfl, rfl, rfl, by decide +kernel, rfl, by decide +kernel, by decide +kernel⟩

theorem atI_fr {f : List Rat} {i : Nat} (h : i < f.length) : atI (f.map fr) (i : Int) = some (fr (cf f i)) := atI_nat (by rw [List.getElem?_map, List.getElem?_eq_getElem h, cf_lt h]; rfl)
theorem get_rng {n i : Nat} {d : D} {g : Nat → D} (h : ((List.range n).map g)[i]? = some d) : i < n ∧ d = g i := by
  have hi : i < n := by
    have := (List.getElem?_eq_some_iff.mp h).1
    rwa [List.length_map, List.length_range] at this
  refine ⟨hi, ?_⟩
  rw [List.getElem?_map, List.getElem?_range hi] at h
  cases h
  rfl
theorem frL_snoc (l : List Rat) (c : Rat) : l.map fr ++ [fr c] = (l ++ [c]).map fr := by rw [List.map_append]; rfl
section
variable {P : Program} {w : World} {K : PySem.W.Frag} {mg : Str → Option Value} {base : Heap}
theorem ok_root_powers {f : Addr} {fd : FuncData} (F : Fun K "root_powers" "root_powers" sRootPowers f fd) (hb : Binds K fd ["roots", "many"] []) (hm : mg "root_powers" = some (.ref f)) (L : Fra P w K mg base) : FnA P w K mg base 43 "root_powers" ["roots", "many"] rRootPowers := by
  refine fnA_mk F scRootPowers hb hm (fun as d h => ?_) (by decide) (fun cdv A outer s H E W hW hr as d h => ?_)
  · obtain ⟨R, many, rfl, _⟩ := h
    rfl
  · obtain ⟨R, many, rfl, hm1, hm2, ⟨s1, s2, s3, s4⟩, rfl⟩ := h
    have r2 : Room 42 _ := hr
    refine ss_seq (st_set 2 (Ev.cast (ev_sub (ev_len (.inl rfl) (ea_cons (ev_var 0 rfl rfl (Or.inl rfl)) ea_nil) rfl L.g.len (by decide +kernel)) ev_int) (d1 := .int ((R.length - 1 : Nat) : Int)) (by rw [len_pl]; congr 1; omega)) scRootPowers.nd rfl (Or.inl rfl) (.inl hW)) ?_
    generalize hdg : R.length - 1 = dg
    refine ss_seq (st_own 3 (ef_lst (ds := [fr (dg : Rat)]) (ea_cons (ev_pair (ev_var 2 rfl rfl (Or.inl rfl)) ev_int) ea_nil) (by show 1 ≤ 1000; decide)) scRootPowers.nd rfl (Or.inl rfl) (by show 3 < 7; decide) (.inl hW)) ?_
    refine ss_cons (M := fun ρ => ∃ x4 x5 x6, ρ = [.val (pl R), .val (.int (many : Int)), .val (.int (dg : Int)), .own ((rpL R (many - 1)).map fr), x4, x5, x6]) (st_for (fun i ρ => i ≤ many - 1 ∧ ∃ x4 x5 x6, ρ = [.val (pl R), .val (.int (many : Int)), .val (.int (dg : Int)), .own ((rpL R i).map fr), x4, x5, x6]) (ei_range2 (ea_cons ev_int (ea_cons (ev_var 1 rfl rfl (Or.inl rfl)) ea_nil)) rfl L.g.range (by omega) (by omega) (by omega) (by omega)) ⟨Nat.zero_le _, .un, .un, .un, by rw [rpL, hdg]; rfl⟩ PassesOwn.never rfl ?_ ?_) ?_
    · rintro i d _ hi ⟨hle, x4, x5, x6, rfl⟩
      obtain ⟨hlt, rfl⟩ := get_rng hi
      have hlt2 : i + 1 < many := by omega
      obtain ⟨u1, u2, u3, u4, u5⟩ := s4 i hlt2
      rw [hdg] at u2 u3 u4
      have hRl := rpL_length R i
      refine ⟨_, _, eg_name 4 scRootPowers.nd rfl (Or.inl rfl) (.inl hW), ?_⟩
      refine ss_seq (st_set 5 (ev_zero L.g rfl) scRootPowers.nd rfl (Or.inl rfl) (.inl hW)) ?_
      refine ss_cons (M := fun ρ => ∃ x6, ρ = [.val (pl R), .val (.int (many : Int)), .val (.int (dg : Int)), .own ((rpL R i).map fr), .val (.int (1 + (i : Int))), .val (fr (isum R (rpL R i) (i + 1) (min i dg))), x6]) (st_for (fun j ρ => j ≤ min i dg ∧ ∃ x6, ρ = [.val (pl R), .val (.int (many : Int)), .val (.int (dg : Int)), .own ((rpL R i).map fr), .val (.int (1 + (i : Int))), .val (fr (isum R (rpL R i) (i + 1) j)), x6]) (ei_range2 (n := ((min i dg + 1 : Nat) : Int)) (ea_cons ev_int (ea_cons (Ev.cast (ev_add (ev_callB (call_min2 rfl) rc_min (ea_cons (ev_sub (ev_var 4 rfl rfl (Or.inl rfl)) ev_int) (ea_cons (ev_var 2 rfl rfl (Or.inl rfl)) ea_nil)) rfl L.g.min (by decide +kernel)) ev_int) (by congr 1; omega)) ea_nil)) rfl L.g.range (by omega) (by omega) (by omega) (by omega)) ⟨Nat.zero_le _, x6, rfl⟩ PassesOwn.never rfl ?_ ?_) ?_
      · rintro j d _ hj ⟨hjl, x6, rfl⟩
        obtain ⟨hjt, rfl⟩ := get_rng hj
        have hjt2 : j < min i dg := by omega
        refine ⟨_, _, eg_name 6 scRootPowers.nd rfl (Or.inl rfl) (.inl hW), ?_⟩
        refine ss_one (StD.imp (st_set 5 (ev_plus L r2 (ev_var 5 rfl rfl (Or.inl rfl)) (ev_times L r2 (ev_ixL (d := fr (cf R (dg - (j + 1)))) (ev_var 0 rfl rfl (Or.inl rfl)) (Ev.cast (ev_sub (ev_var 2 rfl rfl (Or.inl rfl)) (ev_var 6 rfl rfl (Or.inl rfl))) (d1 := .int ((dg - (j + 1) : Nat) : Int)) (by congr 1; omega)) (atI_fr (by omega))) (ev_ixO 3 (d := fr (cf (rpL R i) (i + 1 - (j + 1)))) (.inl rfl) (Ev.cast (ev_sub (ev_var 4 rfl rfl (Or.inl rfl)) (ev_var 6 rfl rfl (Or.inl rfl))) (d1 := .int ((i + 1 - (j + 1) : Nat) : Int)) (by congr 1; omega)) (atI_fr (by omega)) rfl (Or.inl rfl)) ⟨sl_get s1 _, sl_get u1 _⟩) ⟨u2 j hjl, u3 j hjt2⟩) scRootPowers.nd rfl (Or.inl rfl) (.inl hW)) ?_ fun _ _ h => h)
        rintro _ rfl
        refine ⟨by omega, .val (.int (1 + (j : Int))), ?_⟩
        rw [isum, hdg]
        rfl
      · rintro _ ⟨_, x6, rfl⟩
        refine ⟨x6, ?_⟩
        rw [List.length_map, List.length_range, show (((min i dg + 1 : Nat) : Int) - 1).toNat = min i dg by omega]
      · rintro _ ⟨x6, rfl⟩
        refine ss_cons (M := fun ρ => ∃ x6, ρ = [.val (pl R), .val (.int (many : Int)), .val (.int (dg : Int)), .own ((rpL R i).map fr), .val (.int (1 + (i : Int))), .val (fr (rpHere R (rpL R i) (i + 1))), x6]) (st_if (et_le (ev_var 4 rfl rfl (Or.inl rfl)) (ev_var 2 rfl rfl (Or.inl rfl))) (fun hc => ?_) (fun hc => ?_)) ?_
        · have hc := of_decide_eq_true hc
          have hk : i + 1 ≤ dg := by omega
          refine ss_one (StD.imp (st_set 5 (ev_plus L r2 (ev_var 5 rfl rfl (Or.inl rfl)) (ev_times (q := ((i + 1 : Nat) : Rat)) L r2 (Ev.cast (ev_pair (ev_var 4 rfl rfl (Or.inl rfl)) ev_int) (by rw [← fr_nat, show 1 + (i : Int) = ((i + 1 : Nat) : Int) by omega])) (ev_ixL (d := fr (cf R (dg - (i + 1)))) (ev_var 0 rfl rfl (Or.inl rfl)) (Ev.cast (ev_sub (ev_var 2 rfl rfl (Or.inl rfl)) (ev_var 4 rfl rfl (Or.inl rfl))) (d1 := .int ((dg - (i + 1) : Nat) : Int)) (by congr 1; omega)) (atI_fr (by omega))) ⟨S.nat (nat_lt64 (by omega)), sl_get s1 _⟩) ⟨u2 _ (Nat.le_refl _), u4 hk⟩) scRootPowers.nd rfl (Or.inl rfl) (.inl hW)) ?_ fun _ _ h => h)
          rintro _ rfl
          refine ⟨x6, ?_⟩
          unfold rpHere
          rw [hdg, if_pos hk, show i + 1 - 1 = i by omega]
          rfl
        · have hc := of_decide_eq_false hc
          refine ss_nil ⟨x6, ?_⟩
          unfold rpHere
          rw [hdg, if_neg (by omega), show i + 1 - 1 = i by omega]
        · rintro _ ⟨x6, rfl⟩
          refine ss_one (StD.imp (st_append 3 rfl ⟨_, rfl⟩ (ev_times L r2 (ev_minus1 L.g rfl) (ev_var 5 rfl rfl (Or.inl rfl)) ⟨(Sz.one (n := 1) (by decide)).neg.s (by decide), u5⟩) (by rw [List.length_map]; omega) rfl (Or.inl rfl)) ?_ fun _ _ h => h)
          rintro _ rfl
          refine ⟨by omega, .val (.int (1 + (i : Int))), .val (fr (rpHere R (rpL R i) (i + 1))), x6, ?_⟩
          rw [frL_snoc]
          rfl
    · rintro _ ⟨_, x4, x5, x6, rfl⟩
      refine ⟨x4, x5, x6, ?_⟩
      rw [List.length_map, List.length_range, show ((many : Int) - 1).toNat = many - 1 by omega]
    · rintro _ ⟨x4, x5, x6, rfl⟩
      exact ss_one (st_retO 3 rfl (.inl hW) rfl rfl (Or.inl rfl))
theorem sz_m1 : S (-1) := (Sz.one (n := 1) (by decide)).neg.s (by decide)
theorem ok_next_step {f : Addr} {fd : FuncData} (F : Fun K "next_step" "next_step" sNextStep f fd) (hb : Binds K fd ["some", "turn"] []) (hm : mg "next_step" = some (.ref f)) (T : Pol P w K mg base) : FnA P w K mg base 45 "next_step" ["some", "turn"] rNextStep := by
  refine fnA_mk F scNextStep hb hm (fun as d h => ?_) (by decide) (fun cdv A outer s H E W hW hr as d h => ?_)
  · obtain ⟨some, t, a, rfl, _⟩ := h
    rfl
  · obtain ⟨some, t, a, rfl, ha, hl2, ⟨h0, h1, h2, h3, h4, h5⟩, rfl⟩ := h
    have L := T.L
    have r2 : Room 42 _ := hr.mono (by decide)
    have r3 : Room 43 _ := hr.mono (by decide)
    obtain ⟨sl, hsl⟩ : ∃ sl, sl = slOf a := ⟨_, rfl⟩
    have nm : ∀ x y z u : Sl, NmL [sl, x, y, z, u] 0 (stL some) := fun x y z u => by
      rcases ha with rfl | rfl
      · exact .inl (by rw [hsl]; rfl)
      · exact .inr (.inr (by rw [hsl]; rfl))
    rw [show rho ["some", "turn", "last", "square", "found"] [a, .v (fr t)] = [sl, .val (fr t), .un, .un, .un] by rw [hsl]; rfl]
    refine ss_seq (st_asg (ev_ixM 0 (nm _ _ _ _) (ev_neg ev_int) (stL_last h0) rfl (Or.inl rfl)) (eg_pair rfl (eg_name 2 scNextStep.nd rfl (Or.inl rfl) (.inl hW)) (eg_name 3 scNextStep.nd rfl (Or.inl rfl) (.inl hW)))) ?_
    have l1 := rai_length (lastS some).1 1
    have l2 := scl_length (lastS some).1 t
    refine ss_seq (st_set 4 (ev_lessened T hr (ev_raised (n := 1) T r3 (ev_var 2 rfl rfl (Or.inl rfl)) ev_int (by omega)) (ev_grown T hr (ev_var 2 rfl rfl (Or.inl rfl)) (ev_var 1 rfl rfl (Or.inl rfl)) ⟨h1, h3, by omega⟩) ⟨sl_rai h1 1, h4, by omega, by omega⟩) scNextStep.nd rfl (Or.inl rfl) (.inl hW)) ?_
    have l3 := subP_length (rai (lastS some).1 1) (scl (lastS some).1 t)
    refine ss_cons (M := fun ρ => ∃ x2 x3, ρ = [sl, .val (fr t), x2, x3, .val (pl (nstep some t))]) (st_if (et_gt (ev_lenM 0 (nm _ _ _ _) rfl (Or.inl rfl) rfl L.g.len (by decide +kernel)) ev_int) (fun hc => ?_) (fun hc => ?_)) ?_
    · have hc := of_decide_eq_true hc
      have hc2 : 1 < some.length := by
        unfold stL at hc
        rw [List.length_map] at hc
        omega
      obtain ⟨k1, k2, k3, k4, k5, k6, k7, k8⟩ := h5 hc2
      have l4 := scl_length (prevS some).1 ((lastS some).2 / (prevS some).2)
      refine ss_one (StD.imp (st_set 4 (ev_lessened (f := nst0 (lastS some).1 t) T hr (ev_var 4 rfl rfl (Or.inl rfl)) (ev_grown T hr (ev_ixT (ev_ixM 0 (nm _ _ _ _) (ev_neg ev_int) (stL_prev hc2) rfl (Or.inl rfl)) ev_int rfl) (ev_over L r2 (ev_var 3 rfl rfl (Or.inl rfl)) (ev_ixT (ev_ixM 0 (nm _ _ _ _) (ev_neg ev_int) (stL_prev hc2) rfl (Or.inl rfl)) ev_int rfl) ⟨k1, k2, k3⟩) ⟨k4, k6, by omega⟩) ⟨k7, k8, by show (subP _ _).length ≤ _; omega, by omega⟩) scNextStep.nd rfl (Or.inl rfl) (.inl hW)) ?_ fun _ _ h => h)
      rintro _ rfl
      refine ⟨.val (pl (lastS some).1), .val (fr (lastS some).2), ?_⟩
      unfold nstep
      rw [if_pos hc2]
      rfl
    · have hc := of_decide_eq_false hc
      refine ss_nil ⟨.val (pl (lastS some).1), .val (fr (lastS some).2), ?_⟩
      unfold nstep
      rw [if_neg (by unfold stL at hc; rw [List.length_map] at hc; omega)]
      rfl
    · rintro _ ⟨x2, x3, rfl⟩
      exact ss_one (st_ret (ev_var 4 rfl rfl (Or.inl rfl)) rfl)
theorem ok_turn_of {f : Addr} {fd : FuncData} (F : Fun K "turn_of" "turn_of" sTurnOf f fd) (hb : Binds K fd ["sums", "some"] []) (hm : mg "turn_of" = some (.ref f)) (V : Div P w K mg base) : FnA P w K mg base 47 "turn_of" ["sums", "some"] rTurnOf := by
  refine fnA_mk F scTurnOf hb hm (fun as d h => ?_) (by decide) (fun cdv A outer s H E W hW hr as d h => ?_)
  · obtain ⟨sums, some, a, rfl, _⟩ := h
    rfl
  · obtain ⟨sums, some, a, rfl, ha, ⟨h0, h1, h2, h3, h4, h5⟩, rfl⟩ := h
    have T := V.T
    have L := T.L
    have r2 : Room 42 _ := hr.mono (by decide)
    have nm : NmL (rho ["sums", "some", "last", "square"] [.v (pl sums), a]) 1 (stL some) := nmL_start (by rcases ha with rfl | rfl <;> first | exact .inl rfl | exact .inr rfl)
    refine ss_seq (st_asg (ev_ixM 1 nm (ev_neg ev_int) (stL_last h0) rfl (Or.inl rfl)) (eg_pair rfl (eg_name 2 scTurnOf.nd rfl (Or.inl rfl) (.inl hW)) (eg_name 3 scTurnOf.nd rfl (Or.inl rfl) (.inl hW)))) ?_
    exact ss_one (st_ret (ev_over L r2 (ev_call V.squareSum hr (ea_cons (ev_var 0 rfl rfl (Or.inl rfl)) (ea_cons (ev_raised (n := 1) T (hr.mono (by decide)) (ev_var 2 rfl rfl (Or.inl rfl)) ev_int (by omega)) (ea_cons (ev_var 2 rfl rfl (Or.inl rfl)) ea_nil))) ⟨sums, rai (lastS some).1 1, (lastS some).1, rfl, h2.1, h2.2, rfl⟩ rfl) (ev_var 3 rfl rfl (Or.inl rfl)) ⟨h3, h4, h5⟩) rfl)
theorem sgn_pos {q : Rat} : decide ((0 : Int) < sgn q) = decide (0 < q) := by
  unfold sgn
  by_cases h : 0 < q
  · rw [if_pos h, decide_eq_true h]; rfl
  · rw [if_neg h, decide_eq_false h]
    split <;> rfl
theorem sgn_neg {q : Rat} : decide (sgn q < (0 : Int)) = decide (q < 0) := by
  unfold sgn
  by_cases h : 0 < q
  · rw [if_pos h, decide_eq_false (by grind : ¬ q < 0)]; rfl
  · rw [if_neg h]
    by_cases h2 : q < 0
    · rw [if_pos h2, decide_eq_true h2]; rfl
    · rw [if_neg h2, decide_eq_false h2]; rfl
theorem ok_steps {f : Addr} {fd : FuncData} (F : Fun K "steps" "steps" sSteps f fd) (hb : Binds K fd ["sums"] []) (hm : mg "steps" = some (.ref f)) (V : Div P w K mg base)
    (f_next : FnA P w K mg base 45 "next_step" ["some", "turn"] rNextStep) (f_turn : FnA P w K mg base 47 "turn_of" ["sums", "some"] rTurnOf) : FnA P w K mg base 48 "steps" ["sums"] rSteps := by
  refine fnA_mk F scSteps hb hm (fun as d h => ?_) (by decide) (fun cdv A outer s H E W hW hr as d h => ?_)
  · obtain ⟨sums, res, rfl, _⟩ := h
    rfl
  · obtain ⟨sums, res, rfl, ⟨h0, h1, n, h2⟩, rfl⟩ := h
    have T := V.T
    have L := T.L
    have r2 : Room 42 _ := hr.mono (by decide)
    have hpos : 0 < sums.length := List.length_pos_iff.mpr h0
    refine ss_seq (st_own 1 (ef_lst (ds := [stD ([1], cf sums 0)]) (ea_cons (ev_pair (EvF.ev (ef_lst (ds := [fr 1]) (ea_cons (ev_one L.g rfl) ea_nil) (by show 1 ≤ 1000; decide))) (ev_ixL (d := fr (cf sums 0)) (ev_var 0 rfl rfl (Or.inl rfl)) ev_int (atI_fr (i := 0) hpos))) ea_nil) (by show 1 ≤ 1000; decide)) scSteps.nd rfl (Or.inl rfl) (by show 1 < 3; decide) (.inl hW)) ?_
    refine ss_cons (M := fun ρ => ∃ x, ρ = [.val (pl sums), .own (stL res), x]) (st_while (fun m ρ => ∃ cur x, ρ = [.val (pl sums), .own (stL cur), x] ∧ Sts sums cur res m ∧ cur.length ≤ 1000) n ⟨st0 sums, .un, rfl, h2, by show 1 ≤ 1000; decide⟩ PassesOwn.never ?_) ?_
    · rintro m _ ⟨cur, x, rfl, hS, hcl⟩
      have hc0 : cur ≠ [] := by cases hS <;> assumption
      have hstl : (stL cur).length = cur.length := by unfold stL; rw [List.length_map]
      refine ⟨decide (0 < (lastS cur).2) && decide (2 * (cur.length : Int) < (sums.length : Int)), et_and2 (EvT.cast (et_gt (ev_sign_of L r2 (ev_ixT (ds := [pl (lastS cur).1, fr (lastS cur).2]) (ev_ixM 1 (.inr (.inl rfl)) (ev_neg ev_int) (stL_last hc0) rfl (Or.inl rfl)) ev_int rfl)) ev_int) sgn_pos) (fun _ => EvT.cast (et_lt (ev_mul ev_int (ev_lenM 1 (ds := stL cur) (.inr (.inl rfl)) rfl (Or.inl rfl) rfl L.g.len (by decide +kernel)) ⟨few_small (by decide), few_small (by rw [hstl, Int.natAbs_natCast]; omega)⟩) (ev_len (.inl rfl) (ea_cons (ev_var (d := pl sums) 0 rfl rfl (Or.inl rfl)) ea_nil) rfl L.g.len (by decide +kernel))) (by rw [len_pl, hstl])), fun hc => ?_, fun hc => ⟨x, ?_⟩⟩
      · rw [Bool.and_eq_true, decide_eq_true_eq, decide_eq_true_eq] at hc
        cases hS with
        | stop _ hn => exact absurd ⟨hc.1, by omega⟩ hn
        | @go _ _ m _ k1 k2 k3 k4 k5 k6 =>
          have hnl : (nstep cur (trn sums cur)).length ≤ 500 := by
            have := k5.1.1
            omega
          refine ss_seq (st_set 2 (ev_call f_next (hr.mono (by decide)) (ea_bor 1 (.inl rfl) (ea_cons (ev_call f_turn hr (ea_cons (ev_var 0 rfl rfl (Or.inl rfl)) (ea_bor 1 (.inl rfl) ea_nil rfl (Or.inl rfl))) ⟨sums, cur, _, rfl, .inr rfl, k3, rfl⟩ rfl) ea_nil) rfl (Or.inl rfl)) ⟨cur, _, _, rfl, .inr rfl, by omega, k4, rfl⟩ rfl) scSteps.nd rfl (Or.inl rfl) (.inl hW)) ?_
          refine ss_one (StD.imp (st_append 1 rfl ⟨_, rfl⟩ (ev_pair (ev_var 2 rfl rfl (Or.inl rfl)) (ev_call V.squareSum (hr.mono (by decide)) (ea_cons (ev_var 0 rfl rfl (Or.inl rfl)) (ea_cons (ev_var 2 rfl rfl (Or.inl rfl)) (ea_cons (ev_var 2 rfl rfl (Or.inl rfl)) ea_nil))) ⟨sums, _, _, rfl, k5.1, k5.2, rfl⟩ rfl)) (by rw [hstl]; omega) rfl (Or.inl rfl)) ?_ fun _ _ h => h)
          rintro _ rfl
          refine ⟨m, Nat.lt_succ_self _, _, .val (pl (nstep cur (trn sums cur))), ?_, k6, by rw [List.length_append]; show cur.length + 1 ≤ 1000; omega⟩
          unfold stL
          rw [List.map_append]
          rfl
      · cases hS with
        | stop _ hn => rfl
        | go _ h1 h2 =>
          rw [decide_eq_true h1, decide_eq_true (by omega : 2 * (cur.length : Int) < (sums.length : Int))] at hc
          cases hc
    · rintro _ ⟨x, rfl⟩
      exact ss_one (st_retO 1 rfl (.inl hW) rfl rfl (Or.inl rfl))
theorem ok_nought_bar {f : Addr} {fd : FuncData} (F : Fun K "nought_bar" "nought_bar" sNoughtBar f fd) (hb : Binds K fd ["sums", "f"] []) (hm : mg "nought_bar" = some (.ref f)) (V : Div P w K mg base) : FnA P w K mg base 47 "nought_bar" ["sums", "f"] rNoughtBar := by
  refine fnA_mk F scNoughtBar hb hm (fun as d h => ?_) (by decide) (fun cdv A outer s H E W hW hr as d h => ?_)
  · obtain ⟨sums, f, b, rfl, _⟩ := h
    rfl
  · obtain ⟨sums, f, b, rfl, hl, hs, hB, rfl⟩ := h
    have T := V.T
    have L := T.L
    have r2 : Room 42 _ := hr.mono (by decide)
    have r3 : Room 43 _ := hr.mono (by decide)
    have hok : ∀ i, f.length + i ≤ sums.length → (∀ j, j < i → sqs sums f (pwr j) = 0) → SqOk sums f (pwr i) ∧ (sqs sums f (pwr i) ≠ 0 → b = some i) := fun i hi hz => by
      cases hB with
      | none hn => exact ⟨(hn i hi).1, fun z => absurd (hn i hi).2 z⟩
      | @some k h1 h2 h3 h4 =>
        have hik : i ≤ k := by
          apply Nat.le_of_not_lt
          intro z
          exact h4 (hz k z)
        refine ⟨h2 i hik, fun z => ?_⟩
        rcases Nat.lt_or_eq_of_le hik with h | h
        · exact absurd (h3 i h) z
        · rw [h]
    refine ss_cons (M := fun ρ => b = none) (st_for (fun i ρ => f.length + i ≤ sums.length + 1 ∧ (∀ j, j < i → sqs sums f (pwr j) = 0) ∧ ∃ x, ρ = [.val (pl sums), .val (pl f), x]) (ei_range1 (n := ((sums.length - f.length + 1 : Nat) : Int)) (ea_cons (Ev.cast (ev_add (ev_sub (ev_len (.inl rfl) (ea_cons (ev_var 0 rfl rfl (Or.inl rfl)) ea_nil) rfl L.g.len (by decide +kernel)) (ev_len (.inl rfl) (ea_cons (ev_var 1 rfl rfl (Or.inl rfl)) ea_nil) rfl L.g.len (by decide +kernel))) ev_int) (by rw [len_pl, len_pl]; congr 1; omega)) ea_nil) rfl L.g.range (by omega) (by omega)) ⟨by omega, fun j hj => absurd hj (Nat.not_lt_zero _), .un, rfl⟩ PassesOwn.never rfl ?_ ?_) ?_
    · rintro i d _ hi ⟨hle, hz, x, rfl⟩
      obtain ⟨hlt, rfl⟩ := get_rng hi
      have hi2 : f.length + i ≤ sums.length := by omega
      obtain ⟨k1, k2⟩ := hok i hi2 hz
      refine ⟨_, _, eg_name 2 scNoughtBar.nd rfl (Or.inl rfl) (.inl hW), ?_⟩
      refine ss_one (st_if (et_neF hr (ev_call V.squareSum (hr.mono (by decide)) (ea_cons (ev_var 0 rfl rfl (Or.inl rfl)) (ea_cons (ev_var 1 rfl rfl (Or.inl rfl)) (ea_cons (ev_power_of_x T r3 (ev_var 2 rfl rfl (Or.inl rfl)) (by omega)) ea_nil))) ⟨sums, f, pwr i, rfl, k1.1, k1.2, rfl⟩ rfl) (ev_zero L.g rfl)) (fun hc => ?_) (fun hc => ss_nil ⟨by omega, fun j hj => ?_, .val (.int (i : Int)), rfl⟩))
      · have hc : sqs sums f (pwr i) ≠ 0 := by
          intro z
          rw [show tot (wor sums (mulP f (pwr i))) = 0 from z] at hc
          cases hc
        have hbi := k2 hc
        subst hbi
        refine ss_one (st_ret (ev_tup (ds := [.str "nought", pl f, pl (pwr i)]) (ea_cons ev_str (ea_cons (ev_var 1 rfl rfl (Or.inl rfl)) (ea_cons (ev_power_of_x T r3 (ev_var 2 rfl rfl (Or.inl rfl)) (by omega)) ea_nil))) (by show 3 ≤ 1000; decide)) rfl)
      · rcases Nat.lt_or_eq_of_le (Nat.le_of_lt_succ hj) with h | h
        · exact hz j h
        · subst h
          have := hc
          simp only [Bool.not_eq_eq_eq_not, Bool.not_false, decide_eq_true_eq] at this
          exact this
    · rintro _ ⟨_, hz, x, rfl⟩
      rw [List.length_map, List.length_range] at hz
      cases hB with
      | none hn => rfl
      | @some k h1 h2 h3 h4 => exact absurd (hz k (by omega)) h4
    · rintro _ rfl
      exact ss_one (st_ret ev_non rfl)
end
end M66
/-! Gauss, flocks, back: the walk. -/
namespace M66
open PySem PySem.Spec PyProof.Rows L2

section
variable {X : Cx} {W : Wd} {p : Bool} {ρ : List Sl} {e ea eb : Expr} {d1 d2 : D} {ds : List D} {pos pos' : Pos} {Rt : Rv → List Sl → Prop}
/-- x[i], x[j] = pair: x an own list -/
theorem st_swap (i : Nat) {x : Str} {t1 t2 pos1 pos2 tpos : Pos} {kk : Nat} {n1 n2 : Int} {j1 j2 : Nat} (hi : ρ[i]? = some (.own ds)) (a : Ev X W true e ρ ρ (.tup [d1, d2])) (b1 : Ev X W true ea ρ ρ (.int n1)) (b2 : Ev X W true eb (ρ.set i (.own (ds.set j1 d1))) (ρ.set i (.own (ds.set j1 d1))) (.int n2)) (hj1 : ixN ds.length n1 = some j1) (hj2 : ixN ds.length n2 = some j2) (hc : X.calm = true) (hN : X.N[i]? = some x) (hv : Vis X.env.scope x)
    (hdd : (x == ("__debug__" : Str)) = false := by decide) (hcd : (x == ("__classdict__" : Str)) = false := by decide) (hs : swapsWithSole [.Tuple [.Subscript (.Name x pos1) ea t1, .Subscript (.Name x pos2) eb t2] kk tpos] e pos.line X.env = pure false := by rfl) (hw : swappedStores [.Tuple [.Subscript (.Name x pos1) ea t1, .Subscript (.Name x pos2) eb t2] kk tpos] e X.env = pure none := by rfl)
    (h1 : (assignEach [.Tuple [.Subscript (.Name x pos1) ea t1, .Subscript (.Name x pos2) eb t2] kk tpos] X.env).map (·.2) = [assign (.Tuple [.Subscript (.Name x pos1) ea t1, .Subscript (.Name x pos2) eb t2] kk tpos) X.env] := by rfl)
    (ha1 : ∀ v, assign (.Subscript (.Name x pos1) ea t1) X.env v = (do let ov ← holding [v] (eval (.Name x pos1) X.env); let iv ← holding [v, ov] (eval ea X.env); standAt t1; holding [v, ov, iv] (setItem ov iv v); release [v, ov, iv] []) := by intro _; rfl)
    (ha2 : ∀ v, assign (.Subscript (.Name x pos2) eb t2) X.env v = (do let ov ← holding [v] (eval (.Name x pos2) X.env); let iv ← holding [v, ov] (eval eb X.env); standAt t2; holding [v, ov, iv] (setItem ov iv v); release [v, ov, iv] []) := by intro _; rfl)
    (hst : (assignEach [.Subscript (.Name x pos1) ea t1, .Subscript (.Name x pos2) eb t2] X.env).findIdx? (·.1) = none := by rfl) (hn : (assignEach [.Subscript (.Name x pos1) ea t1, .Subscript (.Name x pos2) eb t2] X.env).length = 2 := by rfl)
    (hp1 : (assignEach [.Subscript (.Name x pos1) ea t1, .Subscript (.Name x pos2) eb t2] X.env).map (·.2) = assign (.Subscript (.Name x pos1) ea t1) X.env :: (assignEach [.Subscript (.Name x pos2) eb t2] X.env).map (·.2) := by rfl) (hp2 : (assignEach [.Subscript (.Name x pos2) eb t2] X.env).map (·.2) = assign (.Subscript (.Name x pos2) eb t2) X.env :: (assignEach [] X.env).map (·.2) := by rfl) :
    StD X W (.Assign [.Tuple [.Subscript (.Name x pos1) ea t1, .Subscript (.Name x pos2) eb t2] kk tpos] e pos) ρ (fun ρ' => ρ' = ρ.set i (.own ((ds.set j1 d1).set j2 d2))) Rt := fun O σ H E D w =>
  of_ps (ps_asg sem_pe (pg_tup hc (pgs_cons (pg_sub (pe_var hN hv hdd hcd) sem_pe set_list ha1) (pgs_cons (pg_sub (pe_var hN hv hdd hcd) sem_pe set_list ha2) pgs_nil hp2) hp1) hn hst) hs hw h1) (a O σ H E _ fun v H1 P1 q1 => by
    obtain ⟨T, us, rfl, hT, t⟩ := q1.tup_inv
    cases t with
    | cons g1 t =>
      cases t with
      | cons g2 t =>
        cases t
        refine ⟨T, _, rfl, hT, rfl, _, _, rfl, ?_⟩
        obtain ⟨l, vs, e1, o, hh, tt⟩ := own_now P1.env hi
        refine ⟨.ref l, e1, b1 O σ H1 P1.env _ fun y H2 P2 q2 => ?_⟩
        have s2 := (P2.pu rfl).2
        refine ⟨l, vs, n1, j1, rfl, q2.int_inv, s2 _ _ hh, by rw [tt.length]; exact hj1, ?_⟩
        obtain ⟨E', f⟩ := P2.env.change hi e1 (DvL.set (g1.same s2) j1 (tt.same s2))
        refine ⟨_, _, rfl, ?_⟩
        have hi2 : (ρ.set i (.own (ds.set j1 d1)))[i]? = some (.own (ds.set j1 d1)) := List.getElem?_set_self (List.getElem?_eq_some_iff.mp hi).1
        obtain ⟨l', vs', e1', o', hh', tt'⟩ := own_now E' hi2
        refine ⟨.ref l', e1', b2 O σ _ E' _ fun y H3 P3 q3 => ?_⟩
        have s3 := (P3.pu rfl).2
        refine ⟨l', vs', n2, j2, rfl, q3.int_inv, s3 _ _ hh', by rw [tt'.length, List.length_set]; exact hj2, ?_⟩
        obtain ⟨E'', f''⟩ := P3.env.change hi2 e1' (DvL.set ((((g2.same s2).fr f).same s3)) j2 (tt'.same s3))
        refine ⟨rfl, w.nx O σ _ _ ?_ E'' ((((P1.fr.trans P2.fr).trans f).trans P3.fr).trans f'')⟩
        rw [List.set_set])
end

theorem cutD_mid (ds : List D) (a b : Nat) (h : a ≤ b) (hb : b ≤ ds.length) : cutD ds (some (a : Int)) (some (b : Int)) = (ds.drop a).take (b - a) := by
  unfold cutD
  rw [HT.sIx_nat, HT.sIx_nat, Nat.min_eq_left hb, Nat.min_eq_left (Nat.le_trans h hb)]
theorem ixN_nat {n k : Nat} (h : k < n) : ixN n (k : Int) = some k := by
  unfold ixN
  rw [if_pos (by omega), if_pos (by omega), Int.toNat_natCast]
def rowsD (rows : List (List Rat)) : List D := rows.map pl
theorem rowsD_at {rows : List (List Rat)} {k : Nat} (h : k < rows.length) : atI (rowsD rows) (k : Int) = some (pl (rowAt rows k)) := atI_nat (by
  unfold rowsD rowAt
  rw [List.getElem?_map, List.getElem?_eq_getElem h, List.getD_eq_getElem?_getD, List.getElem?_eq_getElem h]
  rfl)
theorem rowsD_set (rows : List (List Rat)) (k : Nat) (r : List Rat) : (rowsD rows).set k (pl r) = rowsD (rows.set k r) := by
  unfold rowsD
  rw [List.map_set]
theorem rowsD_length (rows : List (List Rat)) : (rowsD rows).length = rows.length := List.length_map ..
theorem elim_length (rows : List (List Rat)) (p k : Nat) : (elim rows p k).length = rows.length := by
  unfold elim
  split
  · rfl
  · rw [List.length_set]
theorem elimTo_length (rows : List (List Rat)) (p : Nat) : ∀ k, (elimTo rows p k).length = rows.length
  | 0 => rfl
  | k + 1 => by rw [elimTo, elim_length, elimTo_length rows p k]
theorem gaus_length (rows : List (List Rat)) (p : Nat) : (gaus rows p).length = rows.length := by
  unfold gaus
  rw [elimTo_length, List.length_set]
theorem gausTo_length (rows : List (List Rat)) : ∀ p, (gausTo rows p).length = rows.length
  | 0 => rfl
  | p + 1 => by rw [gausTo, gaus_length, gausTo_length rows p]
theorem set_same {α : Type} (l : List α) (k : Nat) (d : α) (h : l[k]? = some d) : l.set k d = l := by
  apply List.ext_getElem?
  intro i
  by_cases hi : k = i
  · subst hi
    rw [List.getElem?_set_self (List.getElem?_eq_some_iff.mp h).1, h]
  · rw [List.getElem?_set_ne hi]

def rRowLess (as : List Ar) (d : D) : Prop := ∃ (r o : List Rat) (c : Rat), as = [.v (pl r), .v (pl o), .v (fr c)] ∧ RlOk r o c ∧ d = pl (rowLess r o c)
def rSolved (as : List Ar) (d : D) : Prop := ∃ rows : List (List Rat), as = [.v (.lst (rowsD rows))] ∧ SlvOk rows ∧ d = pl (slv rows)
def flD (w : List Rat × List Rat) : D := .tup [pl w.1, pl w.2]
def rFlockByRoots (as : List Ar) (d : D) : Prop := ∃ sums R : List Rat, as = [.v (pl sums), .v (pl R)] ∧ FbrOk sums R ∧ d = flD (fbr sums R)
def rFlockSums (as : List Ar) (d : D) : Prop := ∃ w : List Rat × List Rat, as = [.v (flD w), .v (.int 1)] ∧ FlsOk w ∧ d = .lst [fr (tot (flsL w))]
def rOpenRoots (as : List Ar) (d : D) : Prop := ∃ (sums : List Rat) (some : List Stp), as = [.v (pl sums), .v (.lst (stL some))] ∧ sums.length % 2 = 1 ∧ some.length ≤ 200 ∧ NstOk some 0 ∧ d = pl (nstep some 0)
def bkD : Bk → D
  | .below f => .tup [.str "below", pl f]
  | .nought f k => .tup [.str "nought", pl f, pl (pwr k)]
  | .flock w => .tup [.str "flock", flD w]
def rBack (as : List Ar) (d : D) : Prop := ∃ (sums : List Rat) (b : Bk), as = [.v (pl sums)] ∧ Back sums b ∧ d = bkD b
def rNeedFlock (as : List Ar) (d : D) : Prop := ∃ (sums : List Rat) (w : List Rat × List Rat), as = [.v (pl sums)] ∧ Back sums (.flock w) ∧ d = .non
def tsD (s : Stp) : D := if s.2 = 0 then pl s.1 else .non
def rTightStep (as : List Ar) (d : D) : Prop := ∃ (sums : List Rat) (some : List Stp), as = [.v (pl sums)] ∧ StsOk sums some ∧ d = tsD (lastS some)

abbrev sFlockSums : Stmt := topS 54
theorem scFlockSums : FnScope ["flock", "many", "roots", "weights", "powers", "place", "one", "k"] ["flock", "many"] (defScope sFlockSums) := ⟨rfl, rfl, rfl, by decide +kernel, rfl, by decide +kernel, by decide +kernel⟩
abbrev sSolved : Stmt := topS 64
theorem scSolved : FnScope ["rows", "left", "row", "place", "some", "k", "one"] ["rows"] (defScope sSolved) := ⟨rfl, rfl, rfl, by decide +kernel, rfl, by decide +kernel, by decide +kernel⟩
abbrev sRowLess : Stmt := topS 65
theorem scRowLess : FnScope ["row", "other", "by", "mine", "theirs"] ["row", "other", "by"] (defScope sRowLess) := ⟨rfl, rfl, rfl, by decide +kernel, rfl, by decide +kernel, by decide +kernel⟩
abbrev sFlockByRoots : Stmt := topS 66
theorem scFlockByRoots : FnScope ["sums", "roots", "degree", "powers", "rows", "k"] ["sums", "roots"] (defScope sFlockByRoots) := ⟨rfl, rfl, rfl, by decide +kernel, rfl, by decide +kernel, by decide +kernel⟩
abbrev sOpenRoots : Stmt := topS 67
theorem scOpenRoots : FnScope ["sums", "some"] ["sums", "some"] (defScope sOpenRoots) := ⟨rfl, rfl, rfl, by decide +kernel, rfl, by decide +kernel, by decide +kernel⟩
abbrev sBack : Stmt := topS 68
theorem scBack : FnScope ["sums", "some", "last", "square", "bar"] ["sums"] (defScope sBack) := ⟨rfl, rfl, rfl, by decide +kernel, rfl, by decide +kernel, by decide +kernel⟩
abbrev sNeedFlock : Stmt := topS 70
theorem scNeedFlock : FnScope ["sums"] ["sums"] (defScope sNeedFlock) := ⟨rfl, rfl, rfl, by decide +kernel, rfl, by decide +kernel, by decide +kernel⟩
abbrev sTightStep : Stmt := topS 71
theorem scTightStep : FnScope ["sums", "last", "square"] ["sums"] (defScope sTightStep) := ⟨rfl, rfl, rfl, by decide +kernel, rfl, by decide +kernel, by decide +kernel⟩

section
variable {P : Program} {w : World} {K : PySem.W.Frag} {mg : Str → Option Value} {base : Heap}
theorem ok_row_less {f : Addr} {fd : FuncData} (F : Fun K "row_less" "row_less" sRowLess f fd) (hb : Binds K fd ["row", "other", "by"] []) (hm : mg "row_less" = some (.ref f)) (L : Fra P w K mg base) : FnA P w K mg base 43 "row_less" ["row", "other", "by"] rRowLess := by
  refine fnA_mk F scRowLess hb hm (fun as d h => ?_) (by decide) (fun cdv A outer s H E W hW hr as d h => ?_)
  · obtain ⟨r, o, c, rfl, _⟩ := h
    rfl
  · obtain ⟨r, o, c, rfl, ⟨h1, h2, h3, h4, h5⟩, rfl⟩ := h
    have r2 : Room 42 _ := hr
    refine ss_one (st_ret (EvF.ev (LcOk.ef (lc_all (r.zip o) (fun z => D.tup [fr z.1, fr z.2]) (fun z => fr (z.1 - z.2 * c)) [("mine", 3), ("theirs", 4)] (ei_zip (ev_var 0 rfl rfl (Or.inl rfl)) (ev_var 1 rfl rfl (Or.inl rfl)) rfl L.g.zip) (wor_data o r) hW (blkOk_by (N := ["row", "other", "by", "mine", "theirs"]) (sc := defScope sRowLess) (by decide +kernel)) (by rw [List.length_zip]; omega) (by decide) (fun z hz => ⟨_, fun s H C cl fp => ⟨(eg_pair rfl (eg_name 3 scRowLess.nd rfl (Or.inl rfl) (.inl hW)) (eg_name 4 scRowLess.nd rfl (Or.inl rfl) (.inl hW))), (ev_minus L r2 (ev_var 3 rfl rfl (Or.inl rfl)) (ev_times L r2 (ev_var 4 rfl rfl (Or.inl rfl)) (ev_var 2 rfl rfl (Or.inr (Or.inl rfl))) ⟨h2 _ (List.of_mem_zip hz).2, h3⟩) ⟨h1 _ (List.of_mem_zip hz).1, h4 _ (List.of_mem_zip hz).2⟩)⟩⟩)) rfl scRowLess.nd)) ?_)
    unfold pl rowLess
    rw [List.map_map]
    rfl
theorem ok_solved {f : Addr} {fd : FuncData} (F : Fun K "solved" "solved" sSolved f fd) (hb : Binds K fd ["rows"] []) (hm : mg "solved" = some (.ref f)) (L : Fra P w K mg base) (f_rl : FnA P w K mg base 43 "row_less" ["row", "other", "by"] rRowLess) : FnA P w K mg base 44 "solved" ["rows"] rSolved := by
  refine fnA_mk F scSolved hb hm (fun as d h => ?_) (by decide) (fun cdv A outer s H E W hW hr as d h => ?_)
  · obtain ⟨rows, rfl, _⟩ := h
    rfl
  · obtain ⟨rows, rfl, ⟨h1, h2, h3⟩, rfl⟩ := h
    have r2 : Room 42 _ := hr.mono (by decide)
    have hrow : ∀ (r : List (List Rat)) (k i : Nat), i < (rowAt r k).length → atI ((rowAt r k).map fr) (i : Int) = some (fr (cf (rowAt r k) i)) := fun r k i h => atI_fr h
    refine ss_seq (st_own 1 (LcOk.ef (lc_all rows pl pl [("row", 2)] (ei_list (ev_var 0 rfl rfl (Or.inl rfl))) rfl hW (blkOk_by (N := ["rows", "left", "row", "place", "some", "k", "one"]) (sc := defScope sSolved) (by decide +kernel)) (by omega) (by decide) (fun x hx => ⟨_, fun s H C cl fp => ⟨(eg_name 2 scSolved.nd rfl (Or.inl rfl) (.inl hW)), (EvF.ev (ef_list (ev_var 2 rfl rfl (Or.inl rfl)) rfl L.g.list (by decide +kernel)))⟩⟩)) rfl scSolved.nd) scSolved.nd rfl (Or.inr rfl) (by show 1 < 7; decide) (.inl hW)) ?_
    refine ss_cons (M := fun ρ => ∃ x3 x4 x5, ρ = [.val (.lst (rowsD rows)), .own (rowsD (gausTo rows rows.length)), .un, x3, x4, x5, .un]) (st_for (fun i ρ => i ≤ rows.length ∧ ∃ x3 x4 x5, ρ = [.val (.lst (rowsD rows)), .own (rowsD (gausTo rows i)), .un, x3, x4, x5, .un]) (ei_range1 (n := (rows.length : Int)) (ea_cons (Ev.cast (ev_lenM 1 (ds := rowsD rows) (.inr (.inl rfl)) rfl (Or.inr (Or.inl rfl)) rfl L.g.len (by decide +kernel)) (by rw [rowsD_length])) ea_nil) rfl L.g.range (by omega) (by omega)) ⟨Nat.zero_le _, .un, .un, .un, rfl⟩ PassesOwn.never rfl ?_ ?_) ?_
    · rintro i d _ hi ⟨hle, x3, x4, x5, rfl⟩
      obtain ⟨hlt, rfl⟩ := get_rng hi
      have hp : i < rows.length := by omega
      obtain ⟨g0, g1, g2, g3, g4, g5⟩ := h2 i hp
      rw [gausTo_length] at g4 g5
      have hG := gausTo_length rows i
      generalize hGd : gausTo rows i = G at *
      refine ⟨_, _, eg_name 3 scSolved.nd rfl (Or.inr rfl) (.inl hW), ?_⟩
      refine ss_seq (st_setLc 4 (lc_if (List.range (rows.length - i)) (fun j => .int ((i : Int) + (j : Nat))) (fun j => !decide (cf (rowAt G (i + j)) i = 0)) (fun j => .int ((i : Int) + (j : Nat))) [("k", 5)] (ei_range2 (m := (i : Int)) (n := (rows.length : Int)) (ea_cons (ev_var 3 rfl rfl (Or.inr (Or.inl rfl))) (ea_cons (Ev.cast (ev_lenM 1 (ds := rowsD G) (.inr (.inl rfl)) rfl (Or.inr (Or.inl rfl)) rfl L.g.len (by decide +kernel)) (by rw [rowsD_length, hG])) ea_nil)) rfl L.g.range (by omega) (by omega) (by omega) (by omega)) (by rw [show ((rows.length : Int) - (i : Int)).toNat = rows.length - i by omega]) hW (blkOk_by (N := ["rows", "left", "row", "place", "some", "k", "one"]) (sc := defScope sSolved) (by decide +kernel)) (by rw [List.length_range]; omega) (by decide) (fun j hj => ⟨_, fun s H C cl fp => ⟨(eg_name 5 scSolved.nd rfl (Or.inl rfl) (.inl hW)), (et_neF r2 (ev_ixL (d := fr (cf (rowAt G (i + j)) i)) (ev_ixO 1 (ds := rowsD G) (d := pl (rowAt G (i + j))) (.inl rfl) (ev_var 5 rfl rfl (Or.inl rfl)) (by rw [show (i : Int) + (j : Nat) = ((i + j : Nat) : Int) by omega]; exact rowsD_at (by have := List.mem_range.mp hj; omega)) rfl (Or.inr (Or.inl rfl))) (ev_var 3 rfl rfl (Or.inr (Or.inl rfl))) (atI_fr (g4 (i + j) (by omega) (by have := List.mem_range.mp hj; omega)))) (ev_zero L.g rfl)), fun _ => (ev_var 5 rfl rfl (Or.inl rfl))⟩⟩)) rfl scSolved.nd rfl rfl (.inl hW) (sw_true rfl rfl rfl (by decide +kernel))) ?_
      obtain ⟨tl, htl⟩ : ∃ tl, ((List.range (rows.length - i)).filter fun j => !decide (cf (rowAt G (i + j)) i = 0)).map (fun j => D.int ((i : Int) + (j : Nat))) = .int (i : Int) :: tl := by
        obtain ⟨m, hm⟩ : ∃ m, rows.length - i = m + 1 := ⟨rows.length - i - 1, by omega⟩
        rw [hm, List.range_succ_eq_map, List.filter_cons, if_pos (by rw [Nat.add_zero, decide_eq_false g2]; rfl), List.map_cons]
        exact ⟨_, by rw [show (i : Int) + ((0 : Nat) : Int) = (i : Int) by omega]⟩
      rw [htl]
      have hatG : atI (rowsD G) (i : Int) = some (pl (rowAt G i)) := rowsD_at (by omega)
      have hix : ixN (rowsD G).length (i : Int) = some i := ixN_nat (by rw [rowsD_length, hG]; exact hp)
      have hGi : (rowsD G)[i]? = some (pl (rowAt G i)) := by
        unfold rowsD rowAt
        rw [List.getElem?_map, List.getElem?_eq_getElem (by omega), List.getD_eq_getElem?_getD, List.getElem?_eq_getElem (by omega)]
        rfl
      have hsame : (rowsD G).set i (pl (rowAt G i)) = rowsD G := set_same _ _ _ hGi
      refine ss_seq (ρ1 := [.val (.lst (rowsD rows)), .own (rowsD G), .un, .val (.int (i : Int)), .val (.lst (.int (i : Int) :: tl)), x5, .un]) (StD.imp (st_swap 1 (ds := rowsD G) (d1 := pl (rowAt G i)) (d2 := pl (rowAt G i)) (n1 := (i : Int)) (n2 := (i : Int)) (j1 := i) (j2 := i) rfl (ev_pair (ev_ixO 1 (.inl rfl) (ev_ixL (ev_var 4 rfl rfl (Or.inl rfl)) ev_int (atI_nat (j := 0) rfl)) hatG rfl (Or.inr (Or.inl rfl))) (ev_ixO 1 (.inl rfl) (ev_var 3 rfl rfl (Or.inr (Or.inl rfl))) hatG rfl (Or.inr (Or.inl rfl)))) (ev_var 3 rfl rfl (Or.inr (Or.inl rfl))) (ev_ixL (ev_var 4 rfl rfl (Or.inl rfl)) ev_int (atI_nat (j := 0) rfl)) hix hix rfl rfl (Or.inr (Or.inl rfl))) ?_ fun _ _ h => h) ?_
      · rintro _ rfl
        rw [hsame, hsame]
        rfl
      refine ss_seq (ρ1 := [.val (.lst (rowsD rows)), .own (rowsD (G.set i (pivRow G i))), .un, .val (.int (i : Int)), .val (.lst (.int (i : Int) :: tl)), x5, .un]) (StD.imp (st_item 1 (ds := rowsD G) (d := pl (pivRow G i)) rfl (Ev.cast (EvF.ev (LcOk.ef (lc_all (rowAt G i) fr (fun x => fr (x / cf (rowAt G i) i)) [("one", 6)] (ei_list (ev_ixO 1 (ds := rowsD G) (d := pl (rowAt G i)) (.inl rfl) (ev_var 3 rfl rfl (Or.inr (Or.inl rfl))) hatG rfl (Or.inr (Or.inl rfl)))) rfl hW (blkOk_by (N := ["rows", "left", "row", "place", "some", "k", "one"]) (sc := defScope sSolved) (by decide +kernel)) (by omega) (by decide) (fun x hx => ⟨_, fun s H C cl fp => ⟨(eg_name 6 scSolved.nd rfl (Or.inl rfl) (.inl hW)), (ev_over L r2 (ev_var 6 rfl rfl (Or.inl rfl)) (ev_ixL (d := fr (cf (rowAt G i) i)) (ev_ixO 1 (ds := rowsD G) (d := pl (rowAt G i)) (.inl rfl) (ev_var 3 rfl rfl (Or.inr (Or.inl rfl))) hatG rfl (Or.inr (Or.inl rfl))) (ev_var 3 rfl rfl (Or.inr (Or.inl rfl))) (atI_fr g1)) ⟨g3 x hx, sl_get g3 i, g2⟩)⟩⟩)) rfl scSolved.nd)) (by unfold pl pivRow; rw [List.map_map]; rfl)) (ev_var 3 rfl rfl (Or.inr (Or.inl rfl))) hix rfl (Or.inr (Or.inl rfl))) ?_ fun _ _ h => h) ?_
      · rintro _ rfl
        rw [rowsD_set]
        rfl
      have hG1 : (G.set i (pivRow G i)).length = rows.length := by rw [List.length_set, hG]
      generalize hG1d : G.set i (pivRow G i) = G1 at *
      refine ss_one (StD.imp (st_for (fun k ρ => k ≤ rows.length ∧ ∃ x5, ρ = [.val (.lst (rowsD rows)), .own (rowsD (elimTo G1 i k)), .un, .val (.int (i : Int)), .val (.lst (.int (i : Int) :: tl)), x5, .un]) (ei_range1 (n := (rows.length : Int)) (ea_cons (Ev.cast (ev_lenM 1 (ds := rowsD G1) (.inr (.inl rfl)) rfl (Or.inr (Or.inl rfl)) rfl L.g.len (by decide +kernel)) (by rw [rowsD_length, hG1])) ea_nil) rfl L.g.range (by omega) (by omega)) ⟨Nat.zero_le _, x5, rfl⟩ PassesOwn.never rfl ?_ (Nx := fun ρ => ∃ x5, ρ = [.val (.lst (rowsD rows)), .own (rowsD (elimTo G1 i rows.length)), .un, .val (.int (i : Int)), .val (.lst (.int (i : Int) :: tl)), x5, .un]) ?_) ?_ fun _ _ h => h)
      · rintro k d _ hk ⟨hkl, x5, rfl⟩
        obtain ⟨hkt, rfl⟩ := get_rng hk
        have hkr : k < rows.length := by omega
        have hE := elimTo_length G1 i k
        have hstep : elimTo G1 i (k + 1) = elim (elimTo G1 i k) i k := rfl
        refine ⟨_, _, eg_name 5 scSolved.nd rfl (Or.inl rfl) (.inl hW), ?_⟩
        refine ss_one (st_if (et_neI (ev_var 5 rfl rfl (Or.inl rfl)) (ev_var 3 rfl rfl (Or.inr (Or.inl rfl)))) (fun hc => ?_) (fun hc => ss_nil ⟨by omega, .val (.int (k : Int)), ?_⟩))
        · have hki : k ≠ i := by
            intro z
            subst z
            simp at hc
          obtain ⟨e1, e2⟩ := g5 k hkr hki
          have hatk : atI (rowsD (elimTo G1 i k)) (k : Int) = some (pl (rowAt (elimTo G1 i k) k)) := rowsD_at (by omega)
          have hati : atI (rowsD (elimTo G1 i k)) (i : Int) = some (pl (rowAt (elimTo G1 i k) i)) := rowsD_at (by omega)
          refine StD.imp (st_item 1 (ds := rowsD (elimTo G1 i k)) rfl (ev_call f_rl hr (ea_cons (ev_ixO 1 (.inl rfl) (ev_var 5 rfl rfl (Or.inl rfl)) hatk rfl (Or.inr (Or.inl rfl))) (ea_cons (ev_ixO 1 (.inl rfl) (ev_var 3 rfl rfl (Or.inr (Or.inl rfl))) hati rfl (Or.inr (Or.inl rfl))) (ea_cons (ev_ixL (d := fr (cf (rowAt (elimTo G1 i k) k) i)) (ev_ixO 1 (.inl rfl) (ev_var 5 rfl rfl (Or.inl rfl)) hatk rfl (Or.inr (Or.inl rfl))) (ev_var 3 rfl rfl (Or.inr (Or.inl rfl))) (atI_fr e1)) ea_nil))) ⟨_, _, _, rfl, e2, rfl⟩ rfl) (ev_var 5 rfl rfl (Or.inl rfl)) (j := k) (ixN_nat (by rw [rowsD_length]; omega)) rfl (Or.inr (Or.inl rfl))) ?_ (fun _ _ h => h) |> ss_one
          rintro _ rfl
          refine ⟨by omega, .val (.int (k : Int)), ?_⟩
          rw [rowsD_set, hstep]
          unfold elim
          rw [if_neg hki]
          rfl
        · have hki : k = i := by
            simp only [Bool.not_eq_eq_eq_not, Bool.not_false, decide_eq_true_eq] at hc
            omega
          rw [hstep]
          unfold elim
          rw [if_pos hki]
          rfl
      · rintro _ ⟨_, x5, rfl⟩
        refine ⟨x5, ?_⟩
        rw [List.length_map, List.length_range, Int.toNat_natCast]
      · rintro _ ⟨x5, rfl⟩
        refine ⟨by omega, .val (.int (i : Int)), .val (.lst (.int (i : Int) :: tl)), x5, ?_⟩
        rw [gausTo, hGd]
        unfold gaus
        rw [hG1d, hG]
    · rintro _ ⟨_, x3, x4, x5, rfl⟩
      refine ⟨x3, x4, x5, ?_⟩
      rw [List.length_map, List.length_range, Int.toNat_natCast]
    · rintro _ ⟨x3, x4, x5, rfl⟩
      refine ss_freeze 1 rfl (.inl hW) ?_
      refine ss_one (st_ret (EvF.ev (LcOk.ef (lc_all (gausTo rows rows.length) pl (fun r => fr (lst r)) [("row", 2)] (ei_list (ev_var 1 rfl rfl (Or.inr (Or.inl rfl)))) rfl hW (blkOk_by (N := ["rows", "left", "row", "place", "some", "k", "one"]) (sc := defScope sSolved) (by decide +kernel)) (by rw [gausTo_length]; omega) (by decide) (fun x hx => ⟨_, fun s H C cl fp => ⟨(eg_name 2 scSolved.nd rfl (Or.inl rfl) (.inl hW)), (ev_ixL (ev_var 2 rfl rfl (Or.inl rfl)) (ev_neg ev_int) (atI_last' (h3 x hx)))⟩⟩)) rfl scSolved.nd)) ?_)
      unfold pl slv
      rw [List.map_map]
      rfl
theorem Sts.len {sums : List Rat} : ∀ {n : Nat} {cur res : List Stp}, Sts sums cur res n → cur.length ≤ 100 → sums.length ≤ 200 → res.length ≤ 100 ∧ res ≠ []
  | _, _, _, .stop h _, hc, _ => ⟨hc, h⟩
  | _, _, _, .go _ _ h2 _ _ _ h, hc, hs => h.len (by rw [List.length_append]; show _ + 1 ≤ 100; omega) hs
theorem StsOk.len {sums : List Rat} {res : List Stp} (h : StsOk sums res) : res.length ≤ 100 ∧ res ≠ [] := let ⟨_, h1, _, h2⟩ := h; h2.len (by show 1 ≤ 100; decide) h1
theorem rpL_len' (R : List Rat) (n : Nat) (h : 0 < n) : (rpL R (n - 1)).length = n := by rw [rpL_length]; omega
theorem ok_flock_by_roots {f : Addr} {fd : FuncData} (F : Fun K "flock_by_roots" "flock_by_roots" sFlockByRoots f fd) (hb : Binds K fd ["sums", "roots"] []) (hm : mg "flock_by_roots" = some (.ref f)) (T : Pol P w K mg base)
    (f_rp : FnA P w K mg base 43 "root_powers" ["roots", "many"] rRootPowers) (f_solved : FnA P w K mg base 44 "solved" ["rows"] rSolved) : FnA P w K mg base 45 "flock_by_roots" ["sums", "roots"] rFlockByRoots := by
  refine fnA_mk F scFlockByRoots hb hm (fun as d h => ?_) (by decide) (fun cdv A outer s H E W hW hr as d h => ?_)
  · obtain ⟨sums, R, rfl, _⟩ := h
    rfl
  · obtain ⟨sums, R, rfl, ⟨h1, h2, h3, h4, h5⟩, rfl⟩ := h
    have L := T.L
    refine ss_seq (st_set 2 (Ev.cast (ev_sub (ev_len (.inl rfl) (ea_cons (ev_var 1 rfl rfl (Or.inl rfl)) ea_nil) rfl L.g.len (by decide +kernel)) ev_int) (d1 := .int ((R.length - 1 : Nat) : Int)) (by rw [len_pl]; congr 1; omega)) scFlockByRoots.nd rfl (Or.inl rfl) (.inl hW)) ?_
    generalize hdg : R.length - 1 = dg at *
    refine ss_seq (st_set 3 (ev_call f_rp (hr.mono (by decide)) (ea_cons (ev_var 1 rfl rfl (Or.inl rfl)) (ea_cons (Ev.cast (ev_mul ev_int (ev_var 2 rfl rfl (Or.inl rfl)) ⟨few_small (by decide), few_small (by omega)⟩) (d1 := .int ((2 * dg : Nat) : Int)) (by congr 1)) ea_nil)) ⟨R, 2 * dg, rfl, by omega, by omega, h3, rfl⟩ rfl) scFlockByRoots.nd rfl (Or.inl rfl) (.inl hW)) ?_
    refine ss_seq (st_own 4 (ef_lst (ds := []) ea_nil (by show 0 ≤ 1000; decide)) scFlockByRoots.nd rfl (Or.inl rfl) (by show 4 < 6; decide) (.inl hW)) ?_
    generalize hrow : (fun k => ((rpL R (2 * dg - 1)).drop k).take dg ++ [cf sums k]) = row
    have hrows : fbrRows sums R = (List.range dg).map row := by
      unfold fbrRows
      rw [hdg, hrow]
    refine ss_cons (M := fun ρ => ∃ x5, ρ = [.val (pl sums), .val (pl R), .val (.int (dg : Int)), .val (pl (rpL R (2 * dg - 1))), .own (rowsD (fbrRows sums R)), x5]) (st_for (fun i ρ => i ≤ dg ∧ ∃ x5, ρ = [.val (pl sums), .val (pl R), .val (.int (dg : Int)), .val (pl (rpL R (2 * dg - 1))), .own (rowsD ((List.range i).map row)), x5]) (ei_range1 (n := (dg : Int)) (ea_cons (ev_var 2 rfl rfl (Or.inl rfl)) ea_nil) rfl L.g.range (by omega) (by omega)) ⟨Nat.zero_le _, .un, rfl⟩ PassesOwn.never rfl ?_ ?_) ?_
    · rintro i d _ hi ⟨hle, x5, rfl⟩
      obtain ⟨hlt, rfl⟩ := get_rng hi
      have hid : i < dg := by omega
      have hpl : (rpL R (2 * dg - 1)).length = 2 * dg := rpL_len' R (2 * dg) (by omega)
      refine ⟨_, _, eg_name 5 scFlockByRoots.nd rfl (Or.inl rfl) (.inl hW), ?_⟩
      refine ss_one (StD.imp (st_append 4 rfl ⟨_, rfl⟩ (EvF.ev (ef_cat (EvF.ev (ef_slice (ev_var 3 rfl rfl (Or.inl rfl)) (ep_some (ev_var 5 rfl rfl (Or.inl rfl))) (ep_some (ev_add (ev_var 5 rfl rfl (Or.inl rfl)) (ev_var 2 rfl rfl (Or.inl rfl)))))) (EvF.ev (ef_lst (ds := [fr (cf sums i)]) (ea_cons (ev_ixL (ev_var 0 rfl rfl (Or.inl rfl)) (ev_var 5 rfl rfl (Or.inl rfl)) (atI_fr (by omega))) ea_nil) (by show 1 ≤ 1000; decide))) (by
        rw [show (i : Int) + (dg : Int) = ((i + dg : Nat) : Int) by omega, cutD_mid _ _ _ (by omega) (by rw [List.length_map, hpl]; omega), List.length_take]
        show min _ _ + 1 ≤ _
        omega))) (by rw [rowsD_length, List.length_map, List.length_range]; omega) rfl (Or.inl rfl)) ?_ fun _ _ h => h)
      rintro _ rfl
      refine ⟨hid, .val (.int (i : Int)), ?_⟩
      have e : cutD ((rpL R (2 * dg - 1)).map fr) (some (i : Int)) (some ((i : Int) + (dg : Int))) ++ [fr (cf sums i)] = (row i).map fr := by
        rw [show (i : Int) + (dg : Int) = ((i + dg : Nat) : Int) by omega, cutD_mid _ _ _ (by omega) (by rw [List.length_map, hpl]; omega), ← hrow, List.map_append, List.map_take, List.map_drop, Nat.add_sub_cancel_left]
        rfl
      show [Sl.val (pl sums), .val (pl R), .val (.int (dg : Int)), .val (pl (rpL R (2 * dg - 1))), .own (rowsD ((List.range i).map row) ++ [.lst (cutD ((rpL R (2 * dg - 1)).map fr) (some (i : Int)) (some ((i : Int) + (dg : Int))) ++ [fr (cf sums i)])]), .val (.int (i : Int))] = _
      rw [e, List.range_succ, List.map_append]
      unfold rowsD
      rw [List.map_append]
      rfl
    · rintro _ ⟨_, x5, rfl⟩
      refine ⟨x5, ?_⟩
      rw [List.length_map, List.length_range, Int.toNat_natCast, hrows]
    · rintro _ ⟨x5, rfl⟩
      refine ss_freeze 4 rfl (.inl hW) ?_
      exact ss_one (st_ret (ev_pair (EvF.ev (ef_list (ev_var 1 rfl rfl (Or.inl rfl)) rfl L.g.list (by decide +kernel))) (ev_call T.clean (hr.mono (by decide)) (ea_cons (ev_call f_solved hr (ea_cons (ev_var 4 rfl rfl (Or.inl rfl)) ea_nil) ⟨fbrRows sums R, rfl, h5, rfl⟩ rfl) ea_nil) ⟨slv (fbrRows sums R), rfl, rfl⟩ rfl)) rfl)
theorem ok_open_roots {f : Addr} {fd : FuncData} (F : Fun K "open_roots" "open_roots" sOpenRoots f fd) (hb : Binds K fd ["sums", "some"] []) (hm : mg "open_roots" = some (.ref f)) (L : Fra P w K mg base) (f_next : FnA P w K mg base 45 "next_step" ["some", "turn"] rNextStep) : FnA P w K mg base 46 "open_roots" ["sums", "some"] rOpenRoots := by
  refine fnA_mk F scOpenRoots hb hm (fun as d h => ?_) (by decide) (fun cdv A outer s H E W hW hr as d h => ?_)
  · obtain ⟨sums, some, rfl, _⟩ := h
    rfl
  · obtain ⟨sums, some, rfl, h1, h2, h3, rfl⟩ := h
    refine ss_cons (M := fun ρ => ρ = [.val (pl sums), .val (.lst (stL some))]) (st_if (et_eqI (ev_mod (ev_len (.inl rfl) (ea_cons (ev_var 0 rfl rfl (Or.inl rfl)) ea_nil) rfl L.g.len (by decide +kernel)) ev_int (by decide)) ev_int) (fun hc => ?_) (fun hc => ss_nil rfl)) ?_
    · have hc := of_decide_eq_true hc
      rw [len_pl, Int.fmod_eq_emod_of_nonneg _ (by decide)] at hc
      omega
    · rintro _ rfl
      exact ss_one (st_ret (ev_call f_next hr (ea_cons (ev_var 1 rfl rfl (Or.inl rfl)) (ea_cons (ev_zero L.g rfl) ea_nil)) ⟨some, 0, _, rfl, .inl rfl, h2, h3, rfl⟩ rfl) rfl)
theorem sgn_pos' {q : Rat} : decide ((0 : Int) < sgn q) = true ↔ 0 < q := by rw [sgn_pos, decide_eq_true_eq]
theorem sgn_neg' {q : Rat} : decide (sgn q < (0 : Int)) = true ↔ q < 0 := by rw [sgn_neg, decide_eq_true_eq]
theorem Back.last {sums : List Rat} {b : Bk} (h : Back sums b) : ∃ some, StsOk sums some := by cases h <;> exact ⟨_, ‹_›⟩
theorem ok_back {f : Addr} {fd : FuncData} (F : Fun K "back" "back" sBack f fd) (hb : Binds K fd ["sums"] []) (hm : mg "back" = some (.ref f)) (L : Fra P w K mg base)
    (f_steps : FnA P w K mg base 48 "steps" ["sums"] rSteps) (f_fbr : FnA P w K mg base 45 "flock_by_roots" ["sums", "roots"] rFlockByRoots) (f_open : FnA P w K mg base 46 "open_roots" ["sums", "some"] rOpenRoots) (f_bar : FnA P w K mg base 47 "nought_bar" ["sums", "f"] rNoughtBar) : FnA P w K mg base 49 "back" ["sums"] rBack := by
  refine fnA_mk F scBack hb hm (fun as d h => ?_) (by decide) (fun cdv A outer s H E W hW hr as d h => ?_)
  · obtain ⟨sums, b, rfl, _⟩ := h
    rfl
  · obtain ⟨sums, b, rfl, hB, rfl⟩ := h
    have r2 : Room 42 _ := hr.mono (by decide)
    obtain ⟨some, hS, hcase⟩ : ∃ some, StsOk sums some ∧ ((lastS some).2 < 0 ∧ b = .below (lastS some).1 ∨ 0 < (lastS some).2 ∧ sums.length % 2 = 1 ∧ NstOk some 0 ∧ FbrOk sums (nstep some 0) ∧ b = .flock (fbr sums (nstep some 0)) ∨
        (lastS some).2 = 0 ∧ (lastS some).1.length ≤ sums.length ∧ ((∃ k, Bar sums (lastS some).1 (Option.some k) ∧ b = .nought (lastS some).1 k) ∨ (Bar sums (lastS some).1 none ∧ FbrOk sums (lastS some).1 ∧ b = .flock (fbr sums (lastS some).1)))) := by
      cases hB with
      | below h1 h2 => exact ⟨_, h1, .inl ⟨h2, rfl⟩⟩
      | opn h1 h2 h3 h4 h5 => exact ⟨_, h1, .inr (.inl ⟨h2, h3, h4, h5, rfl⟩)⟩
      | bar h1 h2 h3 h4 => exact ⟨_, h1, .inr (.inr ⟨h2, h3, .inl ⟨_, h4, rfl⟩⟩)⟩
      | tight h1 h2 h3 h4 h5 => exact ⟨_, h1, .inr (.inr ⟨h2, h3, .inr ⟨h4, h5, rfl⟩⟩)⟩
    obtain ⟨hl, h0⟩ := hS.len
    have hs200 := hS.2.1
    refine ss_seq (st_set 1 (ev_call f_steps hr (ea_cons (ev_var 0 rfl rfl (Or.inl rfl)) ea_nil) ⟨sums, some, rfl, hS, rfl⟩ rfl) scBack.nd rfl (Or.inl rfl) (.inl hW)) ?_
    refine ss_seq (st_asg (ev_ixL (ev_var 1 rfl rfl (Or.inl rfl)) (ev_neg ev_int) (stL_last h0)) (eg_pair rfl (eg_name 2 scBack.nd rfl (Or.inl rfl) (.inl hW)) (eg_name 3 scBack.nd rfl (Or.inl rfl) (.inl hW)))) ?_
    have same : ∀ r : List Sl, r = [.val (pl sums), .val (.lst (stL some)), .val (pl (lastS some).1), .val (fr (lastS some).2), .un] → r = [.val (pl sums), .val (.lst (stL some)), .val (pl (lastS some).1), .val (fr (lastS some).2), .un] := fun _ h => h
    refine ss_cons (M := fun ρ => ¬ (lastS some).2 < 0 ∧ ρ = [.val (pl sums), .val (.lst (stL some)), .val (pl (lastS some).1), .val (fr (lastS some).2), .un]) (st_if (et_lt (ev_sign_of L r2 (ev_var 3 rfl rfl (Or.inl rfl))) ev_int) (fun hc => ?_) (fun hc => ss_nil ⟨fun z => ?_, rfl⟩)) ?_
    · have hc := sgn_neg'.mp hc
      have hb : b = .below (lastS some).1 := by
        rcases hcase with h | h | h
        · exact h.2
        · exact absurd h.1 (by grind)
        · exact absurd h.1 (by grind)
      subst hb
      exact ss_one (st_ret (ev_pair ev_str (ev_var 2 rfl rfl (Or.inl rfl))) rfl)
    · rw [sgn_neg'.mpr z] at hc
      cases hc
    · rintro _ ⟨hn, rfl⟩
      have hcase := hcase.resolve_left fun z => hn z.1
      refine ss_cons (M := fun ρ => ¬ 0 < (lastS some).2 ∧ ρ = [.val (pl sums), .val (.lst (stL some)), .val (pl (lastS some).1), .val (fr (lastS some).2), .un]) (st_if (et_gt (ev_sign_of L r2 (ev_var 3 rfl rfl (Or.inl rfl))) ev_int) (fun hc => ?_) (fun hc => ss_nil ⟨fun z => ?_, rfl⟩)) ?_
      · have hc := sgn_pos'.mp hc
        obtain ⟨_, k1, k2, k3, rfl⟩ := hcase.resolve_right fun z => by
          have := z.1
          grind
        exact ss_one (st_ret (ev_pair ev_str (ev_call f_fbr (hr.mono (by decide)) (ea_cons (ev_var 0 rfl rfl (Or.inl rfl)) (ea_cons (ev_call f_open (hr.mono (by decide)) (ea_cons (ev_var 0 rfl rfl (Or.inl rfl)) (ea_cons (ev_var 1 rfl rfl (Or.inl rfl)) ea_nil)) ⟨sums, some, rfl, k1, by omega, k2, rfl⟩ rfl) ea_nil)) ⟨sums, nstep some 0, rfl, k3, rfl⟩ rfl)) rfl)
      · rw [sgn_pos'.mpr z] at hc
        cases hc
      · rintro _ ⟨hn2, rfl⟩
        obtain ⟨hz, hll, hcase⟩ := hcase.resolve_left fun z => hn2 z.1
        rcases hcase with ⟨k, hbar, rfl⟩ | ⟨hbar, hfb, rfl⟩
        · refine ss_seq (st_set 4 (ev_call f_bar (hr.mono (by decide)) (ea_cons (ev_var 0 rfl rfl (Or.inl rfl)) (ea_cons (ev_var 2 rfl rfl (Or.inl rfl)) ea_nil)) ⟨sums, (lastS some).1, _, rfl, hll, hs200, hbar, rfl⟩ rfl) scBack.nd rfl (Or.inl rfl) (.inl hW)) ?_
          refine ss_cons (M := fun _ => False) (st_if (c := true) (et_notN (ev_var (d := barD (lastS some).1 (Option.some k)) 4 rfl rfl (Or.inl rfl))) (fun _ => ss_one (st_ret (ev_var 4 rfl rfl (Or.inl rfl)) rfl)) (fun z => nomatch z)) (fun _ z => z.elim)
        · refine ss_seq (st_set 4 (ev_call f_bar (hr.mono (by decide)) (ea_cons (ev_var 0 rfl rfl (Or.inl rfl)) (ea_cons (ev_var 2 rfl rfl (Or.inl rfl)) ea_nil)) ⟨sums, (lastS some).1, _, rfl, hll, hs200, hbar, rfl⟩ rfl) scBack.nd rfl (Or.inl rfl) (.inl hW)) ?_
          refine ss_seq (st_if (c := false) (et_notN (ev_var (d := barD (lastS some).1 none) 4 rfl rfl (Or.inl rfl))) (fun z => nomatch z) (fun _ => ss_nil rfl)) ?_
          exact ss_one (st_ret (ev_pair ev_str (ev_call f_fbr (hr.mono (by decide)) (ea_cons (ev_var 0 rfl rfl (Or.inl rfl)) (ea_cons (ev_var 2 rfl rfl (Or.inl rfl)) ea_nil)) ⟨sums, (lastS some).1, rfl, hfb, rfl⟩ rfl)) rfl)
theorem ok_need_flock {f : Addr} {fd : FuncData} (F : Fun K "need_flock" "need_flock" sNeedFlock f fd) (hb : Binds K fd ["sums"] []) (hm : mg "need_flock" = some (.ref f)) (f_back : FnA P w K mg base 49 "back" ["sums"] rBack) : FnA P w K mg base 50 "need_flock" ["sums"] rNeedFlock := by
  refine fnA_mk F scNeedFlock hb hm (fun as d h => ?_) (by decide) (fun cdv A outer s H E W hW hr as d h => ?_)
  · obtain ⟨sums, w, rfl, _⟩ := h
    rfl
  · obtain ⟨sums, w, rfl, h, rfl⟩ := h
    exact ss_one (st_if (c := false) (et_neS (x := "flock") (y := "flock") (ev_ixT (ds := [.str "flock", flD w]) (ev_call f_back hr (ea_cons (ev_var 0 rfl rfl (Or.inl rfl)) ea_nil) ⟨sums, _, rfl, h, rfl⟩ rfl) ev_int rfl) ev_str) (fun z => nomatch z) (fun _ => ss_nil rfl))
theorem ok_tight_step {f : Addr} {fd : FuncData} (F : Fun K "tight_step" "tight_step" sTightStep f fd) (hb : Binds K fd ["sums"] []) (hm : mg "tight_step" = some (.ref f)) (g : Gl0 P K mg base) (f_steps : FnA P w K mg base 48 "steps" ["sums"] rSteps) : FnA P w K mg base 49 "tight_step" ["sums"] rTightStep := by
  refine fnA_mk F scTightStep hb hm (fun as d h => ?_) (by decide) (fun cdv A outer s H E W hW hr as d h => ?_)
  · obtain ⟨sums, some, rfl, _⟩ := h
    rfl
  · obtain ⟨sums, some, rfl, hS, rfl⟩ := h
    obtain ⟨hl, h0⟩ := hS.len
    have r2 : Room 42 _ := hr.mono (by decide)
    refine ss_seq (st_asg (ev_ixL (ev_call f_steps hr (ea_cons (ev_var 0 rfl rfl (Or.inl rfl)) ea_nil) ⟨sums, some, rfl, hS, rfl⟩ rfl) (ev_neg ev_int) (stL_last h0)) (eg_pair rfl (eg_name 1 scTightStep.nd rfl (Or.inl rfl) (.inl hW)) (eg_name 2 scTightStep.nd rfl (Or.inl rfl) (.inl hW)))) ?_
    refine ss_cons (M := fun ρ => ¬ (lastS some).2 = 0) (st_if (et_eqF r2 (ev_var 2 rfl rfl (Or.inl rfl)) (ev_zero g rfl)) (fun hc => ?_) (fun hc => ss_nil (of_decide_eq_false hc))) ?_
    · refine ss_one (st_ret (ev_var 1 rfl rfl (Or.inl rfl)) ?_)
      unfold tsD
      rw [if_pos (of_decide_eq_true hc)]
    · rintro ρ hc
      refine ss_one (st_ret ev_non ?_)
      unfold tsD
      rw [if_neg hc]
end
end M66
/-! Spots: the walk. -/
namespace M66
open PySem PySem.Spec PyProof.Rows L2

/-- the defs of back -/
structure Bac (P : Program) (w : World) (K : PySem.W.Frag) (mg : Str → Option Value) (base : Heap) : Prop where
  C : Cha P w K mg base
  rootPowers : FnA P w K mg base 43 "root_powers" ["roots", "many"] rRootPowers
  nextStep : FnA P w K mg base 45 "next_step" ["some", "turn"] rNextStep
  steps : FnA P w K mg base 48 "steps" ["sums"] rSteps
  fbr : FnA P w K mg base 45 "flock_by_roots" ["sums", "roots"] rFlockByRoots
  back : FnA P w K mg base 49 "back" ["sums"] rBack
  needFlock : FnA P w K mg base 50 "need_flock" ["sums"] rNeedFlock
  tightStep : FnA P w K mg base 49 "tight_step" ["sums"] rTightStep
  stretches : FnA P w K mg base 50 "stretches" ["f", "width"] rStretches

def flDo : Option (List Rat × List Rat) → D
  | none => .non
  | some w => flD w
def rFlockAt (as : List Ar) (d : D) : Prop := ∃ (sums : List Rat) (a : Rat) (r : Option (List Rat × List Rat)), as = [.v (pl sums), .v (fr a)] ∧ FlAt sums a r ∧ d = flDo r
def rLeastSquare (as : List Ar) (d : D) : Prop := ∃ (sums : List Rat) (a n : Rat) (f : List Rat), as = [.v (pl sums), .v (fr a)] ∧ LsAt sums a n f ∧ d = .tup [fr n, pl f]
def rShowsMost (as : List Ar) (d : D) : Prop := ∃ (sums : List Rat) (a n : Rat) (f : List Rat), as = [.v (pl sums), .v (fr a), .v (fr n), .v (pl f)] ∧ SmOk sums a f ∧ d = .bl (decide (ev f a = 1) && decide (sqs sums f f = n))
def rSteepest (as : List Ar) (d : D) : Prop := ∃ (f : List Rat) (x : Rat), as = [.v (pl f), .v (fr x)] ∧ EvOk (f.map absR) x ∧ d = fr (ev (f.map absR) x)
def rWeightUpTo (as : List Ar) (d : D) : Prop := ∃ (w : List Rat × List Rat) (a width lo hi : Rat), as = [.v (flD w), .v (fr a), .v (fr width)] ∧ WuAt w a width lo hi ∧ d = .tup [fr lo, fr hi]

abbrev sFlockAt : Stmt := topS 73
theorem scFlockAt : FnScope ["sums", "spot", "some", "last", "square", "value", "turn"] ["sums", "spot"] (defScope sFlockAt) := ⟨rfl, rfl, rfl, by decide +kernel, rfl, by decide +kernel, by decide +kernel⟩
abbrev sLeastSquare : Stmt := topS 74
theorem scLeastSquare : FnScope ["sums", "spot", "last", "some", "value", "found", "f", "square", "number"] ["sums", "spot"] (defScope sLeastSquare) := ⟨rfl, rfl, rfl, by decide +kernel, rfl, by decide +kernel, by decide +kernel⟩
abbrev sShowsMost : Stmt := topS 75
theorem scShowsMost : FnScope ["sums", "spot", "number", "f"] ["sums", "spot", "number", "f"] (defScope sShowsMost) := ⟨rfl, rfl, rfl, by decide +kernel, rfl, by decide +kernel, by decide +kernel⟩
abbrev sSteepest : Stmt := topS 76
theorem scSteepest : FnScope ["f", "far", "found", "one"] ["f", "far"] (defScope sSteepest) := ⟨rfl, rfl, rfl, by decide +kernel, rfl, by decide +kernel, by decide +kernel⟩
abbrev sWeightUpTo : Stmt := topS 77
theorem scWeightUpTo : FnScope ["flock", "spot", "width", "roots", "weights", "many", "found", "steep", "wide", "ends", "low", "high", "end", "off"] ["flock", "spot", "width"] (defScope sWeightUpTo) := ⟨rfl, rfl, rfl, by decide +kernel, rfl, by decide +kernel, by decide +kernel⟩
/-- the block of flock_sums' outer list -/
def scK : Scope := match (defBody sFlockSums).getD 2 (.Pass ⟨0, 0, 0, 0⟩) with
  | .Return (some (.ListComp _ _ sc _)) _ => sc
  | _ => defScope sFlockSums

theorem Back.flock_len {sums : List Rat} {w : List Rat × List Rat} (h : Back sums (.flock w)) : sums.length ≤ 200 := let ⟨_, h⟩ := h.last; h.2.1
theorem fls_data (w : List Rat) : (w.map fr).zipIdx.map (fun z => D.tup [.int z.2, z.1]) = w.zipIdx.map (fun z => D.tup [.int (z.2 : Int), fr z.1]) := slp_data w
theorem stL_dropLast {some : List Stp} (h : some ≠ []) : cutD (stL some) none (Option.some (-1)) = stL some.dropLast := by
  have hl : 0 < some.length := List.length_pos_iff.mpr h
  have e : HT.sIx (stL some).length (stL some).length (Option.some (-1)) = some.length - 1 := by
    unfold stL
    rw [List.length_map]
    unfold HT.sIx
    simp
    omega
  unfold cutD
  rw [e, HT.sIx_none, List.drop_zero, Nat.sub_zero]
  unfold stL
  rw [← List.map_take, List.dropLast_eq_take]

section
variable {P : Program} {w : World} {K : PySem.W.Frag} {mg : Str → Option Value} {base : Heap}
theorem ok_flock_sums {f : Addr} {fd : FuncData} (F : Fun K "flock_sums" "flock_sums" sFlockSums f fd) (hb : Binds K fd ["flock", "many"] []) (hm : mg "flock_sums" = some (.ref f)) (T : Pol P w K mg base) (f_rp : FnA P w K mg base 43 "root_powers" ["roots", "many"] rRootPowers) : FnA P w K mg base 44 "flock_sums" ["flock", "many"] rFlockSums := by
  refine fnA_mk F scFlockSums hb hm (fun as d h => ?_) (by decide) (fun cdv A outer s H E W hW hr as d h => ?_)
  · obtain ⟨w, rfl, _⟩ := h
    rfl
  · obtain ⟨⟨R, wt⟩, rfl, ⟨h1, h2, h3, h4, h5, h6⟩, rfl⟩ := h
    have L := T.L
    have r2 : Room 42 _ := hr.mono (by decide)
    refine ss_seq (st_asg (ev_var 0 rfl rfl (Or.inl rfl)) (eg_pair rfl (eg_name 2 scFlockSums.nd rfl (Or.inl rfl) (.inl hW)) (eg_name 3 scFlockSums.nd rfl (Or.inr rfl) (.inl hW)))) ?_
    refine ss_seq (st_set 4 (ev_call f_rp (hr.mono (by decide)) (ea_cons (ev_var 2 rfl rfl (Or.inl rfl)) (ea_cons (Ev.cast (ev_add (ev_var 1 rfl rfl (Or.inl rfl)) (ev_len (.inl rfl) (ea_cons (ev_var 3 rfl rfl (Or.inr (Or.inl rfl))) ea_nil) rfl L.g.len (by decide +kernel))) (d1 := .int ((1 + wt.length : Nat) : Int)) (by rw [len_pl]; congr 1)) ea_nil)) ⟨R, 1 + wt.length, rfl, by omega, by have : wt.length ≤ 100 := h1; omega, h2, rfl⟩ rfl) scFlockSums.nd rfl (Or.inr rfl) (.inl hW)) ?_
    have hpl : (rpL R wt.length).length = wt.length + 1 := rpL_length R wt.length
    rw [show 1 + wt.length - 1 = wt.length by omega]
    refine ss_one (st_ret (EvF.ev (LcOk.ef (lc_all [0] (fun i : Nat => .int (i : Int)) (fun _ => fr (tot (flsL (R, wt)))) [("k", 7)] (ei_range1 (ea_cons (ev_var 1 rfl rfl (Or.inl rfl)) ea_nil) rfl L.g.range (by decide) (by decide)) rfl hW (blkOk_by (N := ["flock", "many", "roots", "weights", "powers", "place", "one", "k"]) (sc := defScope sFlockSums) (by decide +kernel)) (by decide) (by decide) (fun x hx => ⟨_, fun s H C cl fp => ⟨(eg_name 7 scFlockSums.nd rfl (Or.inr rfl) (.inl hW)), (ev_total T hr (Ev.cast (EvF.ev (LcOk.ef (lc_all wt.zipIdx (fun z => D.tup [.int (z.2 : Int), fr z.1]) (fun z => fr (z.1 * cf (rpL R wt.length) z.2)) [("place", 5), ("one", 6)] (ei_enum (ev_var 3 rfl rfl (Or.inr (Or.inl rfl))) rfl L.g.enumerate) (slp_data wt) hW (blkOk_by (N := ["flock", "many", "roots", "weights", "powers", "place", "one", "k"]) (sc := relS scK (defScope sFlockSums)) (by decide +kernel)) (by have : wt.length ≤ 100 := h1; rw [List.length_zipIdx]; omega) (by decide) (fun z hz => ⟨_, fun s H C cl fp => ⟨(eg_pair rfl (eg_name 5 scFlockSums.nd rfl (Or.inl rfl) (.inl hW)) (eg_name 6 scFlockSums.nd rfl (Or.inl rfl) (.inl hW))), (ev_times L r2 (ev_var 6 rfl rfl (Or.inl rfl)) (ev_ixL (ev_var 4 rfl rfl (Or.inr (Or.inl rfl))) (Ev.cast (ev_add (ev_var 7 rfl rfl (Or.inr (Or.inl rfl))) (ev_var 5 rfl rfl (Or.inl rfl))) (d1 := .int ((z.2 : Nat) : Int)) (by rw [List.mem_singleton.mp hx]; congr 1; omega)) (atI_fr (by have := (zipIdx_lt hz).1; omega))) ⟨h3 _ (zipIdx_lt hz).2, sl_get h4 _⟩)⟩⟩)) rfl scFlockSums.nd)) (d1 := pl (flsL (R, wt))) (by unfold pl flsL; rw [List.map_map]; rfl)) ⟨h5, h6⟩)⟩⟩)) rfl scFlockSums.nd)) ?_)
    rfl
theorem ok_flock_at {f : Addr} {fd : FuncData} (F : Fun K "flock_at" "flock_at" sFlockAt f fd) (hb : Binds K fd ["sums", "spot"] []) (hm : mg "flock_at" = some (.ref f)) (B : Bac P w K mg base) : FnA P w K mg base 51 "flock_at" ["sums", "spot"] rFlockAt := by
  refine fnA_mk F scFlockAt hb hm (fun as d h => ?_) (by decide) (fun cdv A outer s H E W hW hr as d h => ?_)
  · obtain ⟨sums, a, r, rfl, _⟩ := h
    rfl
  · obtain ⟨sums, a, r, rfl, hF, rfl⟩ := h
    have T := B.C.V.T
    have L := T.L
    have r2 : Room 42 _ := hr.mono (by decide)
    have r3 : Room 43 _ := hr.mono (by decide)
    obtain ⟨some, fw, hodd, hbk, hS, hev, hcase⟩ : ∃ some fw, sums.length % 2 = 1 ∧ Back sums (.flock fw) ∧ StsOk sums some ∧ EvOk (lastS some).1 a ∧ ((lastS some).2 = 0 ∧ ev (lastS some).1 a = 0 ∧ r = Option.some fw ∨ (lastS some).2 = 0 ∧ ev (lastS some).1 a ≠ 0 ∧ r = none ∨ (lastS some).2 ≠ 0 ∧ ev (lastS some).1 a = 0 ∧ r = none ∨
        (lastS some).2 ≠ 0 ∧ ev (lastS some).1 a ≠ 0 ∧ NstOk some 0 ∧ EvOk (nstep some 0) a ∧ S (ev (nstep some 0) a) ∧ S (ev (lastS some).1 a) ∧ NstOk some (ev (nstep some 0) a / ev (lastS some).1 a) ∧ FbrOk sums (nstep some (ev (nstep some 0) a / ev (lastS some).1 a)) ∧ r = Option.some (fbr sums (nstep some (ev (nstep some 0) a / ev (lastS some).1 a)))) := by
      cases hF with
      | tin h1 h2 h3 h4 h5 h6 => exact ⟨_, _, h1, h2, h3, h4, .inl ⟨h5, h6, rfl⟩⟩
      | tout h1 h2 h3 h4 h5 h6 => exact ⟨_, _, h1, h2, h3, h4, .inr (.inl ⟨h5, h6, rfl⟩)⟩
      | no h1 h2 h3 h4 h5 h6 => exact ⟨_, _, h1, h2, h3, h4, .inr (.inr (.inl ⟨h5, h6, rfl⟩))⟩
      | opn h1 h2 h3 h4 h5 h6 h7 h8 h9 h10 h11 h12 => exact ⟨_, _, h1, h2, h3, h4, .inr (.inr (.inr ⟨h5, h6, h7, h8, h9, h10, h11, h12, rfl⟩))⟩
    obtain ⟨hl, h0⟩ := hS.len
    refine ss_seq (st_if (et_eqI (ev_mod (ev_len (.inl rfl) (ea_cons (ev_var 0 rfl rfl (Or.inl rfl)) ea_nil) rfl L.g.len (by decide +kernel)) ev_int (by decide)) ev_int) (fun hc => ?_) (fun hc => ss_nil rfl)) ?_
    · have hc := of_decide_eq_true hc
      rw [len_pl, Int.fmod_eq_emod_of_nonneg _ (by decide)] at hc
      omega
    refine ss_seq (st_expr (ev_call B.needFlock hr (ea_cons (ev_var 0 rfl rfl (Or.inl rfl)) ea_nil) ⟨sums, fw, rfl, hbk, rfl⟩ rfl)) ?_
    refine ss_seq (st_set 2 (ev_call B.steps (hr.mono (by decide)) (ea_cons (ev_var 0 rfl rfl (Or.inl rfl)) ea_nil) ⟨sums, some, rfl, hS, rfl⟩ rfl) scFlockAt.nd rfl (Or.inl rfl) (.inl hW)) ?_
    refine ss_seq (st_asg (ev_ixL (ev_var 2 rfl rfl (Or.inl rfl)) (ev_neg ev_int) (stL_last h0)) (eg_pair rfl (eg_name 3 scFlockAt.nd rfl (Or.inl rfl) (.inl hW)) (eg_name 4 scFlockAt.nd rfl (Or.inl rfl) (.inl hW)))) ?_
    refine ss_seq (st_set 5 (ev_number_at T r3 (ev_var 3 rfl rfl (Or.inl rfl)) (ev_var 1 rfl rfl (Or.inl rfl)) hev) scFlockAt.nd rfl (Or.inl rfl) (.inl hW)) ?_
    refine ss_cons (M := fun ρ => (lastS some).2 ≠ 0 ∧ ρ = [.val (pl sums), .val (fr a), .val (.lst (stL some)), .val (pl (lastS some).1), .val (fr (lastS some).2), .val (fr (ev (lastS some).1 a)), .un]) (st_if (et_eqF r2 (ev_var 4 rfl rfl (Or.inl rfl)) (ev_zero L.g rfl)) (fun hc => ?_) (fun hc => ss_nil ⟨of_decide_eq_false hc, rfl⟩)) ?_
    · have hz := of_decide_eq_true hc
      refine ss_cons (M := fun ρ => ev (lastS some).1 a ≠ 0) (st_if (et_eqF r2 (ev_var 5 rfl rfl (Or.inl rfl)) (ev_zero L.g rfl)) (fun hc => ?_) (fun hc => ss_nil (of_decide_eq_false hc))) ?_
      · have he := of_decide_eq_true hc
        have hrr : r = Option.some fw := by
          rcases hcase with h | h | h | h
          · exact h.2.2
          · exact absurd he h.2.1
          · exact absurd hz h.1
          · exact absurd hz h.1
        subst hrr
        exact ss_one (st_ret (ev_ixT (ds := [.str "flock", flD fw]) (ev_call B.back (hr.mono (by decide)) (ea_cons (ev_var 0 rfl rfl (Or.inl rfl)) ea_nil) ⟨sums, _, rfl, hbk, rfl⟩ rfl) ev_int rfl) rfl)
      · rintro ρ he
        have hrr : r = none := by
          rcases hcase with h | h | h | h
          · exact absurd h.2.1 he
          · exact h.2.2
          · exact absurd hz h.1
          · exact absurd hz h.1
        subst hrr
        exact ss_one (st_ret ev_non rfl)
    · rintro _ ⟨hz, rfl⟩
      refine ss_cons (M := fun ρ => ev (lastS some).1 a ≠ 0 ∧ ρ = [.val (pl sums), .val (fr a), .val (.lst (stL some)), .val (pl (lastS some).1), .val (fr (lastS some).2), .val (fr (ev (lastS some).1 a)), .un]) (st_if (et_eqF r2 (ev_var 5 rfl rfl (Or.inl rfl)) (ev_zero L.g rfl)) (fun hc => ?_) (fun hc => ss_nil ⟨of_decide_eq_false hc, rfl⟩)) ?_
      · have he := of_decide_eq_true hc
        have hrr : r = none := by
          rcases hcase with h | h | h | h
          · exact absurd h.1 hz
          · exact absurd h.1 hz
          · exact h.2.2
          · exact absurd he h.2.1
        subst hrr
        exact ss_one (st_ret ev_non rfl)
      · rintro _ ⟨he, rfl⟩
        obtain ⟨_, _, k1, k2, k3, k4, k5, k6, rfl⟩ := ((hcase.resolve_left fun z => hz z.1).resolve_left fun z => hz z.1).resolve_left fun z => he z.2.1
        refine ss_seq (st_set 6 (ev_over L r2 (ev_number_at T r3 (ev_call B.nextStep (hr.mono (by decide)) (ea_cons (ev_var 2 rfl rfl (Or.inl rfl)) (ea_cons (ev_zero L.g rfl) ea_nil)) ⟨some, 0, _, rfl, .inl rfl, by omega, k1, rfl⟩ rfl) (ev_var 1 rfl rfl (Or.inl rfl)) k2) (ev_var 5 rfl rfl (Or.inl rfl)) ⟨k3, k4, he⟩) scFlockAt.nd rfl (Or.inl rfl) (.inl hW)) ?_
        exact ss_one (st_ret (ev_call B.fbr (hr.mono (by decide)) (ea_cons (ev_var 0 rfl rfl (Or.inl rfl)) (ea_cons (ev_call B.nextStep (hr.mono (by decide)) (ea_cons (ev_var 2 rfl rfl (Or.inl rfl)) (ea_cons (ev_var 6 rfl rfl (Or.inl rfl)) ea_nil)) ⟨some, _, _, rfl, .inl rfl, by omega, k5, rfl⟩ rfl) ea_nil)) ⟨sums, _, rfl, k6, rfl⟩ rfl) rfl)
theorem ok_shows_most {f : Addr} {fd : FuncData} (F : Fun K "shows_most" "shows_most" sShowsMost f fd) (hb : Binds K fd ["sums", "spot", "number", "f"] []) (hm : mg "shows_most" = some (.ref f)) (B : Bac P w K mg base) : FnA P w K mg base 51 "shows_most" ["sums", "spot", "number", "f"] rShowsMost := by
  refine fnA_mk F scShowsMost hb hm (fun as d h => ?_) (by decide) (fun cdv A outer s H E W hW hr as d h => ?_)
  · obtain ⟨sums, a, n, f, rfl, _⟩ := h
    rfl
  · obtain ⟨sums, a, n, f, rfl, ⟨⟨fw, h1⟩, h2, h3, h4, h5, h6, h7⟩, rfl⟩ := h
    have V := B.C.V
    have T := V.T
    have L := T.L
    have r2 : Room 42 _ := hr.mono (by decide)
    refine ss_seq (st_expr (ev_call B.needFlock hr (ea_cons (ev_var 0 rfl rfl (Or.inl rfl)) ea_nil) ⟨sums, fw, rfl, h1, rfl⟩ rfl)) ?_
    refine ss_seq (st_if (et_or3 (c := false) (k := false) (l := false) (et_not (c := true) (et_val (ev_call V.isFraction (hr.mono (by decide)) (ea_cons (ev_var 2 rfl rfl (Or.inl rfl)) ea_nil) ⟨n, rfl, rfl⟩ rfl))) (fun _ => (et_not (c := true) (et_val (ev_call V.isPolynomial (hr.mono (by decide)) (ea_cons (ev_var 3 rfl rfl (Or.inl rfl)) ea_nil) ⟨f, rfl, h2, h3, rfl⟩ rfl)))) (fun _ _ => (EvT.cast (et_gt (ev_sub (ev_mul ev_int (ev_len (.inl rfl) (ea_cons (ev_var 3 rfl rfl (Or.inl rfl)) ea_nil) rfl L.g.len (by decide +kernel)) ⟨few_small (by decide), few_small (by rw [len_pl]; omega)⟩) ev_int) (ev_len (.inl rfl) (ea_cons (ev_var 0 rfl rfl (Or.inl rfl)) ea_nil) rfl L.g.len (by decide +kernel))) (decide_eq_false (by rw [len_pl, len_pl]; omega))))) (fun hc => nomatch hc) (fun hc => ss_nil rfl)) ?_
    exact ss_one (st_ret (ev_and2 (ev_eqF r2 (ev_number_at T (hr.mono (by decide)) (ev_var 3 rfl rfl (Or.inl rfl)) (ev_var 1 rfl rfl (Or.inl rfl)) h6) (ev_one L.g rfl)) (fun _ => (ev_eqF r2 (ev_call V.squareSum (hr.mono (by decide)) (ea_cons (ev_var 0 rfl rfl (Or.inl rfl)) (ea_cons (ev_var 3 rfl rfl (Or.inl rfl)) (ea_cons (ev_var 3 rfl rfl (Or.inl rfl)) ea_nil))) ⟨sums, f, f, rfl, h7.1, h7.2, rfl⟩ rfl) (ev_var 2 rfl rfl (Or.inl rfl))))) rfl)
theorem ok_steepest {f : Addr} {fd : FuncData} (F : Fun K "steepest" "steepest" sSteepest f fd) (hb : Binds K fd ["f", "far"] []) (hm : mg "steepest" = some (.ref f)) (L : Fra P w K mg base) : FnA P w K mg base 43 "steepest" ["f", "far"] rSteepest := by
  refine fnA_mk F scSteepest hb hm (fun as d h => ?_) (by decide) (fun cdv A outer s H E W hW hr as d h => ?_)
  · obtain ⟨f, x, rfl, _⟩ := h
    rfl
  · obtain ⟨f, x, rfl, ⟨hf, hx, ho⟩, rfl⟩ := h
    have r2 : Room 42 _ := hr.mono (by decide)
    have hfl : (f.map absR).length = f.length := List.length_map ..
    refine ss_seq (st_set 2 (ev_zero L.g rfl) scSteepest.nd rfl (Or.inl rfl) (.inl hW)) ?_
    refine ss_cons (M := fun ρ => ∃ z, ρ = [.val (pl f), .val (fr x), .val (fr (ev (f.map absR) x)), z]) (st_for (fun i ρ => ∃ z, ρ = [.val (pl f), .val (fr x), .val (fr (ev ((f.map absR).drop (f.length - i)) x)), z]) (ei_rev (ev_var 0 rfl rfl (Or.inl rfl)) rfl L.g.reversed) ⟨.un, by rw [Nat.sub_zero, ← hfl, List.drop_length]; rfl⟩ PassesOwn.never rfl ?_ ?_) ?_
    · rintro i d _ hi ⟨z, rfl⟩
      rw [← List.map_reverse] at hi
      obtain ⟨c, hc, rfl⟩ := get_map hi
      have hlt : i < f.length := by
        have := (List.getElem?_eq_some_iff.mp hc).1
        rwa [List.length_reverse] at this
      have hc2 : (f.map absR).reverse[i]? = some (absR c) := by
        rw [← List.map_reverse, List.getElem?_map, hc]
        rfl
      have o := ho (f.length - i) (by omega) (by omega)
      refine ⟨_, _, eg_name 3 scSteepest.nd rfl (Or.inl rfl) (.inl hW), ?_⟩
      refine ss_one (StD.imp (st_set 2 (ev_plus L r2 (ev_times L r2 (ev_var 2 rfl rfl (Or.inl rfl)) (ev_var 1 rfl rfl (Or.inl rfl)) ⟨o.1, hx⟩) (Ev.cast (ev_pair (ev_callB call_abs rc_abs (ea_cons (ev_num (ev_var 3 rfl rfl (Or.inl rfl))) ea_nil) rfl L.g.abs (by decide +kernel)) (ev_den (ev_var 3 rfl rfl (Or.inl rfl)))) (absR_num c)) ⟨o.2, hf _ (List.mem_map_of_mem (List.mem_reverse.mp (List.mem_of_getElem? hc)))⟩) scSteepest.nd rfl (Or.inl rfl) (.inl hW)) ?_ fun _ _ h => h)
      rintro _ rfl
      refine ⟨.val (fr c), ?_⟩
      have := horner (x := x) hc2
      rw [hfl] at this
      rw [this]
      rfl
    · rintro _ ⟨z, rfl⟩
      refine ⟨z, ?_⟩
      rw [List.length_reverse, List.length_map, Nat.sub_self, List.drop_zero]
    · rintro _ ⟨z, rfl⟩
      exact ss_one (st_ret (ev_var 2 rfl rfl (Or.inl rfl)) rfl)
theorem ok_weight_up_to {f : Addr} {fd : FuncData} (F : Fun K "weight_up_to" "weight_up_to" sWeightUpTo f fd) (hb : Binds K fd ["flock", "spot", "width"] []) (hm : mg "weight_up_to" = some (.ref f)) (B : Bac P w K mg base)
    (f_fs : FnA P w K mg base 44 "flock_sums" ["flock", "many"] rFlockSums) (f_st : FnA P w K mg base 43 "steepest" ["f", "far"] rSteepest) : FnA P w K mg base 51 "weight_up_to" ["flock", "spot", "width"] rWeightUpTo := by
  refine fnA_mk F scWeightUpTo hb hm (fun as d h => ?_) (by decide) (fun cdv A outer s H E W hW hr as d h => ?_)
  · obtain ⟨w, a, width, lo, hi, rfl, _⟩ := h
    rfl
  · obtain ⟨⟨R, wt⟩, a, width, lo, hi, rfl, hWu, rfl⟩ := h
    have C := B.C
    have T := C.V.T
    have L := T.L
    have r2 : Room 42 _ := hr.mono (by decide)
    have r3 : Room 43 _ := hr.mono (by decide)
    obtain ⟨k, hH, hk, hk0⟩ : ∃ k : Nat, HmOk R (some a) ∧ btw (chainP (plainP R)) none (some a) = (k : Int) ∧ 0 < k := by
      cases hWu <;> exact ⟨_, ‹_›, ‹_›, ‹_›⟩
    obtain ⟨m1, m2, m3, m4, m5, m6, m7, m8⟩ := hH
    refine ss_seq (st_asg (ev_var 0 rfl rfl (Or.inl rfl)) (eg_pair rfl (eg_name 3 scWeightUpTo.nd rfl (Or.inl rfl) (.inl hW)) (eg_name 4 scWeightUpTo.nd rfl (Or.inr rfl) (.inl hW)))) ?_
    refine ss_seq (st_set 5 (Ev.cast (ev_call C.howMany (hr.mono (by decide)) (ea_cons (ev_var 3 rfl rfl (Or.inl rfl)) (ea_cons ev_non (ea_cons (ev_var 1 rfl rfl (Or.inl rfl)) ea_nil))) ⟨R, some a, rfl, m1, m2, m3, m4, m5, m6, m7, m8, rfl⟩ rfl) (congrArg D.int hk)) scWeightUpTo.nd rfl (Or.inl rfl) (.inl hW)) ?_
    cases hWu with
    | @all k' n1 n2 n3 n4 n5 =>
      obtain rfl : k = k' := by
        have := hk.symm.trans n2
        omega
      have n4' : k = R.length - 1 := n4
      refine ss_cons (M := fun _ => False) (st_if (c := true) (EvT.cast (et_or2 (et_eqI (ev_var 5 rfl rfl (Or.inl rfl)) ev_int) (fun _ => (et_eqI (ev_var 5 rfl rfl (Or.inl rfl)) (ev_sub (ev_len (.inl rfl) (ea_cons (ev_var 3 rfl rfl (Or.inl rfl)) ea_nil) rfl L.g.len (by decide +kernel)) ev_int)))) (by rw [len_pl, decide_eq_true (by omega : (k : Int) = (R.length : Int) - 1), Bool.or_true])) (fun _ => ?_) (fun z => nomatch z)) (fun _ z => z.elim)
      refine ss_seq (st_set 6 (ev_if (et_gt (ev_var 5 rfl rfl (Or.inl rfl)) ev_int) (fun _ => (ev_ixL (d := fr (tot (flsL (R, wt)))) (ev_call f_fs (hr.mono (by decide)) (ea_cons (ev_var 0 rfl rfl (Or.inl rfl)) (ea_cons ev_int ea_nil)) ⟨(R, wt), rfl, n5, rfl⟩ rfl) ev_int rfl)) (fun hc => absurd (of_decide_eq_false hc) (by omega))) scWeightUpTo.nd rfl (Or.inl rfl) (.inl hW)) ?_
      exact ss_one (st_ret (ev_pair (ev_var 6 rfl rfl (Or.inl rfl)) (ev_var 6 rfl rfl (Or.inl rfl))) rfl)
    | @part k' l n1 n2 n3 n4 n5 n6 n7 n8 n9 n10 n11 n12 n13 n14 n15 n16 n17 n18 n19 n20 n21 n22 n23 n24 =>
      obtain rfl : k = k' := by
        have := hk.symm.trans n2
        omega
      have n4' : k < R.length - 1 := n4
      have n5' : R.length ≤ 100 := n5
      refine ss_seq (st_if (c := false) (EvT.cast (et_or2 (et_eqI (ev_var 5 rfl rfl (Or.inl rfl)) ev_int) (fun _ => (et_eqI (ev_var 5 rfl rfl (Or.inl rfl)) (ev_sub (ev_len (.inl rfl) (ea_cons (ev_var 3 rfl rfl (Or.inl rfl)) ea_nil) rfl L.g.len (by decide +kernel)) ev_int)))) (by rw [len_pl, decide_eq_false (by omega : ¬ (k : Int) = (R.length : Int) - 1), decide_eq_false (by omega : ¬ (k : Int) = 0)]; rfl)) (fun z => nomatch z) (fun _ => ss_nil rfl)) ?_
      refine ss_seq (st_set 7 (ev_plus L r2 (ev_one L.g rfl) (ev_call f_st r3 (ea_cons (ev_slope T (hr.mono (by decide)) (ev_var 4 rfl rfl (Or.inr (Or.inl rfl))) ⟨n6, n7⟩) (ea_cons (ev_call C.bound (hr.mono (by decide)) (ea_cons (ev_var 3 rfl rfl (Or.inl rfl)) ea_nil) ⟨R, rfl, n8, rfl⟩ rfl) ea_nil)) ⟨slp wt, bnd R, rfl, n9, rfl⟩ rfl) ⟨S.one, n10⟩) scWeightUpTo.nd rfl (Or.inl rfl) (.inl hW)) ?_
      refine ss_seq (st_set 8 (ev_over L r2 (ev_var 2 rfl rfl (Or.inl rfl)) (ev_times (q := ((2 * k : Nat) : Rat)) (r := steepP (R, wt)) L r2 (Ev.cast (ev_pair (ev_mul ev_int (ev_var 5 rfl rfl (Or.inl rfl)) ⟨few_small (by decide), few_small (by omega)⟩) ev_int) (by rw [← fr_nat, show (2 : Int) * (k : Int) = ((2 * k : Nat) : Int) by omega])) (ev_var 7 rfl rfl (Or.inl rfl)) ⟨S.nat (nat_lt64 (by omega)), n11⟩) ⟨n13, n14, by
        have : (((2 * k : Nat) : Int) : Rat) ≠ 0 := by
          intro z
          have := Rat.intCast_inj.mp (z.trans Rat.intCast_zero.symm)
          omega
        have e : ((2 * k : Nat) : Rat) = (((2 * k : Nat) : Int) : Rat) := rfl
        rw [e]
        grind⟩) scWeightUpTo.nd rfl (Or.inl rfl) (.inl hW)) ?_
      refine ss_seq (st_set 9 (Ev.cast (EvF.ev (ef_slice (EvF.ev (LcOk.ef (lc_all l (fun z => prD z.2) (fun z => fr z.2.2) [("low", 10), ("high", 11)] (ei_list (ev_call B.stretches (hr.mono (by decide)) (ea_cons (ev_var 3 rfl rfl (Or.inl rfl)) (ea_cons (ev_var 8 rfl rfl (Or.inl rfl)) ea_nil)) ⟨R, wideP (R, wt) width k, l, rfl, m1, n15, n16, n17, n18, rfl⟩ rfl)) rfl hW (blkOk_by (N := ["flock", "spot", "width", "roots", "weights", "many", "found", "steep", "wide", "ends", "low", "high", "end", "off"]) (sc := defScope sWeightUpTo) (by decide +kernel)) (by omega) (by decide) (fun x hx => ⟨_, fun s H C cl fp => ⟨(eg_pair rfl (eg_name 10 scWeightUpTo.nd rfl (Or.inl rfl) (.inl hW)) (eg_name 11 scWeightUpTo.nd rfl (Or.inl rfl) (.inl hW))), (ev_var 11 rfl rfl (Or.inl rfl))⟩⟩)) rfl scWeightUpTo.nd)) ep_none (ep_some (ev_var 5 rfl rfl (Or.inl rfl))))) (d1 := pl (endsP l k)) (by
        rw [cutD_to]
        unfold pl endsP
        rw [← List.map_take, ← List.map_take, List.map_map]
        rfl)) scWeightUpTo.nd rfl (Or.inl rfl) (.inl hW)) ?_
      refine ss_seq (st_set 6 (ev_total (f := fndP (R, wt) l k) T r3 (Ev.cast (EvF.ev (LcOk.ef (lc_all (endsP l k) fr (fun e => fr (ev wt e)) [("end", 12)] (ei_list (ev_var 9 rfl rfl (Or.inl rfl))) rfl hW (blkOk_by (N := ["flock", "spot", "width", "roots", "weights", "many", "found", "steep", "wide", "ends", "low", "high", "end", "off"]) (sc := defScope sWeightUpTo) (by decide +kernel)) (by unfold endsP; rw [List.length_take, List.length_map]; omega) (by decide) (fun x hx => ⟨_, fun s H C cl fp => ⟨(eg_name 12 scWeightUpTo.nd rfl (Or.inl rfl) (.inl hW)), (ev_number_at T r3 (ev_var 4 rfl rfl (Or.inr (Or.inl rfl))) (ev_var 12 rfl rfl (Or.inl rfl)) (n19 x hx))⟩⟩)) rfl scWeightUpTo.nd)) (by unfold pl fndP; rw [List.map_map]; rfl)) ⟨n20, n21⟩) scWeightUpTo.nd rfl (Or.inl rfl) (.inl hW)) ?_
      refine ss_seq (st_set 13 (ev_times (q := (k : Rat)) (r := wideP (R, wt) width k * steepP (R, wt)) L r2 (ev_pair (ev_var 5 rfl rfl (Or.inl rfl)) ev_int) (ev_times L r2 (ev_var 8 rfl rfl (Or.inl rfl)) (ev_var 7 rfl rfl (Or.inl rfl)) ⟨n16, n11⟩) ⟨S.nat (nat_lt64 (by omega)), n23⟩) scWeightUpTo.nd rfl (Or.inl rfl) (.inl hW)) ?_
      exact ss_one (st_ret (ev_pair (ev_minus L r2 (ev_var 6 rfl rfl (Or.inl rfl)) (ev_var 13 rfl rfl (Or.inl rfl)) ⟨n22, n24⟩) (ev_plus L r2 (ev_var 6 rfl rfl (Or.inl rfl)) (ev_var 13 rfl rfl (Or.inl rfl)) ⟨n22, n24⟩)) rfl)
end
end M66
/-! The least square: the walk. -/
namespace M66
open PySem PySem.Spec PyProof.Rows L2
theorem lsF_snoc {a : Rat} {some : List Stp} {i : Nat} {s : Stp} (h : some[i]? = Option.some s) : lsF a (some.take (i + 1)) = addP (lsF a (some.take i)) (scl s.1 (ev s.1 a / s.2)) := by
  rw [take_snoc h]
  unfold lsF
  rw [List.foldl_append]
  rfl
theorem get_stL {some : List Stp} {i : Nat} {d : D} (h : (stL some)[i]? = Option.some d) : ∃ s, some[i]? = Option.some s ∧ d = stD s := by
  unfold stL at h
  rw [List.getElem?_map] at h
  cases e : some[i]? with
  | none =>
    rw [e] at h
    cases h
  | some c =>
    rw [e] at h
    cases h
    exact ⟨c, rfl, rfl⟩
section
variable {P : Program} {w : World} {K : PySem.W.Frag} {mg : Str → Option Value} {base : Heap}
theorem ok_least_square {f : Addr} {fd : FuncData} (F : Fun K "least_square" "least_square" sLeastSquare f fd) (hb : Binds K fd ["sums", "spot"] []) (hm : mg "least_square" = some (.ref f)) (B : Bac P w K mg base) : FnA P w K mg base 51 "least_square" ["sums", "spot"] rLeastSquare := by
  refine fnA_mk F scLeastSquare hb hm (fun as d h => ?_) (by decide) (fun cdv A outer s H E W hW hr as d h => ?_)
  · obtain ⟨sums, a, n, f, rfl, _⟩ := h
    rfl
  · obtain ⟨sums, a, n, f, rfl, hF, rfl⟩ := h
    have T := B.C.V.T
    have L := T.L
    have r2 : Room 42 _ := hr.mono (by decide)
    have r3 : Room 43 _ := hr.mono (by decide)
    have r4 : Room 44 _ := hr.mono (by decide)
    obtain ⟨some, fw, hbk, hS, hcase⟩ : ∃ some fw, Back sums (.flock fw) ∧ StsOk sums some ∧ ((lastS some).2 = 0 ∧ EvOk (lastS some).1 a ∧ S (ev (lastS some).1 a) ∧ ev (lastS some).1 a ≠ 0 ∧ (lastS some).1.length ≤ 1000 ∧ S (1 / ev (lastS some).1 a) ∧ n = 0 ∧ f = scl (lastS some).1 (1 / ev (lastS some).1 a) ∨
        (((lastS some).2 = 0 ∧ EvOk (lastS some).1 a ∧ ev (lastS some).1 a = 0 ∧ LsOk some.dropLast a ∧ n = lsN a some.dropLast ∧ f = lsP a some.dropLast) ∨ ((lastS some).2 ≠ 0 ∧ LsOk some a ∧ n = lsN a some ∧ f = lsP a some))) := by
      cases hF with
      | out h1 h2 h3 h4 h5 h6 h7 h8 => exact ⟨_, _, h1, h2, .inl ⟨h3, h4, h5, h6, h7, h8, rfl, rfl⟩⟩
      | inn h1 h2 h3 h4 h5 h6 => exact ⟨_, _, h1, h2, .inr (.inl ⟨h3, h4, h5, h6, rfl, rfl⟩)⟩
      | opn h1 h2 h3 h4 => exact ⟨_, _, h1, h2, .inr (.inr ⟨h3, h4, rfl, rfl⟩)⟩
    obtain ⟨hl, h0⟩ := hS.len
    refine ss_seq (st_expr (ev_call B.needFlock hr (ea_cons (ev_var 0 rfl rfl (Or.inl rfl)) ea_nil) ⟨sums, fw, rfl, hbk, rfl⟩ rfl)) ?_
    refine ss_seq (st_set 2 (ev_call B.tightStep (hr.mono (by decide)) (ea_cons (ev_var 0 rfl rfl (Or.inl rfl)) ea_nil) ⟨sums, some, rfl, hS, rfl⟩ rfl) scLeastSquare.nd rfl (Or.inl rfl) (.inl hW)) ?_
    refine ss_seq (st_set 3 (ev_call B.steps (hr.mono (by decide)) (ea_cons (ev_var 0 rfl rfl (Or.inl rfl)) ea_nil) ⟨sums, some, rfl, hS, rfl⟩ rfl) scLeastSquare.nd rfl (Or.inl rfl) (.inl hW)) ?_
    refine ss_cons (M := fun ρ => ∃ cur x2 x4, ρ = [.val (pl sums), .val (fr a), x2, .val (.lst (stL cur)), x4, .un, .un, .un, .un] ∧ LsOk cur a ∧ n = lsN a cur ∧ f = lsP a cur) (st_if (c := decide ((lastS some).2 = 0)) (EvT.cast (et_notN (ev_var 2 rfl rfl (Or.inl rfl))) (by
      unfold tsD
      by_cases h : (lastS some).2 = 0
      · rw [if_pos h, decide_eq_true h]; rfl
      · rw [if_neg h, decide_eq_false h]; rfl)) (fun hc => ?_) (fun hc => ss_nil ?_)) ?_
    · have hz := of_decide_eq_true hc
      have hts : tsD (lastS some) = pl (lastS some).1 := by
        unfold tsD
        rw [if_pos hz]
      have hev : EvOk (lastS some).1 a := by
        rcases hcase with h | h | h
        · exact h.2.1
        · exact h.2.1
        · exact absurd hz h.1
      rw [hts]
      refine ss_seq (st_set 4 (ev_number_at T r3 (ev_var 2 rfl rfl (Or.inl rfl)) (ev_var 1 rfl rfl (Or.inl rfl)) hev) scLeastSquare.nd rfl (Or.inl rfl) (.inl hW)) ?_
      refine ss_cons (M := fun ρ => ev (lastS some).1 a = 0 ∧ ρ = [.val (pl sums), .val (fr a), .val (pl (lastS some).1), .val (.lst (stL some)), .val (fr (ev (lastS some).1 a)), .un, .un, .un, .un]) (st_if (et_neF r2 (ev_var 4 rfl rfl (Or.inl rfl)) (ev_zero L.g rfl)) (fun hc => ?_) (fun hc => ss_nil ⟨by simpa using hc, rfl⟩)) ?_
      · have he : ev (lastS some).1 a ≠ 0 := by simpa using hc
        have hk := hcase.resolve_right fun z => by
          rcases z with z | z
          · exact he z.2.2.1
          · exact z.1 hz
        obtain ⟨_, k1, k2, k3, k4, k5, rfl, rfl⟩ := hk
        exact ss_one (st_ret (ev_pair (ev_zero L.g rfl) (ev_grown T r4 (ev_var 2 rfl rfl (Or.inl rfl)) (ev_over L r2 (ev_one L.g rfl) (ev_var 4 rfl rfl (Or.inl rfl)) ⟨S.one, k2, k3⟩) ⟨k1.1, k5, k4⟩)) rfl)
      · rintro _ ⟨he, rfl⟩
        obtain ⟨_, _, _, k1, k2, k3⟩ := (hcase.resolve_left fun z => z.2.2.2.1 he).resolve_right fun z => z.1 hz
        refine ss_one (StD.imp (st_set 3 (Ev.cast (EvF.ev (ef_slice (ev_var 3 rfl rfl (Or.inl rfl)) ep_none (ep_some (ev_neg ev_int)))) (congrArg D.lst (stL_dropLast h0))) scLeastSquare.nd rfl (Or.inl rfl) (.inl hW)) ?_ fun _ _ h => h)
        rintro _ rfl
        exact ⟨some.dropLast, _, _, rfl, k1, k2, k3⟩
    · have hz := of_decide_eq_false hc
      obtain ⟨_, k1, k2, k3⟩ := (hcase.resolve_left fun z => hz z.1).resolve_left fun z => hz z.1
      exact ⟨some, _, _, rfl, k1, k2, k3⟩
    · rintro _ ⟨cur, x2, x4, rfl, ⟨c1, c2, c3, c4, c5, c6⟩, rfl, rfl⟩
      refine ss_seq (st_set 5 (EvF.ev (ef_lst (ds := []) ea_nil (by show 0 ≤ 1000; decide))) scLeastSquare.nd rfl (Or.inl rfl) (.inl hW)) ?_
      refine ss_cons (M := fun ρ => ∃ x6 x7, ρ = [.val (pl sums), .val (fr a), x2, .val (.lst (stL cur)), x4, .val (pl (lsF a cur)), x6, x7, .un]) (st_for (fun i ρ => ∃ x6 x7, ρ = [.val (pl sums), .val (fr a), x2, .val (.lst (stL cur)), x4, .val (pl (lsF a (cur.take i))), x6, x7, .un]) (ei_list (ev_var 3 rfl rfl (Or.inl rfl))) ⟨.un, .un, rfl⟩ PassesOwn.never rfl ?_ ?_) ?_
      · rintro i d _ hi ⟨x6, x7, rfl⟩
        obtain ⟨s, hs, rfl⟩ := get_stL hi
        obtain ⟨k1, k2, k3, k4, k5, k6, k7, k8, k9, k10⟩ := c1 i s hs
        have hsl := scl_length s.1 (ev s.1 a / s.2)
        refine ⟨_, _, eg_pair rfl (eg_name 6 scLeastSquare.nd rfl (Or.inl rfl) (.inl hW)) (eg_name 7 scLeastSquare.nd rfl (Or.inl rfl) (.inl hW)), ?_⟩
        refine ss_one (StD.imp (st_set 5 (ev_summed T r4 (ev_var 5 rfl rfl (Or.inl rfl)) (ev_grown T r4 (ev_var 6 rfl rfl (Or.inl rfl)) (ev_over L r2 (ev_number_at T r3 (ev_var 6 rfl rfl (Or.inl rfl)) (ev_var 1 rfl rfl (Or.inl rfl)) k1) (ev_var 7 rfl rfl (Or.inl rfl)) ⟨k2, k3, k4⟩) ⟨k5, k7, k6⟩) ⟨k8, k10, k9, by omega⟩) scLeastSquare.nd rfl (Or.inl rfl) (.inl hW)) ?_ fun _ _ h => h)
        rintro _ rfl
        refine ⟨.val (pl s.1), .val (fr s.2), ?_⟩
        rw [lsF_snoc hs]
        rfl
      · rintro _ ⟨x6, x7, rfl⟩
        refine ⟨x6, x7, ?_⟩
        have : (stL cur).length = cur.length := List.length_map ..
        rw [this, List.take_of_length_le (Nat.le_refl _)]
      · rintro _ ⟨x6, x7, rfl⟩
        refine ss_seq (st_set 8 (ev_over L r2 (ev_one L.g rfl) (ev_number_at T r3 (ev_var 5 rfl rfl (Or.inl rfl)) (ev_var 1 rfl rfl (Or.inl rfl)) c2) ⟨S.one, c3, c4⟩) scLeastSquare.nd rfl (Or.inl rfl) (.inl hW)) ?_
        exact ss_one (st_ret (ev_pair (ev_var 8 rfl rfl (Or.inl rfl)) (ev_grown T r4 (ev_var 5 rfl rfl (Or.inl rfl)) (ev_var 8 rfl rfl (Or.inl rfl)) ⟨c2.1, c6, c5⟩)) rfl)
end
end M66
/-! The law's helpers: the walk. -/
namespace M66
open PySem PySem.Spec PyProof.Rows L2

abbrev lo2 : List Str := ["_law_one", "_law_other"]
abbrev sLawLess : Stmt := topS 79
theorem scLawLess : FnScope ["_law_one", "_law_other"] ["_law_one", "_law_other"] (defScope sLawLess) := ⟨rfl, rfl, rfl, by decide +kernel, rfl, by decide +kernel, by decide +kernel⟩
abbrev sLawDivisor : Stmt := topS 80
theorem scLawDivisor : FnScope ["_law_one", "_law_other"] ["_law_one", "_law_other"] (defScope sLawDivisor) := ⟨rfl, rfl, rfl, by decide +kernel, rfl, by decide +kernel, by decide +kernel⟩
abbrev sLawLow : Stmt := topS 81
theorem scLawLow : FnScope ["_law_top", "_law_bottom", "_law_by"] ["_law_top", "_law_bottom"] (defScope sLawLow) := ⟨rfl, rfl, rfl, by decide +kernel, rfl, by decide +kernel, by decide +kernel⟩
abbrev sLawPlus : Stmt := topS 82
theorem scLawPlus : FnScope ["_law_one", "_law_other"] ["_law_one", "_law_other"] (defScope sLawPlus) := ⟨rfl, rfl, rfl, by decide +kernel, rfl, by decide +kernel, by decide +kernel⟩
abbrev sLawMinus : Stmt := topS 83
theorem scLawMinus : FnScope ["_law_one", "_law_other"] ["_law_one", "_law_other"] (defScope sLawMinus) := ⟨rfl, rfl, rfl, by decide +kernel, rfl, by decide +kernel, by decide +kernel⟩
abbrev sLawTimes : Stmt := topS 84
theorem scLawTimes : FnScope ["_law_one", "_law_other"] ["_law_one", "_law_other"] (defScope sLawTimes) := ⟨rfl, rfl, rfl, by decide +kernel, rfl, by decide +kernel, by decide +kernel⟩
abbrev sLawCellAt : Stmt := topS 85
theorem scLawCellAt : FnScope ["_law_script", "_law_k"] ["_law_script", "_law_k"] (defScope sLawCellAt) := ⟨rfl, rfl, rfl, by decide +kernel, rfl, by decide +kernel, by decide +kernel⟩
abbrev sLawState : Stmt := topS 86
theorem scLawState : FnScope ["_law_script", "_law_k", "_law_cell"] ["_law_script", "_law_k"] (defScope sLawState) := ⟨rfl, rfl, rfl, by decide +kernel, rfl, by decide +kernel, by decide +kernel⟩
abbrev sLawTake : Stmt := topS 87
theorem scLawTake : FnScope ["_law_state_here", "_law_many", "_law_found", "_law_mixed"] ["_law_state_here", "_law_many"] (defScope sLawTake) := ⟨rfl, rfl, rfl, by decide +kernel, rfl, by decide +kernel, by decide +kernel⟩
abbrev sLawSmall : Stmt := topS 88
theorem scLawSmall : FnScope ["_law_state_here"] ["_law_state_here"] (defScope sLawSmall) := ⟨rfl, rfl, rfl, by decide +kernel, rfl, by decide +kernel, by decide +kernel⟩
abbrev sLawAbove : Stmt := topS 89
theorem scLawAbove : FnScope ["_law_state_here"] ["_law_state_here"] (defScope sLawAbove) := ⟨rfl, rfl, rfl, by decide +kernel, rfl, by decide +kernel, by decide +kernel⟩
abbrev sLawCrowd : Stmt := topS 90
theorem scLawCrowd : FnScope ["_law_state_here", "_law_most", "_law_found", "_law_spot", "_law_turn"] ["_law_state_here", "_law_most"] (defScope sLawCrowd) := ⟨rfl, rfl, rfl, by decide +kernel, rfl, by decide +kernel, by decide +kernel⟩
abbrev sLawSpotCrowd : Stmt := topS 91
theorem scLawSpotCrowd : FnScope ["_law_state_here", "_law_most", "_law_found"] ["_law_state_here", "_law_most"] (defScope sLawSpotCrowd) := ⟨rfl, rfl, rfl, by decide +kernel, rfl, by decide +kernel, by decide +kernel⟩

def rCellAt (as : List Ar) (d : D) : Prop := ∃ (ns : List Int) (k : Nat), as = [.v (.scr ns), .v (.int (k : Int))] ∧ d = .int (ns.getD k 0)
def stX (c : Int) : Int := if 1000000000000000000 ≤ c then c - 1000000000000000000 else c.fmod 2147483647
def stB (c : Int) : Bool := decide (1000000000000000000 ≤ c)
theorem stX_ok (c : Int) : StOk (stX c) (stB c) := by
  unfold StOk stX stB
  by_cases h : 1000000000000000000 ≤ c
  · exact .inl (decide_eq_true h)
  · rw [if_neg h]
    have := fmod_rng (x := c) (m := 2147483647) (by decide)
    exact .inr (by omega)
def rState (as : List D) (ds : List D) : Prop := ∃ (ns : List Int) (k : Nat), as = [.scr ns, .int (k : Int)] ∧ ds = stt (stX (ns.getD k 0)) (stB (ns.getD k 0))
def rTake : RM := fun x b as d x' => ∃ m : Int, as = [.int m] ∧ 0 < m ∧ m ≤ 1000 ∧ StOk x b ∧ d = .int (takeV x b m) ∧ x' = takeX x b m
def rSmall : RM := fun x b as d x' => as = [] ∧ StOk x b ∧ d = fr (smallV x b : Rat) ∧ x' = takeX x b 13
def rAbove : RM := fun x b as d x' => as = [] ∧ StOk x b ∧ d = fr (aboveV x b : Rat) ∧ x' = takeX x b 6
def prI (z : Int × Int) : D := prD ((z.1 : Rat), (z.2 : Rat))
def crD (C : ICr) : D := .lst (C.map prI)
def rCrowd : RM := fun x b as d x' => ∃ most : Nat, as = [.int (most : Int)] ∧ most ≤ 100 ∧ StOk x b ∧ d = crD (crowdP x b most).1 ∧ x' = (crowdP x b most).2
def rSpotCrowd : RM := fun x b as d x' => ∃ most : Nat, as = [.int (most : Int)] ∧ most ≤ 100 ∧ StOk x b ∧ d = crD (spotCrowd x b most).1 ∧ x' = (spotCrowd x b most).2

theorem fr_int (i : Int) : D.tup [.int i, .int 1] = fr (i : Rat) := rfl
theorem S.int {i : Int} (h : i.natAbs ≤ 1000000) : S (i : Rat) := (sz_int (i := i) (n := 64) (by decide) (Nat.lt_of_le_of_lt h (by decide))).s (by decide)
theorem few64 {i : Int} (h : i.natAbs < 2 ^ 64) : Few i := few_of h (by decide)
theorem sh_crD (C : ICr) : Sh (crD C) := (ShL.of (n := 2) fun d hd => by
  obtain ⟨z, _, rfl⟩ := List.mem_map.mp hd
  exact (ShL.cons (sh_fr _) (ShL.cons (sh_fr _) .nil)).tup).sh (by decide)
theorem stt0 (x : Int) (b : Bool) : atI (stt x b) 0 = some (.int x) := rfl
theorem stt1 (x : Int) (b : Bool) : atI (stt x b) 1 = some (.bl b) := rfl
theorem stt_ix (x : Int) (b : Bool) : ixN (stt x b).length 0 = some 0 := rfl
section
variable {P : Program} {w : World} {K : PySem.W.Frag} {mg : Str → Option Value} {base : Heap}
theorem ok_law_less {f : Addr} {fd : FuncData} (F : Fun K "_law_less" "_law_less" sLawLess f fd) (hb : Binds K fd ["_law_one", "_law_other"] []) (hm : mg "_law_less" = some (.ref f)) : FnA P w K mg base 42 "_law_less" ["_law_one", "_law_other"] rIsLess := by
  refine fnA_mk F scLawLess hb hm (fun as d h => ?_) (by decide) (fun cdv A outer s H E W hW hr as d h => ?_)
  · obtain ⟨a, b, rfl, _⟩ := h
    rfl
  · obtain ⟨p, q, rfl, ⟨hp, hq⟩, rfl⟩ := h
    refine ss_one (st_ret (ev_lt (ev_mul (ev_num (ev_var 0 rfl rfl (Or.inl rfl))) (ev_den (ev_var 1 rfl rfl (Or.inl rfl))) ⟨hp.num, hq.den⟩) (ev_mul (ev_num (ev_var 1 rfl rfl (Or.inl rfl))) (ev_den (ev_var 0 rfl rfl (Or.inl rfl))) ⟨hq.num, hp.den⟩)) ?_)
    show _ = Rv.d (D.bl (decide (p < q)))
    rw [show decide (p < q) = decide (p.num * (q.den : Int) < q.num * (p.den : Int)) by simp only [Rat.lt_iff]]
theorem ok_law_divisor {f : Addr} {fd : FuncData} (F : Fun K "_law_divisor" "_law_divisor" sLawDivisor f fd) (hb : Binds K fd ["_law_one", "_law_other"] []) (hm : mg "_law_divisor" = some (.ref f)) (ma : mg "abs" = none) : FnA P w K mg base 1 "_law_divisor" ["_law_one", "_law_other"] rDivisor := by
  refine fnA_mk F scLawDivisor hb hm (fun as d h => ?_) (by decide) (fun cdv A outer s H E W hW hr as d h => ?_)
  · obtain ⟨a, b, rfl, _⟩ := h
    rfl
  · obtain ⟨a, b, rfl, rfl⟩ := h
    refine ss_cons (M := fun ρ' => ∃ x, ρ' = [.val (.int x), .val (.int 0)] ∧ Int.gcd x 0 = Int.gcd a b) (st_while (fun n ρ => ∃ x y, ρ = [.val (.int x), .val (.int y)] ∧ Int.gcd x y = Int.gcd a b ∧ n = y.natAbs) b.natAbs ⟨a, b, rfl, rfl, rfl⟩ PassesOwn.never ?_) ?_
    · rintro n ρ ⟨x, y, rfl, hg, rfl⟩
      refine ⟨_, et_neI (ev_var 1 rfl rfl (Or.inl rfl)) ev_int, fun hc => ?_, fun hc => ?_⟩
      · have hy : y ≠ 0 := by simpa using hc
        refine ss_one (StD.imp (st_par 0 1 (ev_var 1 rfl rfl (Or.inl rfl)) (ev_mod (ev_var 0 rfl rfl (Or.inl rfl)) (ev_var 1 rfl rfl (Or.inl rfl)) hy) rfl scLawDivisor.nd rfl rfl (by decide) rfl rfl hW rfl) ?_ fun _ _ h => h)
        rintro _ rfl
        refine ⟨(x.fmod y).natAbs, fmod_lt hy, y, x.fmod y, rfl, ?_, rfl⟩
        rw [← hg, gcd_fmod]
      · have hy : y = 0 := by simpa using hc
        subst hy
        exact ⟨x, rfl, hg⟩
    · rintro ρ ⟨x, rfl, hg⟩
      refine ss_one (st_ret (ev_callB call_abs rc_abs (ea_cons (ev_var 0 rfl rfl (Or.inl rfl)) ea_nil) rfl ma (by decide +kernel)) ?_)
      rw [← hg, Int.gcd_zero_right]
      show Rv.d (D.int _) = Rv.d (D.int _)
      congr 2
      split <;> omega
theorem ok_law_low {f : Addr} {fd : FuncData} (F : Fun K "_law_low" "_law_low" sLawLow f fd) (hb : Binds K fd ["_law_top", "_law_bottom"] []) (hm : mg "_law_low" = some (.ref f)) (hS : base.NoSeer) (hT : P.given.tree = none)
    (f1 : FnA P w K mg base 1 "_law_divisor" ["_law_one", "_law_other"] rDivisor) : FnA P w K mg base 41 "_law_low" ["_law_top", "_law_bottom"] rRatio := by
  refine fnA_mk F scLawLow hb hm (fun as d h => ?_) (by decide) (fun cdv A outer s H E W hW hr as d h => ?_)
  · obtain ⟨a, b, rfl, _⟩ := h
    rfl
  · obtain ⟨t, b, rfl, h0, rfl⟩ := h
    have hB : Big (bx P w K mg base ["_law_top", "_law_bottom", "_law_by"] "_law_low" (defScope sLawLow) f cdv A outer s H E) := ⟨hS, hT, rfl, rfl, rfl, by have := hr.dp; exact Nat.lt_of_le_of_lt (Nat.add_le_add_left (by decide) _) this⟩
    refine ss_seq (st_set 2 (ev_call f1 (hr.mono (by decide)) (ea_cons (ev_var 0 rfl rfl (Or.inl rfl)) (ea_cons (ev_var 1 rfl rfl (Or.inl rfl)) ea_nil)) ⟨t, b, rfl, rfl⟩ rfl) scLawLow.nd rfl (Or.inl rfl) (.inl hW)) ?_
    refine ss_seq (ρ1 := [.val (.int t), .val (.int b), .val (.int (if b < 0 then 0 - (Int.gcd t b : Int) else (Int.gcd t b : Int)))]) (st_if (et_lt (ev_var 1 rfl rfl (Or.inl rfl)) ev_int) (fun hc => ?_) (fun hc => ss_nil ?_)) ?_
    · have hc : b < 0 := by simpa using hc
      rw [if_pos hc]
      exact ss_one (st_set 2 (ev_sub ev_int (ev_var 2 rfl rfl (Or.inl rfl))) scLawLow.nd rfl (Or.inl rfl) (.inl hW))
    · have hc : ¬ b < 0 := by simpa using hc
      rw [if_neg hc]
      rfl
    have hg : (if b < 0 then 0 - (Int.gcd t b : Int) else (Int.gcd t b : Int)) ≠ 0 := by
      have : Int.gcd t b ≠ 0 := fun z => h0 (Int.gcd_eq_zero_iff.mp z).2
      split <;> omega
    refine ss_one (st_ret (ev_pair (ev_fdiv hB (ev_var 0 rfl rfl (Or.inl rfl)) (ev_var 2 rfl rfl (Or.inl rfl)) hg) (ev_fdiv hB (ev_var 1 rfl rfl (Or.inl rfl)) (ev_var 2 rfl rfl (Or.inl rfl)) hg)) ?_)
    rw [ratio_eq h0 rfl]
theorem ok_law_plus {f : Addr} {fd : FuncData} (F : Fun K "_law_plus" "_law_plus" sLawPlus f fd) (hb : Binds K fd ["_law_one", "_law_other"] []) (hm : mg "_law_plus" = some (.ref f)) (f1 : FnA P w K mg base 41 "_law_low" ["_law_top", "_law_bottom"] rRatio) : FnA P w K mg base 42 "_law_plus" ["_law_one", "_law_other"] rPlus := by
  refine fnA_mk F scLawPlus hb hm (fun as d h => ?_) (by decide) (fun cdv A outer s H E W hW hr as d h => ?_)
  · obtain ⟨a, b, rfl, _⟩ := h
    rfl
  · obtain ⟨p, q, rfl, ⟨hp, hq⟩, rfl⟩ := h
    refine ss_one (st_ret (ev_call f1 hr (ea_cons (ev_add (ev_mul (ev_num (ev_var 0 rfl rfl (Or.inl rfl))) (ev_den (ev_var 1 rfl rfl (Or.inl rfl))) ⟨hp.num, hq.den⟩) (ev_mul (ev_num (ev_var 1 rfl rfl (Or.inl rfl))) (ev_den (ev_var 0 rfl rfl (Or.inl rfl))) ⟨hq.num, hp.den⟩)) (ea_cons (ev_mul (ev_den (ev_var 0 rfl rfl (Or.inl rfl))) (ev_den (ev_var 1 rfl rfl (Or.inl rfl))) ⟨hp.den, hq.den⟩) ea_nil)) ⟨_, _, rfl, Int.mul_ne_zero (den_nz p) (den_nz q), rfl⟩ rfl) ?_)
    rw [← add_divInt]
theorem ok_law_minus {f : Addr} {fd : FuncData} (F : Fun K "_law_minus" "_law_minus" sLawMinus f fd) (hb : Binds K fd ["_law_one", "_law_other"] []) (hm : mg "_law_minus" = some (.ref f)) (f1 : FnA P w K mg base 41 "_law_low" ["_law_top", "_law_bottom"] rRatio) : FnA P w K mg base 42 "_law_minus" ["_law_one", "_law_other"] rMinus := by
  refine fnA_mk F scLawMinus hb hm (fun as d h => ?_) (by decide) (fun cdv A outer s H E W hW hr as d h => ?_)
  · obtain ⟨a, b, rfl, _⟩ := h
    rfl
  · obtain ⟨p, q, rfl, ⟨hp, hq⟩, rfl⟩ := h
    refine ss_one (st_ret (ev_call f1 hr (ea_cons (ev_sub (ev_mul (ev_num (ev_var 0 rfl rfl (Or.inl rfl))) (ev_den (ev_var 1 rfl rfl (Or.inl rfl))) ⟨hp.num, hq.den⟩) (ev_mul (ev_num (ev_var 1 rfl rfl (Or.inl rfl))) (ev_den (ev_var 0 rfl rfl (Or.inl rfl))) ⟨hq.num, hp.den⟩)) (ea_cons (ev_mul (ev_den (ev_var 0 rfl rfl (Or.inl rfl))) (ev_den (ev_var 1 rfl rfl (Or.inl rfl))) ⟨hp.den, hq.den⟩) ea_nil)) ⟨_, _, rfl, Int.mul_ne_zero (den_nz p) (den_nz q), rfl⟩ rfl) ?_)
    rw [← sub_divInt]
theorem ok_law_times {f : Addr} {fd : FuncData} (F : Fun K "_law_times" "_law_times" sLawTimes f fd) (hb : Binds K fd ["_law_one", "_law_other"] []) (hm : mg "_law_times" = some (.ref f)) (f1 : FnA P w K mg base 41 "_law_low" ["_law_top", "_law_bottom"] rRatio) : FnA P w K mg base 42 "_law_times" ["_law_one", "_law_other"] rTimes := by
  refine fnA_mk F scLawTimes hb hm (fun as d h => ?_) (by decide) (fun cdv A outer s H E W hW hr as d h => ?_)
  · obtain ⟨a, b, rfl, _⟩ := h
    rfl
  · obtain ⟨p, q, rfl, ⟨hp, hq⟩, rfl⟩ := h
    refine ss_one (st_ret (ev_call f1 hr (ea_cons (ev_mul (ev_num (ev_var 0 rfl rfl (Or.inl rfl))) (ev_num (ev_var 1 rfl rfl (Or.inl rfl))) ⟨hp.num, hq.num⟩) (ea_cons (ev_mul (ev_den (ev_var 0 rfl rfl (Or.inl rfl))) (ev_den (ev_var 1 rfl rfl (Or.inl rfl))) ⟨hp.den, hq.den⟩) ea_nil)) ⟨_, _, rfl, Int.mul_ne_zero (den_nz p) (den_nz q), rfl⟩ rfl) ?_)
    rw [← mul_divInt]
theorem ok_law_cell_at {f : Addr} {fd : FuncData} (F : Fun K "_law_cell_at" "_law_cell_at" sLawCellAt f fd) (hb : Binds K fd ["_law_script", "_law_k"] []) (hm : mg "_law_cell_at" = some (.ref f)) (g : Gl0 P K mg base) : FnA P w K mg base 42 "_law_cell_at" ["_law_script", "_law_k"] rCellAt := by
  refine fnA_mk F scLawCellAt hb hm (fun as d h => ?_) (by decide) (fun cdv A outer s H E W hW hr as d h => ?_)
  · obtain ⟨ns, k, rfl, _⟩ := h
    rfl
  · obtain ⟨ns, k, rfl, rfl⟩ := h
    refine ss_cons (M := fun ρ => ¬ k < ns.length) (st_if (et_lt (ev_var 1 rfl rfl (Or.inl rfl)) (ev_callB call_len_seq rc_lenS (ea_cons (ev_var 0 rfl rfl (Or.inl rfl)) ea_nil) rfl g.len (by decide +kernel))) (fun hc => ?_) (fun hc => ss_nil (by have := of_decide_eq_false hc; omega))) ?_
    · have hc := of_decide_eq_true hc
      have hk : k < ns.length := by omega
      refine ss_one (st_ret (ev_ixS (ev_var 0 rfl rfl (Or.inl rfl)) (ev_var 1 rfl rfl (Or.inl rfl)) (atI_nat (j := k) (List.getElem?_eq_getElem hk))) ?_)
      rw [List.getD_eq_getElem?_getD, List.getElem?_eq_getElem hk]
      rfl
    · rintro ρ hc
      refine ss_one (st_ret ev_int ?_)
      rw [List.getD_eq_getElem?_getD, List.getElem?_eq_none (by omega)]
      rfl
theorem ok_law_state {f : Addr} {fd : FuncData} (F : Fun K "_law_state" "_law_state" sLawState f fd) (hb : Binds K fd ["_law_script", "_law_k"] []) (hm : mg "_law_state" = some (.ref f)) (f1 : FnA P w K mg base 42 "_law_cell_at" ["_law_script", "_law_k"] rCellAt) : FnF P w K mg base 43 "_law_state" ["_law_script", "_law_k"] rState := by
  refine fnF_mk F scLawState hb hm (fun as d h => ?_) (by decide) (fun cdv A outer s H E W hW hr as d h => ?_)
  · obtain ⟨ns, k, rfl, _⟩ := h
    rfl
  · obtain ⟨ns, k, rfl, rfl⟩ := h
    have hp : ((10 : Int) ^ (18 : Int).toNat) = 1000000000000000000 := by decide
    have cp : CPow 10 18 := ⟨by decide, by decide, by decide⟩
    refine ss_seq (st_set 2 (ev_call f1 hr (ea_cons (ev_var 0 rfl rfl (Or.inl rfl)) (ea_cons (ev_var 1 rfl rfl (Or.inl rfl)) ea_nil)) ⟨ns, k, rfl, rfl⟩ rfl) scLawState.nd rfl (Or.inl rfl) (.inl hW)) ?_
    generalize ns.getD k 0 = c
    refine ss_cons (M := fun ρ => ¬ 1000000000000000000 ≤ c ∧ ρ = [.val (.scr ns), .val (.int (k : Int)), .val (.int c)]) (st_if (et_ge (ev_var 2 rfl rfl (Or.inl rfl)) (Ev.cast (ev_pow ev_int ev_int cp) (congrArg D.int hp))) (fun hc => ?_) (fun hc => ss_nil ⟨of_decide_eq_false hc, rfl⟩)) ?_
    · have hc := of_decide_eq_true hc
      refine ss_one (st_retF (ds := [.int (c - 1000000000000000000), .bl true]) (ef_lst (ds := [.int (c - 1000000000000000000), .bl true]) (ea_cons (ev_sub (ev_var 2 rfl rfl (Or.inl rfl)) (Ev.cast (ev_pow ev_int ev_int cp) (congrArg D.int hp))) (ea_cons ev_bl ea_nil)) (by show 2 ≤ 1000; decide)) ?_ (fun h => by rw [stt_inv (x := c - 1000000000000000000) (b := true) h]; exact stt_ok))
      unfold stX stB stt
      rw [if_pos hc, decide_eq_true hc]
    · rintro _ ⟨hc, rfl⟩
      refine ss_one (st_retF (ds := [.int (c.fmod 2147483647), .bl false]) (ef_lst (ds := [.int (c.fmod 2147483647), .bl false]) (ea_cons (ev_mod (ev_var 2 rfl rfl (Or.inl rfl)) ev_int (by decide)) (ea_cons ev_bl ea_nil)) (by show 2 ≤ 1000; decide)) ?_ (fun h => by rw [stt_inv (x := c.fmod 2147483647) (b := false) h]; exact stt_ok))
      unfold stX stB stt
      rw [if_neg hc, decide_eq_false hc]
theorem nat_lt {i : Int} {m : Int} (h : 0 ≤ i ∧ i < m) (hm : m ≤ 2147483647) : i.natAbs < 2 ^ 64 := Nat.lt_of_le_of_lt (show i.natAbs ≤ 2147483647 by omega) (by decide)
theorem ok_law_take {f : Addr} {fd : FuncData} (F : Fun K "_law_take" "_law_take" sLawTake f fd) (hb : Binds K fd ["_law_state_here", "_law_many"] []) (hm : mg "_law_take" = some (.ref f)) : FnM P w K mg base 42 "_law_take" ["_law_state_here", "_law_many"] rTake := by
  refine fnM_mk F scLawTake hb hm (fun x b as d x' h => ?_) (by decide) (fun cdv A outer s H E W hr x b as d x' h => ?_)
  · obtain ⟨m, rfl, _⟩ := h
    rfl
  · obtain ⟨m, rfl, h0, h1, hst, rfl, rfl⟩ := h
    have hdm : m ≠ 0 ∧ m.natAbs < 1073741824 := ⟨by omega, by omega⟩
    cases b with
    | true =>
      refine ss_cons (M := fun _ => False) (st_if (c := true) (et_val (ev_ixO 0 (.inl rfl) ev_int (stt1 x true) rfl (Or.inl rfl))) (fun _ => ?_) (fun z => nomatch z)) (fun _ z => z.elim)
      refine ss_seq (st_set 2 (ev_mod (ev_ixO 0 (.inl rfl) ev_int (stt0 x true) rfl (Or.inl rfl)) (ev_var 1 rfl rfl (Or.inl rfl)) hdm.1) scLawTake.nd rfl (Or.inl rfl) (.inr (by decide))) ?_
      refine ss_seq (st_item 0 (ds := stt x true) rfl (ev_fdivN (ev_ixO 0 (.inl rfl) ev_int (stt0 x true) rfl (Or.inl rfl)) (ev_var 1 rfl rfl (Or.inl rfl)) hdm) ev_int (stt_ix x true) rfl (Or.inl rfl)) ?_
      exact ss_one (st_ret (ev_var 2 rfl rfl (Or.inl rfl)) ⟨rfl, rfl⟩)
    | false =>
      have hx : x.natAbs ≤ 2147483647 := hst.resolve_left (by decide)
      have hy := fmod_rng (x := x * 48271 + 29) (m := 2147483647) (by decide)
      refine ss_seq (st_if (c := false) (et_val (ev_ixO 0 (.inl rfl) ev_int (stt1 x false) rfl (Or.inl rfl))) (fun z => nomatch z) (fun _ => ss_nil rfl)) ?_
      refine ss_seq (st_item 0 (ds := stt x false) rfl (ev_mod (ev_add (ev_mul (ev_ixO 0 (.inl rfl) ev_int (stt0 x false) rfl (Or.inl rfl)) ev_int ⟨few64 (Nat.lt_of_le_of_lt hx (by decide)), few64 (by decide)⟩) ev_int) ev_int (by decide)) ev_int (stt_ix x false) rfl (Or.inl rfl)) ?_
      have hY : (x * 48271 + 29).fmod 2147483647 = nx1 x := rfl
      rw [hY] at hy ⊢
      generalize hyd : nx1 x = y at *
      have fy : Few y := few64 (nat_lt hy (by decide))
      have iy : ∀ {pp : Bool} {ρ : List Sl} {j : Nat} {q1 q2 q3 : Pos}, ρ[0]? = some (.own (stt y false)) → Ev (bx P w K mg base ["_law_state_here", "_law_many", "_law_found", "_law_mixed"] "_law_take" (defScope sLawTake) f cdv A outer s H E) W pp (.Subscript (.Name "_law_state_here" q1) (.Constant (.int 0) j q2) q3) ρ ρ (.int y) := fun h => ev_ixO 0 (.inl h) ev_int (stt0 y false) rfl (Or.inl rfl)
      have hm1 := fmod_rng (x := y * y + 39373 * y + 7) (m := 2147483629) (by decide)
      refine ss_seq (st_set 3 (ev_mod (ev_add (ev_add (ev_mul (iy rfl) (iy rfl) ⟨fy, fy⟩) (ev_mul ev_int (iy rfl) ⟨few64 (by decide), fy⟩)) ev_int) ev_int (by decide)) scLawTake.nd rfl (Or.inl rfl) (.inr (by decide))) ?_
      have hM : (y * y + 39373 * y + 7).fmod 2147483629 = mx1 y := rfl
      rw [hM] at hm1 ⊢
      generalize hmd : mx1 y = m1 at *
      have fm : Few m1 := few64 (nat_lt hm1 (by decide))
      refine ss_seq (st_set 3 (ev_mod (ev_add (ev_mul (ev_var 3 rfl rfl (Or.inl rfl)) (ev_var 3 rfl rfl (Or.inl rfl)) ⟨fm, fm⟩) (ev_mul ev_int (ev_var 3 rfl rfl (Or.inl rfl)) ⟨few64 (by decide), fm⟩)) ev_int (by decide)) scLawTake.nd rfl (Or.inl rfl) (.inr (by decide))) ?_
      refine ss_one (st_ret (ev_mod (ev_fdivN (ev_var 3 rfl rfl (Or.inl rfl)) ev_int (by decide)) (ev_var 1 rfl rfl (Or.inl rfl)) hdm.1) ⟨?_, ?_⟩)
      · unfold takeV
        rw [hyd, hmd]
        rfl
      · unfold takeX
        rw [hyd]
        rfl
theorem ok_law_small {f : Addr} {fd : FuncData} (F : Fun K "_law_small" "_law_small" sLawSmall f fd) (hb : Binds K fd ["_law_state_here"] []) (hm : mg "_law_small" = some (.ref f)) (f1 : FnM P w K mg base 42 "_law_take" ["_law_state_here", "_law_many"] rTake) : FnM P w K mg base 43 "_law_small" ["_law_state_here"] rSmall := by
  refine fnM_mk F scLawSmall hb hm (fun x b as d x' h => ?_) (by decide) (fun cdv A outer s H E W hr x b as d x' h => ?_)
  · obtain ⟨rfl, _⟩ := h
    rfl
  · obtain ⟨rfl, hst, rfl, rfl⟩ := h
    exact ss_one (st_ret (ev_pair (ev_sub (ev_callM 0 (as := [.int 13]) f1 hr rfl (ea_cons ev_int ea_nil) ⟨13, rfl, by decide, by decide, hst, rfl, rfl⟩ rfl rfl (Or.inl rfl)) ev_int) ev_int) ⟨rfl, rfl⟩)
theorem ok_law_above {f : Addr} {fd : FuncData} (F : Fun K "_law_above" "_law_above" sLawAbove f fd) (hb : Binds K fd ["_law_state_here"] []) (hm : mg "_law_above" = some (.ref f)) (f1 : FnM P w K mg base 42 "_law_take" ["_law_state_here", "_law_many"] rTake) : FnM P w K mg base 43 "_law_above" ["_law_state_here"] rAbove := by
  refine fnM_mk F scLawAbove hb hm (fun x b as d x' h => ?_) (by decide) (fun cdv A outer s H E W hr x b as d x' h => ?_)
  · obtain ⟨rfl, _⟩ := h
    rfl
  · obtain ⟨rfl, hst, rfl, rfl⟩ := h
    exact ss_one (st_ret (ev_pair (ev_add ev_int (ev_callM 0 (as := [.int 6]) f1 hr rfl (ea_cons ev_int ea_nil) ⟨6, rfl, by decide, by decide, hst, rfl, rfl⟩ rfl rfl (Or.inl rfl))) ev_int) ⟨rfl, rfl⟩)
theorem ok_law_crowd {f : Addr} {fd : FuncData} (F : Fun K "_law_crowd" "_law_crowd" sLawCrowd f fd) (hb : Binds K fd ["_law_state_here", "_law_most"] []) (hm : mg "_law_crowd" = some (.ref f)) (g : Gl0 P K mg base) (f1 : FnM P w K mg base 42 "_law_take" ["_law_state_here", "_law_many"] rTake)
    (f2 : FnM P w K mg base 43 "_law_small" ["_law_state_here"] rSmall) (f3 : FnM P w K mg base 43 "_law_above" ["_law_state_here"] rAbove) (f4 : FnA P w K mg base 42 "_law_plus" ["_law_one", "_law_other"] rPlus) : FnM P w K mg base 44 "_law_crowd" ["_law_state_here", "_law_most"] rCrowd := by
  refine fnM_mk F scLawCrowd hb hm (fun x b as d x' h => ?_) (by decide) (fun cdv A outer s H E W hr x b as d x' h => ?_)
  · obtain ⟨m, rfl, _⟩ := h
    rfl
  · obtain ⟨most, rfl, hmo, hst, rfl, rfl⟩ := h
    have r2 : Room 42 _ := hr.mono (by decide)
    refine ss_seq (st_own 2 (ef_lst (ds := []) ea_nil (by show 0 ≤ 1000; decide)) scLawCrowd.nd rfl (Or.inl rfl) (by show 2 < 5; decide) (.inr (by decide))) ?_
    refine ss_seq (st_set 3 (ev_callM 0 (as := []) f2 hr rfl ea_nil ⟨rfl, hst, rfl, rfl⟩ rfl rfl (Or.inl rfl)) scLawCrowd.nd rfl (Or.inl rfl) (.inr (by decide))) ?_
    have hst1 := takeX_ok (m := 13) hst
    have hsm := smallV_rng x b
    have htk := takeV_rng (x := takeX x b 13) (b := b) (m := (most : Int) + 1) (by omega)
    refine ss_cons (M := fun ρ => ∃ x3 x4, ρ = [.own (stt (crowdP x b most).2 b), .val (.int (most : Int)), .own ((crowdP x b most).1.map prI), x3, x4]) (st_for (fun i ρ => i ≤ (takeV (takeX x b 13) b ((most : Int) + 1)).toNat ∧ ∃ (acc : ICr) (xi si : Int) (x4 : Sl), ρ = [.own (stt xi b), .val (.int (most : Int)), .own (acc.map prI), .val (fr (si : Rat)), x4] ∧ acc.length = i ∧ StOk xi b ∧ si.natAbs ≤ 6 + 6 * i ∧
      acc ++ (crowdF b ((takeV (takeX x b 13) b ((most : Int) + 1)).toNat - i) xi si).1 = (crowdP x b most).1 ∧ (crowdF b ((takeV (takeX x b 13) b ((most : Int) + 1)).toNat - i) xi si).2 = (crowdP x b most).2)
      (ei_range1 (ea_cons (ev_callM 0 (as := [.int ((most : Int) + 1)]) f1 r2 rfl (ea_cons (ev_add (ev_var 1 rfl rfl (Or.inl rfl)) ev_int) ea_nil) ⟨_, rfl, by omega, by omega, hst1, rfl, rfl⟩ rfl rfl (Or.inl rfl)) ea_nil) rfl g.range (by omega) (by omega)) ⟨Nat.zero_le _, [], _, smallV x b, .un, rfl, rfl, takeX_ok hst1, by omega, rfl, rfl⟩ PassesOwn.never rfl ?_ ?_) ?_
    · rintro i d _ hi ⟨hle, acc, xi, si, x4, rfl, hal, hxi, hsi, he1, he2⟩
      obtain ⟨hlt, rfl⟩ := get_rng hi
      generalize hn : (takeV (takeX x b 13) b ((most : Int) + 1)).toNat = n at *
      have hn100 : n ≤ 101 := by omega
      have hw := aboveV_rng xi b
      have hd := aboveV_rng (takeX xi b 6) b
      have hstep : crowdF b (n - i) xi si = ((si, aboveV xi b) :: (crowdF b (n - (i + 1)) (takeX (takeX xi b 6) b 6) (si + aboveV (takeX xi b 6) b)).1, (crowdF b (n - (i + 1)) (takeX (takeX xi b 6) b 6) (si + aboveV (takeX xi b 6) b)).2) := by
        rw [show n - i = (n - (i + 1)) + 1 by omega]
        rfl
      refine ⟨_, _, eg_name 4 scLawCrowd.nd rfl (Or.inl rfl) (.inr (by decide)), ?_⟩
      refine ss_seq (st_append 2 rfl ⟨_, rfl⟩ (ev_pair (ev_var 3 rfl rfl (Or.inl rfl)) (ev_callM 0 (as := []) f3 hr rfl ea_nil ⟨rfl, hxi, rfl, rfl⟩ rfl rfl (Or.inl rfl))) (by rw [List.length_map]; omega) rfl (Or.inl rfl)) ?_
      refine ss_one (StD.imp (st_set 3 (ev_call f4 r2 (ea_cons (ev_var 3 rfl rfl (Or.inl rfl)) (ea_cons (ev_callM 0 (as := []) f3 hr rfl ea_nil ⟨rfl, takeX_ok hxi, rfl, rfl⟩ rfl rfl (Or.inl rfl)) ea_nil)) ⟨(si : Rat), (aboveV (takeX xi b 6) b : Rat), rfl, ⟨S.int (by omega), S.int (by omega)⟩, rfl⟩ rfl) scLawCrowd.nd rfl (Or.inl rfl) (.inr (by decide))) ?_ fun _ _ h => h)
      rintro _ rfl
      refine ⟨by omega, acc ++ [(si, aboveV xi b)], takeX (takeX xi b 6) b 6, si + aboveV (takeX xi b 6) b, .val (.int (i : Int)), ?_, ?_, takeX_ok (takeX_ok hxi), by omega, ?_, ?_⟩
      · rw [List.map_append, show ((si + aboveV (takeX xi b 6) b : Int) : Rat) = (si : Rat) + (aboveV (takeX xi b 6) b : Rat) from Rat.intCast_add _ _]
        rfl
      · rw [List.length_append, hal]
        rfl
      · rw [← he1, hstep, List.append_assoc]
        rfl
      · rw [← he2, hstep]
    · rintro _ ⟨_, acc, xi, si, x4, rfl, hal, hxi, hsi, he1, he2⟩
      rw [List.length_map, List.length_range, Nat.sub_self] at he1 he2
      refine ⟨.val (fr (si : Rat)), x4, ?_⟩
      rw [← he1, ← he2]
      show _ = [Sl.own (stt xi b), .val (.int (most : Int)), .own ((acc ++ []).map prI), .val (fr (si : Rat)), x4]
      rw [List.append_nil]
    · rintro _ ⟨x3, x4, rfl⟩
      exact ss_one (st_retO 2 rfl (.inr (by decide)) ⟨rfl, rfl⟩ rfl (Or.inl rfl))
theorem ok_law_spot_crowd {f : Addr} {fd : FuncData} (F : Fun K "_law_spot_crowd" "_law_spot_crowd" sLawSpotCrowd f fd) (hb : Binds K fd ["_law_state_here", "_law_most"] []) (hm : mg "_law_spot_crowd" = some (.ref f))
    (f1 : FnM P w K mg base 44 "_law_crowd" ["_law_state_here", "_law_most"] rCrowd) (f2 : FnM P w K mg base 43 "_law_small" ["_law_state_here"] rSmall) (f3 : FnM P w K mg base 43 "_law_above" ["_law_state_here"] rAbove) : FnM P w K mg base 45 "_law_spot_crowd" ["_law_state_here", "_law_most"] rSpotCrowd := by
  refine fnM_mk F scLawSpotCrowd hb hm (fun x b as d x' h => ?_) (by decide) (fun cdv A outer s H E W hr x b as d x' h => ?_)
  · obtain ⟨m, rfl, _⟩ := h
    rfl
  · obtain ⟨most, rfl, hmo, hst, rfl, rfl⟩ := h
    have r3 : Room 43 _ := hr.mono (by decide)
    refine ss_seq (st_set 2 (ev_callM 0 (as := [.int (most : Int)]) f1 hr rfl (ea_cons (ev_var 1 rfl rfl (Or.inl rfl)) ea_nil) ⟨most, rfl, hmo, hst, rfl, rfl⟩ rfl rfl (Or.inl rfl)) scLawSpotCrowd.nd rfl (Or.inl rfl) (.inr (by decide))) ?_
    have hst2 := crowdP_ok (most := most) hst
    refine ss_cons (M := fun ρ => ρ = [.own (stt (spotCrowd x b most).2 b), .val (.int (most : Int)), .val (crD (spotCrowd x b most).1)]) (st_if (et_eqNil (k := 43) r3 (sh_crD _) (ev_var 2 rfl rfl (Or.inl rfl))) (fun hc => ?_) (fun hc => ss_nil ?_)) ?_
    · rw [isEmpty_map, isEmpty_dec] at hc
      refine ss_one (StD.imp (st_set 2 (EvF.ev (ef_lst (ds := [_]) (ea_cons (ev_pair (ev_callM 0 (as := []) f2 r3 rfl ea_nil ⟨rfl, hst2, rfl, rfl⟩ rfl rfl (Or.inl rfl)) (ev_callM 0 (as := []) f3 r3 rfl ea_nil ⟨rfl, takeX_ok hst2, rfl, rfl⟩ rfl rfl (Or.inl rfl))) ea_nil) (by show 1 ≤ 1000; decide))) scLawSpotCrowd.nd rfl (Or.inl rfl) (.inr (by decide))) ?_ fun _ _ h => h)
      rintro _ rfl
      unfold spotCrowd
      rw [if_pos hc]
      rfl
    · have hne : ¬ (crowdP x b most).1 = [] := by
        intro z
        rw [z] at hc
        cases hc
      unfold spotCrowd
      rw [if_neg hne]
      rfl
    · rintro _ rfl
      exact ss_one (st_ret (ev_var 2 rfl rfl (Or.inl rfl)) ⟨rfl, rfl⟩)
end
end M66
/-! The law: the walk. -/
namespace M66
open PySem PySem.Spec PyProof.Rows L2
section
variable {X : Cx} {W : Wd} {ρ ρ1 ρ2 : List Sl} {d1 d2 : D} {pos : Pos}
/-- a, b = a list of two -/
theorem eg_pairL {ta tb : Expr} {ia ib : List Nat} {kk : Nat} (hc : X.calm = true) (a : EvG X W ta ia ρ d1 ρ1) (b : EvG X W tb ib ρ1 d2 ρ2) (hst : (assignEach [ta, tb] X.env).findIdx? (·.1) = none := by rfl) (hn : (assignEach [ta, tb] X.env).length = 2 := by rfl)
    (h1 : (assignEach [ta, tb] X.env).map (·.2) = assign ta X.env :: (assignEach [tb] X.env).map (·.2) := by rfl) (h2 : (assignEach [tb] X.env).map (·.2) = assign tb X.env :: (assignEach [] X.env).map (·.2) := by rfl) :
    EvG X W (.Tuple [ta, tb] kk pos) (ia ++ ib) ρ (.lst [d1, d2]) ρ2 := fun O σ H v E hd Q q => of_pg (pg_lst hc (pgs_cons semG_pg (pgs_cons semG_pg pgs_nil h2) h1) hn hst) (by
  obtain ⟨l, vs, rfl, hh, _, t⟩ := hd.lst_inv
  cases t with
  | cons h t =>
    cases t with
    | cons h' t =>
      cases t
      refine ⟨l, _, rfl, SqL.of hh, rfl, _, _, rfl, a O σ H _ E h _ fun σ1 E1 l1 j1 => ⟨_, _, rfl, b O σ1 H _ E1 h' _ fun σ2 E2 l2 j2 => ⟨rfl, q σ2 E2 (l2.trans l1) fun j hj => ?_⟩⟩⟩
      rw [List.mem_append] at hj
      rw [j2 j (fun z => hj (.inr z)), j1 j (fun z => hj (.inl z))])
end

abbrev sLawCrowdSums : Stmt := topS 92
theorem scLawCrowdSums : FnScope ["_law_crowd_here", "_law_many", "_law_found", "_law_powers", "_law_spot", "_law_weight", "_law_k", "_law_amount", "_law_one", "_law_at"] ["_law_crowd_here", "_law_many"] (defScope sLawCrowdSums) := ⟨rfl, rfl, rfl, by decide +kernel, rfl, by decide +kernel, by decide +kernel⟩
abbrev sLawWeights : Stmt := topS 93
theorem scLawWeights : FnScope ["_law_crowd_here", "_law_spot", "_law_found", "_law_one", "_law_weight"] ["_law_crowd_here", "_law_spot"] (defScope sLawWeights) := ⟨rfl, rfl, rfl, by decide +kernel, rfl, by decide +kernel, by decide +kernel⟩
abbrev sLawBounds : Stmt := topS 94
theorem scLawBounds : FnScope ["_law_crowd_here", "_law_sums", "_law_spot", "_law_width", "_law_number", "_law_f", "_law_below", "_law_up_to", "_law_flock", "_law_low_here", "_law_high"] ["_law_crowd_here", "_law_sums", "_law_spot", "_law_width"] (defScope sLawBounds) := ⟨rfl, rfl, rfl, by decide +kernel, rfl, by decide +kernel, by decide +kernel⟩
abbrev sLawTooMuch : Stmt := topS 95
theorem scLawTooMuch : FnScope ["_law_sums", "_law_spot", "_law_more", "_law_number", "_law_found", "_law_one"] ["_law_sums", "_law_spot", "_law_more"] (defScope sLawTooMuch) := ⟨rfl, rfl, rfl, by decide +kernel, rfl, by decide +kernel, by decide +kernel⟩
abbrev sLaw : Stmt := topS 96
theorem scLaw : FnScope ["_law_script", "_law_k", "_law_state_here", "_law_crowd_here", "_law_sums", "_law_spots", "_law_width", "_law_spot"] ["_law_script"] (defScope sLaw) := ⟨rfl, rfl, rfl, by decide +kernel, rfl, by decide +kernel, by decide +kernel⟩

def rCrowdSums (as : List Ar) (d : D) : Prop := ∃ (C : ICr) (m : Nat), as = [.v (crD C), .v (.int (m : Int))] ∧ SumsOk C m ∧ d = pl (sumsC C m)
def rWeights (as : List Ar) (d : D) : Prop := ∃ (C : ICr) (a : Rat), as = [.v (crD C), .v (fr a)] ∧ WgOk C a ∧ d = .lst [fr (belC C a), fr (upC C a)]
def rBounds (as : List Ar) (d : D) : Prop := ∃ (C : ICr) (sums : List Rat) (a width : Rat), as = [.v (crD C), .v (pl sums), .v (fr a), .v (fr width)] ∧ BdOk C sums a width ∧ d = .bl true
def rTooMuch (as : List Ar) (d : D) : Prop := ∃ (sums : List Rat) (a : Rat) (more : Int), as = [.v (pl sums), .v (fr a), .v (.int more)] ∧ TmOk sums a more ∧ d = .bl true

theorem C_take {C : ICr} {i : Nat} {z : Int × Int} (h : C[i]? = some z) (a : Rat) : belC (C.take (i + 1)) a = belS a (belC (C.take i) a) z ∧ upC (C.take (i + 1)) a = upS a (upC (C.take i) a) z := by
  unfold belC upC
  rw [take_snoc h, List.foldl_append, List.foldl_append]
  exact ⟨rfl, rfl⟩
theorem get_crD {C : ICr} {i : Nat} {d : D} (h : (C.map prI)[i]? = some d) : ∃ z, C[i]? = some z ∧ d = prI z := by
  rw [List.getElem?_map] at h
  cases e : C[i]? with
  | none =>
    rw [e] at h
    cases h
  | some c =>
    rw [e] at h
    cases h
    exact ⟨c, rfl, rfl⟩
theorem powsC_length (C : ICr) (k : Nat) : (powsC C k).length = C.length := List.length_map ..
theorem pows0 (C : ICr) : (C.map fun z => fr (z.2 : Rat)) = (powsC C 0).map fr := by
  unfold powsC
  rw [List.map_map]
  apply List.map_congr_left
  intro z _
  show fr (z.2 : Rat) = fr ((z.2 : Rat) * (z.1 : Rat) ^ 0)
  rw [Rat.pow_zero, Rat.mul_one]
theorem powsS (C : ICr) (k : Nat) : ((List.range C.length).map fun i => fr (cf (powsC C k) i * ((C.getD i (0, 0)).1 : Rat))) = (powsC C (k + 1)).map fr := by
  apply List.ext_getElem
  · rw [List.length_map, List.length_map, List.length_range, powsC_length]
  · intro i h1 h2
    rw [List.length_map, List.length_range] at h1
    rw [List.getElem_map, List.getElem_map, List.getElem_range, cf_lt (by rw [powsC_length]; exact h1), List.getD_eq_getElem?_getD, List.getElem?_eq_getElem h1]
    unfold powsC
    rw [List.getElem_map, List.getElem_map]
    show fr ((C[i].2 : Rat) * (C[i].1 : Rat) ^ k * (C[i].1 : Rat)) = fr ((C[i].2 : Rat) * (C[i].1 : Rat) ^ (k + 1))
    rw [Rat.pow_succ, Rat.mul_assoc]
section
variable {P : Program} {w : World} {K : PySem.W.Frag} {mg : Str → Option Value} {base : Heap}
theorem ok_law_crowd_sums {f : Addr} {fd : FuncData} (F : Fun K "_law_crowd_sums" "_law_crowd_sums" sLawCrowdSums f fd) (hb : Binds K fd ["_law_crowd_here", "_law_many"] []) (hm : mg "_law_crowd_sums" = some (.ref f)) (g : Gl0 P K mg base)
    (f4 : FnA P w K mg base 42 "_law_plus" ["_law_one", "_law_other"] rPlus) (f5 : FnA P w K mg base 42 "_law_times" ["_law_one", "_law_other"] rTimes) : FnA P w K mg base 43 "_law_crowd_sums" ["_law_crowd_here", "_law_many"] rCrowdSums := by
  refine fnA_mk F scLawCrowdSums hb hm (fun as d h => ?_) (by decide) (fun cdv A outer s H E W hW hr as d h => ?_)
  · obtain ⟨C, m, rfl, _⟩ := h
    rfl
  · obtain ⟨C, m, rfl, ⟨h1, h2, h3, h4⟩, rfl⟩ := h
    refine ss_seq (st_own 2 (ef_lst (ds := []) ea_nil (by show 0 ≤ 1000; decide)) scLawCrowdSums.nd rfl (Or.inl rfl) (by show 2 < 10; decide) (.inl hW)) ?_
    refine ss_seq (st_set 3 (Ev.cast (EvF.ev (LcOk.ef (lc_all C prI (fun z => fr (z.2 : Rat)) [("_law_spot", 4), ("_law_weight", 5)] (ei_list (ev_var 0 rfl rfl (Or.inr (Or.inl rfl)))) rfl hW (blkOk_by (N := ["_law_crowd_here", "_law_many", "_law_found", "_law_powers", "_law_spot", "_law_weight", "_law_k", "_law_amount", "_law_one", "_law_at"]) (sc := defScope sLawCrowdSums) (by decide +kernel)) (by omega) (by decide) (fun z hz => ⟨_, fun s H C cl fp => ⟨(eg_pair rfl (eg_name 4 scLawCrowdSums.nd rfl (Or.inl rfl) (.inl hW)) (eg_name 5 scLawCrowdSums.nd rfl (Or.inl rfl) (.inl hW))), (ev_var 5 rfl rfl (Or.inl rfl))⟩⟩)) rfl scLawCrowdSums.nd)) (d1 := pl (powsC C 0)) (congrArg D.lst (pows0 C))) scLawCrowdSums.nd rfl (Or.inr rfl) (.inl hW)) ?_
    refine ss_cons (M := fun ρ => ∃ x3 x6 x7 x8, ρ = [.val (crD C), .val (.int (m : Int)), .own ((sumsC C m).map fr), x3, .un, .un, x6, x7, x8, .un]) (st_for (fun i ρ => i ≤ m ∧ ∃ x6 x7 x8, ρ = [.val (crD C), .val (.int (m : Int)), .own ((sumsC C i).map fr), .val (pl (powsC C i)), .un, .un, x6, x7, x8, .un]) (ei_range1 (n := (m : Int)) (ea_cons (ev_var 1 rfl rfl (Or.inl rfl)) ea_nil) rfl g.range (by omega) (by omega)) ⟨Nat.zero_le _, .un, .un, .un, rfl⟩ PassesOwn.never rfl ?_ ?_) ?_
    · rintro i d _ hi ⟨hle, x6, x7, x8, rfl⟩
      obtain ⟨hlt, rfl⟩ := get_rng hi
      have him : i < m := by omega
      obtain ⟨k1, k2⟩ := h4 i him
      have hpl := powsC_length C i
      refine ⟨_, _, eg_name 6 scLawCrowdSums.nd rfl (Or.inl rfl) (.inl hW), ?_⟩
      refine ss_seq (st_set 7 (ev_pair ev_int ev_int) scLawCrowdSums.nd rfl (Or.inl rfl) (.inl hW)) ?_
      refine ss_cons (M := fun ρ => ∃ x8, ρ = [.val (crD C), .val (.int (m : Int)), .own ((sumsC C i).map fr), .val (pl (powsC C i)), .un, .un, .val (.int (i : Int)), .val (fr (tot (powsC C i))), x8, .un]) (st_for (fun j ρ => j ≤ C.length ∧ ∃ x8, ρ = [.val (crD C), .val (.int (m : Int)), .own ((sumsC C i).map fr), .val (pl (powsC C i)), .un, .un, .val (.int (i : Int)), .val (fr (tot ((powsC C i).take j))), x8, .un]) (ei_list (ev_var 3 rfl rfl (Or.inr (Or.inl rfl)))) ⟨Nat.zero_le _, x8, rfl⟩ PassesOwn.never rfl ?_ ?_) ?_
      · rintro j d _ hj ⟨hjl, x8, rfl⟩
        obtain ⟨c, hc, rfl⟩ := get_map hj
        have hjt : j < C.length := by
          have := (List.getElem?_eq_some_iff.mp hc).1
          rwa [hpl] at this
        refine ⟨_, _, eg_name 8 scLawCrowdSums.nd rfl (Or.inl rfl) (.inl hW), ?_⟩
        refine ss_one (StD.imp (st_set 7 (ev_call f4 hr (ea_cons (ev_var 7 rfl rfl (Or.inl rfl)) (ea_cons (ev_var 8 rfl rfl (Or.inl rfl)) ea_nil)) ⟨_, _, rfl, ⟨k2 j hjl, k1 c (List.mem_of_getElem? hc)⟩, rfl⟩ rfl) scLawCrowdSums.nd rfl (Or.inl rfl) (.inl hW)) ?_ fun _ _ h => h)
        rintro _ rfl
        refine ⟨hjt, .val (fr c), ?_⟩
        rw [take_snoc hc, tot_snoc]
        rfl
      · rintro _ ⟨_, x8, rfl⟩
        refine ⟨x8, ?_⟩
        rw [List.length_map, List.take_of_length_le (Nat.le_refl _)]
      · rintro _ ⟨x8, rfl⟩
        refine ss_seq (st_append 2 rfl ⟨_, rfl⟩ (ev_var 7 rfl rfl (Or.inl rfl)) (by unfold sumsC; rw [List.length_map, List.length_map, List.length_range]; omega) rfl (Or.inl rfl)) ?_
        refine ss_one (StD.imp (st_set 3 (Ev.cast (EvF.ev (LcOk.ef (lc_all (List.range C.length) (fun j => .int (j : Int)) (fun j => fr (cf (powsC C i) j * ((C.getD j (0, 0)).1 : Rat))) [("_law_at", 9)] (is := [9]) (ei_range1 (n := (C.length : Int)) (ea_cons (Ev.cast (ev_len (.inl rfl) (ea_cons (ev_var (d := crD C) 0 rfl rfl (Or.inr (Or.inl rfl))) ea_nil) rfl g.len (by decide +kernel)) (by rw [List.length_map])) ea_nil) rfl g.range (by omega) (by omega)) rfl hW (blkOk_by (N := ["_law_crowd_here", "_law_many", "_law_found", "_law_powers", "_law_spot", "_law_weight", "_law_k", "_law_amount", "_law_one", "_law_at"]) (sc := defScope sLawCrowdSums) (by decide +kernel)) (by rw [List.length_range]; omega) (by decide) (fun j hj => by
          have hj2 := List.mem_range.mp hj
          have hCj : atI (C.map prI) (j : Int) = some (prI (C.getD j (0, 0))) := atI_nat (by rw [List.getElem?_map, List.getElem?_eq_getElem hj2, List.getD_eq_getElem?_getD, List.getElem?_eq_getElem hj2]; rfl)
          refine ⟨_, fun s H Cc cl fp => ⟨(eg_name 9 scLawCrowdSums.nd rfl (Or.inl rfl) (.inl hW)), (ev_call f5 hr (ea_cons (ev_ixL (ev_var 3 rfl rfl (Or.inr (Or.inl rfl))) (ev_var 9 rfl rfl (Or.inl rfl)) (atI_fr (by omega))) (ea_cons (ev_ixT (ds := [fr ((C.getD j (0, 0)).1 : Rat), fr ((C.getD j (0, 0)).2 : Rat)]) (ev_ixL (ev_var 0 rfl rfl (Or.inr (Or.inl rfl))) (ev_var 9 rfl rfl (Or.inl rfl)) hCj) ev_int rfl) ea_nil)) ⟨_, _, rfl, ⟨sl_get k1 j, ?_⟩, rfl⟩ rfl)⟩⟩
          rw [List.getD_eq_getElem?_getD, List.getElem?_eq_getElem hj2]
          exact h3 _ (List.getElem_mem hj2))) rfl scLawCrowdSums.nd)) (d1 := pl (powsC C (i + 1))) (congrArg D.lst (powsS C i))) scLawCrowdSums.nd rfl (Or.inr rfl) (.inl hW)) ?_ fun _ _ h => h)
        rintro _ rfl
        refine ⟨by omega, .val (.int (i : Int)), .val (fr (tot (powsC C i))), x8, ?_⟩
        have e : sumsC C (i + 1) = sumsC C i ++ [tot (powsC C i)] := by
          unfold sumsC
          rw [List.range_succ, List.map_append]
          rfl
        rw [e, ← frL_snoc]
        rfl
    · rintro _ ⟨_, x6, x7, x8, rfl⟩
      rw [List.length_map, List.length_range, Int.toNat_natCast]
      exact ⟨_, x6, x7, x8, rfl⟩
    · rintro _ ⟨x3, x6, x7, x8, rfl⟩
      exact ss_one (st_retO 2 rfl (.inl hW) rfl rfl (Or.inl rfl))
theorem ok_law_weights {f : Addr} {fd : FuncData} (F : Fun K "_law_weights" "_law_weights" sLawWeights f fd) (hb : Binds K fd ["_law_crowd_here", "_law_spot"] []) (hm : mg "_law_weights" = some (.ref f)) (f1 : FnA P w K mg base 42 "_law_less" ["_law_one", "_law_other"] rIsLess)
    (f4 : FnA P w K mg base 42 "_law_plus" ["_law_one", "_law_other"] rPlus) : FnA P w K mg base 43 "_law_weights" ["_law_crowd_here", "_law_spot"] rWeights := by
  refine fnA_mk F scLawWeights hb hm (fun as d h => ?_) (by decide) (fun cdv A outer s H E W hW hr as d h => ?_)
  · obtain ⟨C, a, rfl, _⟩ := h
    rfl
  · obtain ⟨C, a, rfl, ⟨h1, h2, h3, h4⟩, rfl⟩ := h
    refine ss_seq (st_own 2 (ef_lst (ds := [fr 0, fr 0]) (ea_cons (ev_pair ev_int ev_int) (ea_cons (ev_pair ev_int ev_int) ea_nil)) (by show 2 ≤ 1000; decide)) scLawWeights.nd rfl (Or.inl rfl) (by show 2 < 5; decide) (.inl hW)) ?_
    refine ss_cons (M := fun ρ => ∃ x3 x4, ρ = [.val (crD C), .val (fr a), .own [fr (belC C a), fr (upC C a)], x3, x4]) (st_for (fun i ρ => i ≤ C.length ∧ ∃ x3 x4, ρ = [.val (crD C), .val (fr a), .own [fr (belC (C.take i) a), fr (upC (C.take i) a)], x3, x4]) (ei_list (ev_var 0 rfl rfl (Or.inl rfl))) ⟨Nat.zero_le _, .un, .un, rfl⟩ PassesOwn.never rfl ?_ ?_) ?_
    · rintro i d _ hi ⟨hle, x3, x4, rfl⟩
      obtain ⟨z, hz, rfl⟩ := get_crD hi
      have hlt := (List.getElem?_eq_some_iff.mp hz).1
      obtain ⟨sz1, sz2⟩ := h3 z (List.mem_of_getElem? hz)
      obtain ⟨sb, su⟩ := h4 i hle
      obtain ⟨eb, eu⟩ := C_take hz a
      refine ⟨_, _, (eg_pair rfl (eg_name 3 scLawWeights.nd rfl (Or.inl rfl) (.inl hW)) (eg_name 4 scLawWeights.nd rfl (Or.inl rfl) (.inl hW))), ?_⟩
      refine ss_seq (ρ1 := [.val (crD C), .val (fr a), .own [fr (belC (C.take (i + 1)) a), fr (upC (C.take i) a)], .val (fr (z.1 : Rat)), .val (fr (z.2 : Rat))]) (st_if (et_val (ev_call f1 hr (ea_cons (ev_var 3 rfl rfl (Or.inl rfl)) (ea_cons (ev_var 1 rfl rfl (Or.inl rfl)) ea_nil)) ⟨_, _, rfl, ⟨sz1, h2⟩, rfl⟩ rfl)) (fun hc => ?_) (fun hc => ss_nil ?_)) ?_
      · have hc := of_decide_eq_true hc
        refine ss_one (StD.imp (st_item 2 (ds := [fr (belC (C.take i) a), fr (upC (C.take i) a)]) rfl (ev_call f4 hr (ea_cons (ev_ixO 2 (.inl rfl) ev_int rfl rfl (Or.inl rfl)) (ea_cons (ev_var 4 rfl rfl (Or.inl rfl)) ea_nil)) ⟨_, _, rfl, ⟨sb, sz2⟩, rfl⟩ rfl) ev_int rfl rfl (Or.inl rfl)) ?_ fun _ _ h => h)
        rintro _ rfl
        rw [eb]
        unfold belS
        rw [if_pos hc]
        rfl
      · have hc := of_decide_eq_false hc
        rw [eb]
        unfold belS
        rw [if_neg hc]
        rfl
      refine ss_one (st_if (et_not (et_val (ev_call f1 hr (ea_cons (ev_var 1 rfl rfl (Or.inl rfl)) (ea_cons (ev_var 3 rfl rfl (Or.inl rfl)) ea_nil)) ⟨_, _, rfl, ⟨h2, sz1⟩, rfl⟩ rfl))) (fun hc => ?_) (fun hc => ss_nil ⟨hlt, .val (fr (z.1 : Rat)), .val (fr (z.2 : Rat)), ?_⟩))
      · have hc : ¬ a < (z.1 : Rat) := by simpa using hc
        refine ss_one (StD.imp (st_item 2 (ds := [fr (belC (C.take (i + 1)) a), fr (upC (C.take i) a)]) rfl (ev_call f4 hr (ea_cons (ev_ixO 2 (.inl rfl) ev_int rfl rfl (Or.inl rfl)) (ea_cons (ev_var 4 rfl rfl (Or.inl rfl)) ea_nil)) ⟨_, _, rfl, ⟨su, sz2⟩, rfl⟩ rfl) ev_int rfl rfl (Or.inl rfl)) ?_ fun _ _ h => h)
        rintro _ rfl
        refine ⟨hlt, .val (fr (z.1 : Rat)), .val (fr (z.2 : Rat)), ?_⟩
        rw [eu]
        unfold upS
        rw [if_neg hc]
        rfl
      · have hc : a < (z.1 : Rat) := by simpa using hc
        rw [eu]
        unfold upS
        rw [if_pos hc]
    · rintro _ ⟨_, x3, x4, rfl⟩
      rw [List.length_map, List.take_of_length_le (Nat.le_refl _)]
      exact ⟨x3, x4, rfl⟩
    · rintro _ ⟨x3, x4, rfl⟩
      exact ss_one (st_retO 2 rfl (.inl hW) rfl rfl (Or.inl rfl))
/-- the law's own defs -/
structure Hel (P : Program) (w : World) (K : PySem.W.Frag) (mg : Str → Option Value) (base : Heap) : Prop where
  B : Bac P w K mg base
  leastSquare : FnA P w K mg base 51 "least_square" ["sums", "spot"] rLeastSquare
  showsMost : FnA P w K mg base 51 "shows_most" ["sums", "spot", "number", "f"] rShowsMost
  flockAt : FnA P w K mg base 51 "flock_at" ["sums", "spot"] rFlockAt
  weightUpTo : FnA P w K mg base 51 "weight_up_to" ["flock", "spot", "width"] rWeightUpTo
  less : FnA P w K mg base 42 "_law_less" ["_law_one", "_law_other"] rIsLess
  low : FnA P w K mg base 41 "_law_low" ["_law_top", "_law_bottom"] rRatio
  minus : FnA P w K mg base 42 "_law_minus" ["_law_one", "_law_other"] rMinus
  times : FnA P w K mg base 42 "_law_times" ["_law_one", "_law_other"] rTimes
  take : FnM P w K mg base 42 "_law_take" ["_law_state_here", "_law_many"] rTake
  small : FnM P w K mg base 43 "_law_small" ["_law_state_here"] rSmall
  above : FnM P w K mg base 43 "_law_above" ["_law_state_here"] rAbove
  spotCrowd : FnM P w K mg base 45 "_law_spot_crowd" ["_law_state_here", "_law_most"] rSpotCrowd
  state : FnF P w K mg base 43 "_law_state" ["_law_script", "_law_k"] rState
  crowdSums : FnA P w K mg base 43 "_law_crowd_sums" ["_law_crowd_here", "_law_many"] rCrowdSums
  weights : FnA P w K mg base 43 "_law_weights" ["_law_crowd_here", "_law_spot"] rWeights
theorem ok_law_bounds {f : Addr} {fd : FuncData} (F : Fun K "_law_bounds" "_law_bounds" sLawBounds f fd) (hb : Binds K fd ["_law_crowd_here", "_law_sums", "_law_spot", "_law_width"] []) (hm : mg "_law_bounds" = some (.ref f)) (Hh : Hel P w K mg base) : FnA P w K mg base 52 "_law_bounds" ["_law_crowd_here", "_law_sums", "_law_spot", "_law_width"] rBounds := by
  refine fnA_mk F scLawBounds hb hm (fun as d h => ?_) (by decide) (fun cdv A outer s H E W hW hr as d h => ?_)
  · obtain ⟨C, sums, a, width, rfl, _⟩ := h
    rfl
  · obtain ⟨C, sums, a, width, rfl, ⟨hwg, n, f, hls, sn, sub, hlt, hsm, hev, hsq, r, hfl, hcase⟩, rfl⟩ := h
    have B := Hh.B
    have T := B.C.V.T
    have L := T.L
    have r2 : Room 42 _ := hr.mono (by decide)
    have swg := hwg.2.2.2 C.length (Nat.le_refl _)
    rw [List.take_of_length_le (Nat.le_refl _)] at swg
    refine ss_seq (st_asg (ev_call Hh.leastSquare hr (ea_cons (EvF.ev (ef_list (ev_var 1 rfl rfl (Or.inl rfl)) rfl L.g.list (by decide +kernel))) (ea_cons (ev_var 2 rfl rfl (Or.inl rfl)) ea_nil)) ⟨sums, a, n, f, rfl, hls, rfl⟩ rfl) (eg_pair rfl (eg_name 4 scLawBounds.nd rfl (Or.inl rfl) (.inl hW)) (eg_name 5 scLawBounds.nd rfl (Or.inl rfl) (.inl hW)))) ?_
    refine ss_seq (st_asg (ev_call Hh.weights (hr.mono (by decide)) (ea_cons (ev_var 0 rfl rfl (Or.inl rfl)) (ea_cons (ev_var 2 rfl rfl (Or.inl rfl)) ea_nil)) ⟨C, a, rfl, hwg, rfl⟩ rfl) (eg_pairL rfl (eg_name 6 scLawBounds.nd rfl (Or.inl rfl) (.inl hW)) (eg_name 7 scLawBounds.nd rfl (Or.inl rfl) (.inl hW)))) ?_
    refine ss_seq (st_if (c := false) (et_or2 (c := false) (k := false) (EvT.cast (et_val (ev_call Hh.less r2 (ea_cons (ev_var 4 rfl rfl (Or.inl rfl)) (ea_cons (ev_call Hh.minus r2 (ea_cons (ev_var 7 rfl rfl (Or.inl rfl)) (ea_cons (ev_var 6 rfl rfl (Or.inl rfl)) ea_nil)) ⟨_, _, rfl, ⟨swg.2, swg.1⟩, rfl⟩ rfl) ea_nil)) ⟨n, _, rfl, ⟨sn, sub⟩, rfl⟩ rfl)) (decide_eq_false hlt)) (fun _ => EvT.cast (et_notBl (ev_call Hh.showsMost hr (ea_cons (EvF.ev (ef_list (ev_var 1 rfl rfl (Or.inl rfl)) rfl L.g.list (by decide +kernel))) (ea_cons (ev_var 2 rfl rfl (Or.inl rfl)) (ea_cons (ev_var 4 rfl rfl (Or.inl rfl)) (ea_cons (ev_var 5 rfl rfl (Or.inl rfl)) ea_nil)))) ⟨sums, a, n, f, rfl, hsm, rfl⟩ rfl) ev_bl) (by rw [decide_eq_true hev, decide_eq_true hsq]; rfl))) (fun z => nomatch z) (fun _ => ss_nil rfl)) ?_
    refine ss_seq (st_set 8 (ev_call Hh.flockAt hr (ea_cons (EvF.ev (ef_list (ev_var 1 rfl rfl (Or.inl rfl)) rfl L.g.list (by decide +kernel))) (ea_cons (ev_var 2 rfl rfl (Or.inl rfl)) ea_nil)) ⟨sums, a, r, rfl, hfl, rfl⟩ rfl) scLawBounds.nd rfl (Or.inl rfl) (.inl hW)) ?_
    rcases hcase with rfl | ⟨fw, lo, hi, rfl, he, hn, hwu, slo, shi, sln, c1, c2⟩
    · exact ss_cons (M := fun _ => False) (st_if (c := true) (et_isN (ev_var (d := .non) 8 rfl rfl (Or.inl rfl))) (fun _ => ss_one (st_ret ev_bl rfl)) (fun z => nomatch z)) (fun _ z => z.elim)
    · refine ss_seq (st_if (c := false) (et_isN (ev_var (d := flD fw) 8 rfl rfl (Or.inl rfl))) (fun z => nomatch z) (fun _ => ss_nil rfl)) ?_
      refine ss_seq (st_if (c := false) (EvT.cast (et_neF r2 (ev_number_at T (hr.mono (by decide)) (ev_ixT (ds := [pl fw.1, pl fw.2]) (ev_var 8 rfl rfl (Or.inl rfl)) ev_int rfl) (ev_var 2 rfl rfl (Or.inl rfl)) he) (ev_var 4 rfl rfl (Or.inl rfl))) (by rw [decide_eq_true hn]; rfl)) (fun z => nomatch z) (fun _ => ss_nil rfl)) ?_
      refine ss_seq (st_asg (ev_call Hh.weightUpTo hr (ea_cons (ev_var 8 rfl rfl (Or.inl rfl)) (ea_cons (ev_var 2 rfl rfl (Or.inl rfl)) (ea_cons (ev_var 3 rfl rfl (Or.inl rfl)) ea_nil))) ⟨fw, a, width, lo, hi, rfl, hwu, rfl⟩ rfl) (eg_pair rfl (eg_name 9 scLawBounds.nd rfl (Or.inl rfl) (.inl hW)) (eg_name 10 scLawBounds.nd rfl (Or.inl rfl) (.inl hW)))) ?_
      refine ss_one (st_ret (ev_and2 (c := true) (k := true) (Ev.cast (ev_not (ev_call Hh.less r2 (ea_cons (ev_var 10 rfl rfl (Or.inl rfl)) (ea_cons (ev_var 7 rfl rfl (Or.inl rfl)) ea_nil)) ⟨_, _, rfl, ⟨shi, swg.2⟩, rfl⟩ rfl)) (by rw [decide_eq_false c1]; rfl)) (fun _ => Ev.cast (ev_not (ev_call Hh.less r2 (ea_cons (ev_var 6 rfl rfl (Or.inl rfl)) (ea_cons (ev_call Hh.minus r2 (ea_cons (ev_var 9 rfl rfl (Or.inl rfl)) (ea_cons (ev_var 4 rfl rfl (Or.inl rfl)) ea_nil)) ⟨_, _, rfl, ⟨slo, sn⟩, rfl⟩ rfl) ea_nil)) ⟨_, _, rfl, ⟨swg.1, sln⟩, rfl⟩ rfl)) (by rw [decide_eq_false c2]; rfl))) rfl)
theorem tmL_take (sums : List Rat) (c a : Rat) {i : Nat} {q : Rat} (h : sums[i]? = some q) : (tmL sums c a).take (i + 1) = (tmL sums c a).take i ++ [q - tmAt c a i] := by
  refine take_snoc ?_
  unfold tmL
  rw [List.getElem?_map, List.getElem?_zipIdx, h]
  simp
theorem tmL_length (sums : List Rat) (c a : Rat) : (tmL sums c a).length = sums.length := by
  unfold tmL
  rw [List.length_map, List.length_zipIdx]
theorem ok_law_too_much {f : Addr} {fd : FuncData} (F : Fun K "_law_too_much" "_law_too_much" sLawTooMuch f fd) (hb : Binds K fd ["_law_sums", "_law_spot", "_law_more"] []) (hm : mg "_law_too_much" = some (.ref f)) (Hh : Hel P w K mg base) : FnA P w K mg base 52 "_law_too_much" ["_law_sums", "_law_spot", "_law_more"] rTooMuch := by
  refine fnA_mk F scLawTooMuch hb hm (fun as d h => ?_) (by decide) (fun cdv A outer s H E W hW hr as d h => ?_)
  · obtain ⟨sums, a, more, rfl, _⟩ := h
    rfl
  · obtain ⟨sums, a, more, rfl, ⟨hl, hs, sa, hm0, hm1, n, ff, hls, sn, stm, b, hbk, hnf⟩, rfl⟩ := h
    have B := Hh.B
    have T := B.C.V.T
    have L := T.L
    have r2 : Room 42 _ := hr.mono (by decide)
    have hB : Big (bx P w K mg base ["_law_sums", "_law_spot", "_law_more", "_law_number", "_law_found", "_law_one"] "_law_too_much" (defScope sLawTooMuch) f cdv A outer s H E) := ⟨L.g.seer, L.g.tree, rfl, rfl, rfl, by have := hr.dp; exact Nat.lt_of_le_of_lt (Nat.add_le_add_left (by decide) _) this⟩
    refine ss_seq (st_set 3 (ev_ixT (ds := [fr n, pl ff]) (ev_call Hh.leastSquare hr (ea_cons (EvF.ev (ef_list (ev_var 0 rfl rfl (Or.inl rfl)) rfl L.g.list (by decide +kernel))) (ea_cons (ev_var 1 rfl rfl (Or.inl rfl)) ea_nil)) ⟨sums, a, n, ff, rfl, hls, rfl⟩ rfl) ev_int rfl) scLawTooMuch.nd rfl (Or.inl rfl) (.inl hW)) ?_
    refine ss_seq (st_set 3 (ev_call Hh.low (hr.mono (by decide)) (ea_cons (ev_add (ev_fdiv hB (ev_mul (ev_num (ev_var 3 rfl rfl (Or.inl rfl))) (ev_var 2 rfl rfl (Or.inl rfl)) ⟨sn.num, few_small (by omega)⟩) (ev_den (ev_var 3 rfl rfl (Or.inl rfl))) (den_nz n)) ev_int) (ea_cons (ev_var 2 rfl rfl (Or.inl rfl)) ea_nil)) ⟨_, more, rfl, by omega, rfl⟩ rfl) scLawTooMuch.nd rfl (Or.inl rfl) (.inl hW)) ?_
    have htm : Rat.divInt ((n.num * more).fdiv n.den + 1) more = tmN n more := rfl
    rw [htm]
    generalize tmN n more = c at *
    refine ss_seq (st_own 4 (ef_lst (ds := []) ea_nil (by show 0 ≤ 1000; decide)) scLawTooMuch.nd rfl (Or.inl rfl) (by show 4 < 6; decide) (.inl hW)) ?_
    refine ss_cons (M := fun ρ => ∃ x3 x5, ρ = [.val (pl sums), .val (fr a), .val (.int more), x3, .own ((tmL sums c a).map fr), x5]) (st_for (fun i ρ => i ≤ sums.length ∧ ∃ x5, ρ = [.val (pl sums), .val (fr a), .val (.int more), .val (fr (tmAt c a i)), .own (((tmL sums c a).take i).map fr), x5]) (ei_list (ev_var 0 rfl rfl (Or.inl rfl))) ⟨Nat.zero_le _, .un, by
      have : tmAt c a 0 = c := by unfold tmAt; rw [Rat.pow_zero, Rat.mul_one]
      rw [this]
      rfl⟩ PassesOwn.never rfl ?_ ?_) ?_
    · rintro i d _ hi ⟨hle, x5, rfl⟩
      obtain ⟨q, hq, rfl⟩ := get_map hi
      have hlt := (List.getElem?_eq_some_iff.mp hq).1
      refine ⟨_, _, eg_name 5 scLawTooMuch.nd rfl (Or.inl rfl) (.inl hW), ?_⟩
      refine ss_seq (st_append 4 rfl ⟨_, rfl⟩ (ev_call Hh.minus r2 (ea_cons (ev_var 5 rfl rfl (Or.inl rfl)) (ea_cons (ev_var 3 rfl rfl (Or.inl rfl)) ea_nil)) ⟨q, tmAt c a i, rfl, ⟨hs q (List.mem_of_getElem? hq), stm i hlt⟩, rfl⟩ rfl) (by rw [List.length_map, List.length_take, tmL_length]; omega) rfl (Or.inl rfl)) ?_
      refine ss_one (StD.imp (st_set 3 (ev_call Hh.times r2 (ea_cons (ev_var 3 rfl rfl (Or.inl rfl)) (ea_cons (ev_var 1 rfl rfl (Or.inl rfl)) ea_nil)) ⟨tmAt c a i, a, rfl, ⟨stm i hlt, sa⟩, rfl⟩ rfl) scLawTooMuch.nd rfl (Or.inl rfl) (.inl hW)) ?_ fun _ _ h => h)
      rintro _ rfl
      refine ⟨hlt, .val (fr q), ?_⟩
      have e2 : tmAt c a i * a = tmAt c a (i + 1) := by unfold tmAt; rw [Rat.pow_succ, Rat.mul_assoc]
      rw [tmL_take sums c a hq, ← frL_snoc, ← e2]
      rfl
    · rintro _ ⟨_, x5, rfl⟩
      refine ⟨.val (fr (tmAt c a (sums.map fr).length)), x5, ?_⟩
      rw [List.length_map, List.take_of_length_le (by rw [tmL_length]; exact Nat.le_refl _)]
    · rintro _ ⟨x3, x5, rfl⟩
      refine ss_freeze 4 rfl (.inl hW) ?_
      cases b with
      | below g => exact ss_one (st_ret (ev_neS (x := "below") (y := "flock") (ev_ixT (ds := [.str "below", pl g]) (ev_call B.back (hr.mono (by decide)) (ea_cons (ev_var 4 rfl rfl (Or.inl rfl)) ea_nil) ⟨_, _, rfl, hbk, rfl⟩ rfl) ev_int rfl) ev_str) rfl)
      | nought g k => exact ss_one (st_ret (ev_neS (x := "nought") (y := "flock") (ev_ixT (ds := [.str "nought", pl g, pl (pwr k)]) (ev_call B.back (hr.mono (by decide)) (ea_cons (ev_var 4 rfl rfl (Or.inl rfl)) ea_nil) ⟨_, _, rfl, hbk, rfl⟩ rfl) ev_int rfl) ev_str) rfl)
      | flock w => exact hnf.elim
theorem CrOk.len {C : ICr} (h : CrOk C) : 0 < C.length ∧ C.length ≤ 3 := by
  rcases h with ⟨x, w, rfl, _⟩ | ⟨x, w, d, w2, rfl, _⟩ | ⟨x, w, d, w2, d2, w3, rfl, _⟩ <;> simp
theorem CrOk.spot {C : ICr} (h : CrOk C) {i : Nat} {z : Int × Int} (hz : C[i]? = some z) : -6 ≤ z.1 ∧ z.1 ≤ 18 := by
  have hm := List.mem_of_getElem? hz
  rcases h with ⟨x, w, rfl, h⟩ | ⟨x, w, d, w2, rfl, h⟩ | ⟨x, w, d, w2, d2, w3, rfl, h⟩ <;> simp at hm <;> (try rcases hm with rfl | rfl | rfl) <;> (try rcases hm with rfl | rfl) <;> (try subst hm) <;> dsimp <;> omega
theorem fr_quarter : D.tup [.int 1, .int 4] = fr (1 / 4) := by
  unfold fr
  rw [show (1 / 4 : Rat).num = 1 by decide +kernel, show (1 / 4 : Rat).den = 4 by decide +kernel]
  rfl
def rLaw (as : List Ar) (d : D) : Prop := ∃ ns : List Int, as = [.v (.scr ns)] ∧ d = .bl true
theorem ok_law {f : Addr} {fd : FuncData} (F : Fun K "law" "law" sLaw f fd) (hb : Binds K fd ["_law_script"] []) (hm : mg "law" = some (.ref f)) (Hh : Hel P w K mg base) (f_bd : FnA P w K mg base 52 "_law_bounds" ["_law_crowd_here", "_law_sums", "_law_spot", "_law_width"] rBounds)
    (f_tm : FnA P w K mg base 52 "_law_too_much" ["_law_sums", "_law_spot", "_law_more"] rTooMuch) (PL : PlainLaw) : FnA P w K mg base 53 "law" ["_law_script"] rLaw := by
  refine fnA_mk F scLaw hb hm (fun as d h => ?_) (by decide) (fun cdv A outer s H E W hW hr as d h => ?_)
  · obtain ⟨ns, rfl, _⟩ := h
    rfl
  · obtain ⟨ns, rfl, rfl⟩ := h
    have L := Hh.B.C.V.T.L
    have r42 : Room 42 _ := hr.mono (by decide)
    have r43 : Room 43 _ := hr.mono (by decide)
    have r45 : Room 45 _ := hr.mono (by decide)
    refine ss_cons (M := fun _ => True) (st_for (fun i ρ => ∃ x1 x2 x3 x4 x5 x6 x7, ρ = [.val (.scr ns), x1, x2, x3, x4, x5, x6, x7]) (ei_range1 (ea_cons (ev_callB (call_max2 rfl) rc_max (ea_cons ev_int (ea_cons (ev_callB (call_min2 rfl) rc_min (ea_cons (ev_callB call_len_seq rc_lenS (ea_cons (ev_var 0 rfl rfl (Or.inl rfl)) ea_nil) rfl L.g.len (by decide +kernel)) (ea_cons ev_int ea_nil)) rfl L.g.min (by decide +kernel)) ea_nil)) rfl L.g.max (by decide +kernel)) ea_nil) rfl L.g.range (by omega) (by omega)) ⟨.un, .un, .un, .un, .un, .un, .un, rfl⟩ PassesOwn.never rfl ?_ (fun _ _ => trivial)) (fun ρ _ => ss_one (st_ret ev_bl rfl))
    rintro i d _ hi ⟨x1, x2, x3, x4, x5, x6, x7, rfl⟩
    obtain ⟨_, rfl⟩ := get_rng hi
    refine ⟨_, _, eg_name 1 scLaw.nd rfl (Or.inl rfl) (.inl hW), ?_⟩
    have st0 := stX_ok (ns.getD i 0)
    refine ss_seq (st_own 2 (ef_call (as := [.scr ns, .int (i : Int)]) Hh.state r43 (ea_cons (ev_var 0 rfl rfl (Or.inl rfl)) (ea_cons (ev_var 1 rfl rfl (Or.inl rfl)) ea_nil)) ⟨ns, i, rfl, rfl⟩ rfl) scLaw.nd rfl (Or.inl rfl) (by show 2 < 8; decide) (.inl hW)) ?_
    generalize stX (ns.getD i 0) = y0 at *
    generalize stB (ns.getD i 0) = b at *
    refine ss_seq (st_set 3 (ev_callM 2 (as := [.int 3]) Hh.spotCrowd r45 rfl (ea_cons ev_int ea_nil) ⟨3, rfl, by decide, st0, rfl, rfl⟩ rfl rfl (Or.inl rfl)) scLaw.nd rfl (Or.inl rfl) (.inl hW)) ?_
    have st1 := spotCrowd_ok (most := 3) st0
    have hC := spotCrowd_cr (b := b) (x := y0)
    generalize (spotCrowd y0 b 3).2 = y1 at *
    generalize (spotCrowd y0 b 3).1 = C at *
    obtain ⟨hC0, hC3⟩ := hC.len
    have tj := takeV_rng (x := y1) (b := b) (m := 6) (by decide)
    obtain ⟨j, hj⟩ : ∃ j : Nat, takeV y1 b 6 = (j : Int) := ⟨(takeV y1 b 6).toNat, by omega⟩
    have hj5 : j ≤ 5 := by omega
    have PLj := fun a width h1 h2 h3 => PL C j a width hC hj5 h1 h2 h3
    have hso : SumsOk C (1 + 2 * j) := (PLj 0 1 (by decide) (by decide) (.inl rfl)).1
    refine ss_seq (st_set 4 (ev_call Hh.crowdSums r43 (ea_cons (ev_var 3 rfl rfl (Or.inl rfl)) (ea_cons (Ev.cast (ev_add ev_int (ev_mul ev_int (ev_callM 2 (as := [.int 6]) Hh.take r42 rfl (ea_cons ev_int ea_nil) ⟨6, rfl, by decide, by decide, st1, rfl, rfl⟩ rfl rfl (Or.inl rfl)) ⟨few_small (by decide), few_small (by omega)⟩)) (d1 := .int ((1 + 2 * j : Nat) : Int)) (by rw [hj]; congr 1)) ea_nil)) ⟨C, 1 + 2 * j, rfl, hso, rfl⟩ rfl) scLaw.nd rfl (Or.inl rfl) (.inl hW)) ?_
    have st2 := takeX_ok (m := 6) st1
    generalize takeX y1 b 6 = y2 at *
    have hsp := smallV_rng y2 b
    have st3 := takeX_ok (m := 13) st2
    have tk := takeV_rng (x := takeX y2 b 13) (b := b) (m := (C.length : Int)) (by omega)
    obtain ⟨ci, hci⟩ : ∃ j : Nat, takeV (takeX y2 b 13) b (C.length : Int) = (j : Int) := ⟨(takeV (takeX y2 b 13) b (C.length : Int)).toNat, by omega⟩
    have hcl : ci < C.length := by omega
    obtain ⟨z, hz⟩ : ∃ z, C[ci]? = some z := ⟨_, List.getElem?_eq_getElem hcl⟩
    have hzs := hC.spot hz
    have hlc : (C.map prI).length = C.length := List.length_map ..
    refine ss_seq (st_set 5 (EvF.ev (ef_lst (ds := [fr (smallV y2 b : Rat), fr (z.1 : Rat)]) (ea_cons (ev_callM 2 (as := []) Hh.small r43 rfl ea_nil ⟨rfl, st2, rfl, rfl⟩ rfl rfl (Or.inl rfl)) (ea_cons (ev_ixT (ds := [fr (z.1 : Rat), fr (z.2 : Rat)]) (ev_ixL (ds := C.map prI) (d := prI z) (ev_var 3 rfl rfl (Or.inl rfl)) (ev_callM 2 (as := [.int (C.length : Int)]) (d := .int (ci : Int)) Hh.take r42 rfl (ea_cons (Ev.cast (ev_len (.inl rfl) (ea_cons (ev_var (d := crD C) 3 rfl rfl (Or.inl rfl)) ea_nil) rfl L.g.len (by decide +kernel)) (by rw [hlc])) ea_nil) ⟨(C.length : Int), rfl, by omega, by omega, st3, by rw [hci], rfl⟩ rfl rfl (Or.inl rfl)) (atI_nat (by rw [List.getElem?_map, hz]; rfl))) ev_int rfl) ea_nil)) (by show 2 ≤ 1000; decide))) scLaw.nd rfl (Or.inl rfl) (.inl hW)) ?_
    have st4 := takeX_ok (m := (C.length : Int)) st3
    generalize takeX (takeX y2 b 13) b (C.length : Int) = y3 at *
    have hab := aboveV_rng y3 b
    have st5 := takeX_ok (m := 6) st4
    have tw := takeV_rng (x := takeX y3 b 6) (b := b) (m := 3) (by decide)
    obtain ⟨wi, hwi⟩ : ∃ j : Nat, takeV (takeX y3 b 6) b 3 = (j : Int) := ⟨(takeV (takeX y3 b 6) b 3).toNat, by omega⟩
    obtain ⟨width, hwd, hwat⟩ : ∃ width, WdOk width ∧ atI [fr 1, fr (1 / 4), fr (aboveV y3 b : Rat)] (wi : Int) = some (fr width) := by
      have h3 : wi < 3 := by omega
      match wi, h3 with
      | 0, _ => exact ⟨1, .inl rfl, atI_nat (j := 0) rfl⟩
      | 1, _ => exact ⟨1 / 4, .inr (.inl rfl), atI_nat (j := 1) rfl⟩
      | 2, _ => exact ⟨(aboveV y3 b : Rat), .inr (.inr ⟨_, hab.1, hab.2, rfl⟩), atI_nat (j := 2) rfl⟩
    refine ss_seq (st_set 6 (ev_ixL (ds := [fr 1, fr (1 / 4), fr (aboveV y3 b : Rat)]) (d := fr width) (EvF.ev (ef_lst (ds := [fr 1, fr (1 / 4), fr (aboveV y3 b : Rat)]) (ea_cons (ev_pair ev_int ev_int) (ea_cons (Ev.cast (ev_pair ev_int ev_int) fr_quarter) (ea_cons (ev_callM 2 (as := []) Hh.above r43 rfl ea_nil ⟨rfl, st4, rfl, rfl⟩ rfl rfl (Or.inl rfl)) ea_nil))) (by show 3 ≤ 1000; decide))) (ev_callM 2 (as := [.int 3]) (d := .int (wi : Int)) Hh.take r42 rfl (ea_cons ev_int ea_nil) ⟨3, rfl, by decide, by decide, st5, by rw [hwi], rfl⟩ rfl rfl (Or.inl rfl)) hwat) scLaw.nd rfl (Or.inl rfl) (.inl hW)) ?_
    generalize takeX (takeX y3 b 6) b 3 = y4 at *
    refine ss_one (StD.imp (st_for (Nx := fun ρ => ∃ x1 x2 x3 x4 x5 x6 x7, ρ = [.val (.scr ns), x1, x2, x3, x4, x5, x6, x7]) (fun k ρ => ∃ x7, ρ = [.val (.scr ns), .val (.int (i : Int)), .own (stt y4 b), .val (crD C), .val (pl (sumsC C (1 + 2 * j))), .val (.lst [fr (smallV y2 b : Rat), fr (z.1 : Rat)]), .val (fr width), x7]) (ei_list (ev_var 5 rfl rfl (Or.inl rfl))) ⟨x7, rfl⟩ PassesOwn.never rfl ?_ ?_) (fun _ h => h) fun _ _ h => h)
    · rintro k d _ hk ⟨x7, rfl⟩
      obtain ⟨a, ha1, ha2, rfl⟩ : ∃ a : Int, -6 ≤ a ∧ a ≤ 18 ∧ d = fr (a : Rat) := by
        match k with
        | 0 =>
          cases hk
          exact ⟨_, hsp.1, by omega, rfl⟩
        | 1 =>
          cases hk
          exact ⟨_, hzs.1, hzs.2, rfl⟩
        | k + 2 => cases hk
      obtain ⟨_, hbd, htm⟩ := PLj a width ha1 ha2 hwd
      refine ⟨_, _, eg_name 7 scLaw.nd rfl (Or.inl rfl) (.inl hW), ?_⟩
      refine ss_one (st_if (c := false) (et_or2 (c := false) (k := false) (et_not (c := true) (et_val (ev_call f_bd hr (ea_cons (ev_var 3 rfl rfl (Or.inl rfl)) (ea_cons (ev_var 4 rfl rfl (Or.inl rfl)) (ea_cons (ev_var 7 rfl rfl (Or.inl rfl)) (ea_cons (ev_var 6 rfl rfl (Or.inl rfl)) ea_nil)))) ⟨C, _, _, width, rfl, hbd, rfl⟩ rfl))) (fun _ => (et_not (c := true) (et_val (ev_call f_tm hr (ea_cons (ev_var 4 rfl rfl (Or.inl rfl)) (ea_cons (ev_var 7 rfl rfl (Or.inl rfl)) (ea_cons ev_int ea_nil))) ⟨_, _, 64, rfl, htm, rfl⟩ rfl))))) (fun z => nomatch z) (fun _ => ss_nil ⟨.val (fr (a : Rat)), rfl⟩))
    · rintro _ ⟨x7, rfl⟩
      exact ⟨_, _, _, _, _, _, x7, rfl⟩
end
end M66
/-! The head: the law's def called behind the top, with what integer division asks of the heap. -/
namespace M66
open PySem PySem.Spec PyProof.Rows L2

/-- a def of the top, as K has it -/
structure DefIn (K : PySem.W.Frag) (x : Str) (st : Stmt) : Prop where
  ex : ∃ f fd, PySem.W.nsIn K mainGlobals x = some (some (.ref f)) ∧ Fun K x x st f fd
theorem DefIn.of {K : PySem.W.Frag} {x : Str} {st : Stmt} {f : Addr} {oc : Value} {od an : Option Addr} {osl : Array (Option Value)} {kV doc pm cdv ct : Value} (a : PySem.W.nsIn K mainGlobals x = some (some (.ref f)))
    (l : K.lookup f = some ⟨oc, od, .func (PySem.W.fnOf x x (defArgs st) (defBody st) (defScope st) .none kV doc pm an cdv ct), osl⟩) (c : PySem.W.codeIn K cdv x = true) (k : PySem.W.keepIn K (.ref f) = true) : DefIn K x st := ⟨f, _, a, fun_mk l c k⟩
/-- a constant of the top: a tuple of whole numbers -/
structure ConIn (K : PySem.W.Frag) (x : Str) (ns : List Int) : Prop where
  ex : ∃ a, PySem.W.nsIn K mainGlobals x = some (some (.ref a)) ∧ WrT K a (ns.map V.int)
theorem vals_two {i j : Int} {t u : Nat} : Vals ([i, j].map V.int) [.int i t, .int j u] := .cons ⟨t, rfl⟩ (.cons ⟨u, rfl⟩ .nil)
theorem ConIn.of {K : PySem.W.Frag} {x : Str} {i j : Int} {a : Addr} {o : Obj} {t u n : Nat} (h1 : PySem.W.nsIn K mainGlobals x = some (some (.ref a))) (h2 : K.lookup a = some o) (h3 : o.cls = .type "tuple" ∧ o.data = .seq #[.int i t, .int j u] n) : ConIn K x [i, j] :=
  ⟨a, h1, .inr ⟨o, _, n, h2, h3.1, h3.2, by show 2 ≤ sizeLine; decide, vals_two⟩⟩

/-- what is left of the heap without the script has no seer either -/
theorem seerless {h : Heap} {H : Hp} {a : Addr} {its : Array Value} (x : h.NoSeer) (ha : h.get? a = some { cls := .type "list", data := .seq its }) (only : ∀ b, H b ≠ none → b = a) : (hidT h H).NoSeer := by
  have free : ∀ {b : Addr} {o : Obj}, h.get? b = some o → o.cls ≠ .type "list" ∨ (∃ es ep, o.data = .dict es ep) → (hidT h H).get? b = some o := by
    intro b o e d
    refine hidT_get e ?_
    cases q : H b with
    | none => rfl
    | some u =>
      exfalso
      obtain rfl : b = a := only b (by rw [q]; exact fun z => nomatch z)
      rw [ha] at e
      cases e
      rcases d with d | ⟨es, ep, d⟩
      · exact d rfl
      · cases d
  have ns : ∀ {b : Addr} {m : Str → Option Value}, h.Ns b m → (hidT h H).Ns b m := by
    rintro b m ⟨o, es, ep, e, d, r⟩
    exact ⟨o, es, ep, free e (.inr ⟨es, ep, d⟩), d, r⟩
  obtain ⟨mc, s1, s2⟩ := x.statics
  obtain ⟨mm, t1, t2⟩ := x.mods
  obtain ⟨mb, u1, u2⟩ := x.imp
  obtain ⟨mg, bm, ob, v1, v2, v3, v4, v5⟩ := x.main
  exact ⟨⟨mc, ns s1, s2⟩, ⟨mm, ns t1, t2⟩, ⟨mb, ns u1, u2⟩, ⟨mg, bm, ob, ns v1, v2, free v3 (.inl (by rw [v4]; decide)), v4, v5⟩⟩
section
variable {P : Program} {w : World} {K : PySem.W.Frag} {mg mb : Str → Option Value} {fa a : Addr} {s : Shared} {us : List Value} {ns : List Int}
/-- the call of the law: H tells what is tracked, the script at most -/
theorem seen_core {H : Hp} (KX : K.In s.heap) (hns : s.heap.Ns mainGlobals mg) (hb : s.heap.Ns builtinsNs mb) (hbb : ∀ x : Str, x ≠ "__name__" → mb x = bootBuiltins x) (hlim : s.heap.NoLimit) (hse : s.heap.NoSeer) (hg : s.gens = #[])
    (ha : s.heap.get? a = some { cls := .type "list", data := .seq us.toArray }) (F : ∀ base : Heap, base.NoSeer → FnA P w K mg base 53 "law" ["_law_script"] rLaw) (hfa : mg "law" = some (.ref fa))
    (only : ∀ b, H b ≠ none → b = a) (frz : ∀ u, H a = some u → ∃ o xs, u = .frz o (.lst xs)) (hS : SqL K H a (ns.map V.int)) (hok : HOk P w H s.heap) (hK : H a ≠ none → K.lookup a = none) :
    codeAny (model P w) callerA (.call (.ref fa) ⟨[.ref a], []⟩) (fun r s' => r = .ok (.ret (.bool true)) ∧ OldK s.heap s'.heap ∧ s'.os = s.os ∧ AllBare s'.gens) s := by
  have seer := seerless (H := H) hse ha only
  have free : ∀ {b : Addr} {o : Obj}, s.heap.get? b = some o → (b = a → H a = none) → (hidT s.heap H).get? b = some o := by
    intro b o e d
    refine hidT_get e ?_
    cases q : H b with
    | none => rfl
    | some u =>
      obtain rfl := only b (by rw [q]; exact fun z => nomatch z)
      rw [d rfl] at q
      cases q
  have nsT : ∀ {b : Addr} {m : Str → Option Value}, s.heap.Ns b m → (hidT s.heap H).Ns b m := by
    rintro b m ⟨o, es, ep, e, d, r⟩
    refine ⟨o, es, ep, free e (fun z => ?_), d, r⟩
    subst z
    rw [ha] at e
    cases e
    cases d
  have KT : K.In (hidT s.heap H) := fun b o e => free (KX b o e) fun z => by
    subst z
    cases q : H b with
    | none => rfl
    | some u =>
      rw [hK (by rw [q]; exact fun z => nomatch z)] at e
      cases e
  have limT : (hidT s.heap H).NoLimit := by
    obtain ⟨mc, h1, h2⟩ := hlim
    exact ⟨mc, nsT h1, h2⟩
  have hM : L2.Mod K mg (hidT s.heap H) := ⟨KT, nsT hns, ⟨mb, nsT hb, hbb⟩, limT⟩
  have hE : Env0 P w K mg (hidT s.heap H) callerA [] s H := by
    refine ⟨rfl, hM, fun b o e => of_hidT e, Nat.le_of_eq (hidT_size _ _), trivial, fun b hb => ?_, hok, .of_eq hg⟩
    cases hb
  obtain ⟨f', fd, hF, hm, _, hbd⟩ := (F _ seer).at_
  obtain rfl : f' = fa := by
    have := hm.symm.trans hfa
    cases this
    rfl
  have bnd := hbd s [.ref a] KX rfl
  have arg : spA K rLaw [V.ref a] H (fun v _ => v = .bl true) fun _ _ _ => False := by
    refine ⟨fun _ => False, [.v (.scr ns)], .bl true, fun _ z => z.elim, .cons ?_ .nil, ⟨ns, rfl, rfl⟩, fun v H' _ hv => hv.bl_inv⟩
    rcases hS with hS | hS
    · exact .scr hS (fun z => z)
    · exact .scrK (.inr hS)
  refine codeAny_mono (hF.run callerA [] s H ⟨[.ref a], []⟩ [.ref a] [.ref a] _ _ ⟨rfl, by decide, by decide⟩ hE bnd (.cons rfl .nil) arg) ?_
  intro r s' h
  match r, h with
  | .ok (.ret u), h =>
    obtain ⟨v, H', os, bare, un, hok', r', q⟩ := h
    have q2 : v = .bl true := q
    subst q2
    obtain rfl : u = Value.bool true := r'
    refine ⟨rfl, OldK.of_keep fun b o e => ?_, os, bare⟩
    cases q : H b with
    | none => exact un.keep b o e q (fun z => by cases z) (by simp)
    | some u =>
      obtain rfl := only b (by rw [q]; exact fun z => nomatch z)
      obtain ⟨ob, xs, rfl⟩ := frz u q
      obtain ⟨e1, _⟩ := hok b _ q
      obtain ⟨e2, _⟩ := hok' b _ (un.frzs b ob _ q)
      rw [e] at e1
      cases e1
      exact e2
  | .ok .next, h => exact False.elim h
  | .ok .brk, h => exact False.elim h
  | .ok .cont, h => exact False.elim h
  | .error e, h => exact False.elim h
theorem seen_call (KX : K.In s.heap) (hns : s.heap.Ns mainGlobals mg) (hb : s.heap.Ns builtinsNs mb) (hbb : ∀ x : Str, x ≠ "__name__" → mb x = bootBuiltins x) (hlim : s.heap.NoLimit) (hse : s.heap.NoSeer) (hg : s.gens = #[])
    (ha : s.heap.get? a = some { cls := .type "list", data := .seq us.toArray }) (hi : IntsAre us ns) (hl : ns.length ≤ sizeLine) (F : ∀ base : Heap, base.NoSeer → FnA P w K mg base 53 "law" ["_law_script"] rLaw) (hfa : mg "law" = some (.ref fa)) :
    codeAny (model P w) callerA (.call (.ref fa) ⟨[.ref a], []⟩) (fun r s' => r = .ok (.ret (.bool true)) ∧ OldK s.heap s'.heap ∧ s'.os = s.os ∧ AllBare s'.gens) s := by
  have rv := vals_ints hi
  have lu : us.length = ns.length := hi.length
  cases hk : K.lookup a with
  | some o =>
    have e := KX a o hk
    rw [ha] at e
    cases e
    have zip : us.toArray.size ≤ sizeLine := by
      rw [List.size_toArray, lu]
      exact hl
    refine seen_core (H := fun _ => none) KX hns hb hbb hlim hse hg ha F hfa (fun b z => absurd rfl z) (fun u z => nomatch z) (.inr ⟨_, us.toArray, _, hk, rfl, rfl, rfl, zip, rv⟩) (fun b u z => nomatch z) fun z => absurd rfl z
  | none =>
    have hit : ∀ {b : Addr} {u : HO}, (if b = a then some (HO.frz { cls := .type "list", data := .seq us.toArray } (.lst (ns.map V.int))) else none) = some u → b = a ∧ u = .frz { cls := .type "list", data := .seq us.toArray } (.lst (ns.map V.int)) := by
      intro b u z
      split at z
      · cases z
        exact ⟨‹_›, rfl⟩
      · cases z
    refine seen_core (H := fun b => if b = a then some (.frz { cls := .type "list", data := .seq us.toArray } (.lst (ns.map V.int))) else none) KX hns hb hbb hlim hse hg ha F hfa (fun b z => ?_) (fun u z => ⟨_, _, (hit z).2⟩) (.inl (.inr ⟨_, if_pos rfl⟩)) (fun b u z => ?_) fun _ => hk
    · cases q : (if b = a then some (HO.frz { cls := .type "list", data := .seq us.toArray } (.lst (ns.map V.int))) else none) with
      | none => exact absurd q z
      | some u => exact (hit q).1
    · obtain ⟨rfl, rfl⟩ := hit z
      refine ⟨ha, ?_, us, _, rv, ha⟩
      rw [List.length_map]
      exact hl
end
/-- the goal that k_head leaves -/
theorem seen_walk {l : PySem.W.OpenLaw} {q : Program} {loose : List Str} {XP : (Str → Option Value) → Heap → Prop} {YP : World → Heap → Prop} {d : DefRec} {K : Params → PySem.W.Frag} (hn : l.most = some 63) (hdf : d.params.defaults = []) (hd : d.name = "law") (hi : importsNone q = true)
    (hY : ∀ (w : World) (h : Heap), YP w h → (K w.params).In h)
    (F : ∀ (w : World) (mg : Str → Option Value) (h : Heap), (K w.params).In h → h.Ns mainGlobals mg → ∀ base : Heap, base.NoSeer → FnA l.prog w (K w.params) mg base 53 "law" ["_law_script"] rLaw) : PySem.W.WalkO q loose XP YP l.row.toRowW d [] (fun f vs => PySem.call f vs) := by
  refine Att.attach_call hn hdf fun w s₀ s mg mb fa o pm cd doc a us ns G Y _ _ _ hmg hobj hints hlen hg => ?_
  have KX := hY w _ Y
  rw [hd] at hmg
  exact seen_call KX G.T.g G.T.b G.T.builtins G.T.nolimit (G.T.seer hi) hg hobj hints (Nat.le_trans hlen (by decide)) (F w mg _ KX G.T.g) hmg
end M66
/-! The walks together. -/
namespace M66
open PySem PySem.Spec PyProof.Rows L2
structure Facts (K : PySem.W.Frag) : Prop where
  d_divisor : DefIn K "divisor" sDivisor
  d_ratio : DefIn K "ratio" sRatio
  d_plus : DefIn K "plus" sPlus
  d_minus : DefIn K "minus" sMinus
  d_times : DefIn K "times" sTimes
  d_over : DefIn K "over" sOver
  d_is_less : DefIn K "is_less" sIsLess
  d_sign_of : DefIn K "sign_of" sSignOf
  d_total : DefIn K "total" sTotal
  d_clean : DefIn K "clean" sClean
  d_at_place : DefIn K "at_place" sAtPlace
  d_summed : DefIn K "summed" sSummed
  d_lessened : DefIn K "lessened" sLessened
  d_grown : DefIn K "grown" sGrown
  d_raised : DefIn K "raised" sRaised
  d_multiplied : DefIn K "multiplied" sMultiplied
  d_power_of_x : DefIn K "power_of_x" sPowerOfX
  d_number_at : DefIn K "number_at" sNumberAt
  d_slope : DefIn K "slope" sSlope
  d_led : DefIn K "led" sLed
  d_parted : DefIn K "parted" sParted
  d_shared : DefIn K "shared" sShared
  d_turned_about : DefIn K "turned_about" sTurnedAbout
  d_worth : DefIn K "worth" sWorth
  d_square_sum : DefIn K "square_sum" sSquareSum
  d_is_whole : DefIn K "is_whole" sIsWhole
  d_is_fraction : DefIn K "is_fraction" sIsFraction
  d_is_polynomial : DefIn K "is_polynomial" sIsPolynomial
  d_need_polynomial : DefIn K "need_polynomial" sNeedPolynomial
  d_plain : DefIn K "plain" sPlain
  d_chain : DefIn K "chain" sChain
  d_sign_far : DefIn K "sign_far" sSignFar
  d_changes : DefIn K "changes" sChanges
  d_between : DefIn K "between" sBetween
  d_how_many : DefIn K "how_many" sHowMany
  d_bound : DefIn K "bound" sBound
  d_halved : DefIn K "halved" sHalved
  d_apart : DefIn K "apart" sApart
  d_first_stretches : DefIn K "first_stretches" sFirstStretches
  d_narrowed : DefIn K "narrowed" sNarrowed
  d_stretches : DefIn K "stretches" sStretches
  d_root_powers : DefIn K "root_powers" sRootPowers
  d_next_step : DefIn K "next_step" sNextStep
  d_turn_of : DefIn K "turn_of" sTurnOf
  d_steps : DefIn K "steps" sSteps
  d_nought_bar : DefIn K "nought_bar" sNoughtBar
  d_row_less : DefIn K "row_less" sRowLess
  d_solved : DefIn K "solved" sSolved
  d_flock_by_roots : DefIn K "flock_by_roots" sFlockByRoots
  d_open_roots : DefIn K "open_roots" sOpenRoots
  d_back : DefIn K "back" sBack
  d_need_flock : DefIn K "need_flock" sNeedFlock
  d_tight_step : DefIn K "tight_step" sTightStep
  d_flock_sums : DefIn K "flock_sums" sFlockSums
  d_flock_at : DefIn K "flock_at" sFlockAt
  d_shows_most : DefIn K "shows_most" sShowsMost
  d_steepest : DefIn K "steepest" sSteepest
  d_weight_up_to : DefIn K "weight_up_to" sWeightUpTo
  d_least_square : DefIn K "least_square" sLeastSquare
  d_law_less : DefIn K "_law_less" sLawLess
  d_law_divisor : DefIn K "_law_divisor" sLawDivisor
  d_law_low : DefIn K "_law_low" sLawLow
  d_law_plus : DefIn K "_law_plus" sLawPlus
  d_law_minus : DefIn K "_law_minus" sLawMinus
  d_law_times : DefIn K "_law_times" sLawTimes
  d_law_cell_at : DefIn K "_law_cell_at" sLawCellAt
  d_law_state : DefIn K "_law_state" sLawState
  d_law_take : DefIn K "_law_take" sLawTake
  d_law_small : DefIn K "_law_small" sLawSmall
  d_law_above : DefIn K "_law_above" sLawAbove
  d_law_crowd : DefIn K "_law_crowd" sLawCrowd
  d_law_spot_crowd : DefIn K "_law_spot_crowd" sLawSpotCrowd
  d_law_crowd_sums : DefIn K "_law_crowd_sums" sLawCrowdSums
  d_law_weights : DefIn K "_law_weights" sLawWeights
  d_law_bounds : DefIn K "_law_bounds" sLawBounds
  d_law_too_much : DefIn K "_law_too_much" sLawTooMuch
  d_law : DefIn K "law" sLaw
  b_abs : PySem.W.nsIn K mainGlobals "abs" = some none
  b_len : PySem.W.nsIn K mainGlobals "len" = some none
  b_list : PySem.W.nsIn K mainGlobals "list" = some none
  b_max : PySem.W.nsIn K mainGlobals "max" = some none
  b_min : PySem.W.nsIn K mainGlobals "min" = some none
  b_range : PySem.W.nsIn K mainGlobals "range" = some none
  b_reversed : PySem.W.nsIn K mainGlobals "reversed" = some none
  b_enumerate : PySem.W.nsIn K mainGlobals "enumerate" = some none
  b_zip : PySem.W.nsIn K mainGlobals "zip" = some none
  b_int : PySem.W.nsIn K mainGlobals "int" = some none
  b_isinstance : PySem.W.nsIn K mainGlobals "isinstance" = some none
  b_all : PySem.W.nsIn K mainGlobals "all" = some none
  b_tuple : PySem.W.nsIn K mainGlobals "tuple" = some none
  b_bool : PySem.W.nsIn K mainGlobals "bool" = some none
  c_ZERO : ConIn K "ZERO" [0, 1]
  c_ONE : ConIn K "ONE" [1, 1]
  c_MINUS : ConIn K "MINUS" [-1, 1]
  c_HALF : ConIn K "HALF" [1, 2]
theorem law_at {P : Program} {w : World} {K : PySem.W.Frag} {h : Heap} {mg : Str → Option Value} (X : K.In h) (G : h.Ns mainGlobals mg) (D : Facts K) (PL : PlainLaw) (hT : P.given.tree = none) (base : Heap) (hN : base.NoSeer) :
    FnA P w K mg base 53 "law" ["_law_script"] rLaw := by
  obtain ⟨f_divisor, fd_divisor, a_divisor, F_divisor⟩ := D.d_divisor.ex
  have i_divisor := F_divisor.binds (ps := ["one", "other"]) fun _ _ _ _ _ _ us hl => match us, hl with | [_, _], _ => rfl
  have m_divisor := PySem.W.mg_of X G a_divisor
  obtain ⟨f_ratio, fd_ratio, a_ratio, F_ratio⟩ := D.d_ratio.ex
  have i_ratio := F_ratio.binds (ps := ["top", "bottom"]) fun _ _ _ _ _ _ us hl => match us, hl with | [_, _], _ => rfl
  have m_ratio := PySem.W.mg_of X G a_ratio
  obtain ⟨f_plus, fd_plus, a_plus, F_plus⟩ := D.d_plus.ex
  have i_plus := F_plus.binds (ps := ["one", "other"]) fun _ _ _ _ _ _ us hl => match us, hl with | [_, _], _ => rfl
  have m_plus := PySem.W.mg_of X G a_plus
  obtain ⟨f_minus, fd_minus, a_minus, F_minus⟩ := D.d_minus.ex
  have i_minus := F_minus.binds (ps := ["one", "other"]) fun _ _ _ _ _ _ us hl => match us, hl with | [_, _], _ => rfl
  have m_minus := PySem.W.mg_of X G a_minus
  obtain ⟨f_times, fd_times, a_times, F_times⟩ := D.d_times.ex
  have i_times := F_times.binds (ps := ["one", "other"]) fun _ _ _ _ _ _ us hl => match us, hl with | [_, _], _ => rfl
  have m_times := PySem.W.mg_of X G a_times
  obtain ⟨f_over, fd_over, a_over, F_over⟩ := D.d_over.ex
  have i_over := F_over.binds (ps := ["one", "other"]) fun _ _ _ _ _ _ us hl => match us, hl with | [_, _], _ => rfl
  have m_over := PySem.W.mg_of X G a_over
  obtain ⟨f_is_less, fd_is_less, a_is_less, F_is_less⟩ := D.d_is_less.ex
  have i_is_less := F_is_less.binds (ps := ["one", "other"]) fun _ _ _ _ _ _ us hl => match us, hl with | [_, _], _ => rfl
  have m_is_less := PySem.W.mg_of X G a_is_less
  obtain ⟨f_sign_of, fd_sign_of, a_sign_of, F_sign_of⟩ := D.d_sign_of.ex
  have i_sign_of := F_sign_of.binds (ps := ["one"]) fun _ _ _ _ _ _ us hl => match us, hl with | [_], _ => rfl
  have m_sign_of := PySem.W.mg_of X G a_sign_of
  obtain ⟨f_total, fd_total, a_total, F_total⟩ := D.d_total.ex
  have i_total := F_total.binds (ps := ["some"]) fun _ _ _ _ _ _ us hl => match us, hl with | [_], _ => rfl
  have m_total := PySem.W.mg_of X G a_total
  obtain ⟨f_clean, fd_clean, a_clean, F_clean⟩ := D.d_clean.ex
  have i_clean := F_clean.binds (ps := ["numbers"]) fun _ _ _ _ _ _ us hl => match us, hl with | [_], _ => rfl
  have m_clean := PySem.W.mg_of X G a_clean
  obtain ⟨f_at_place, fd_at_place, a_at_place, F_at_place⟩ := D.d_at_place.ex
  have i_at_place := F_at_place.binds (ps := ["f", "place"]) fun _ _ _ _ _ _ us hl => match us, hl with | [_, _], _ => rfl
  have m_at_place := PySem.W.mg_of X G a_at_place
  obtain ⟨f_summed, fd_summed, a_summed, F_summed⟩ := D.d_summed.ex
  have i_summed := F_summed.binds (ps := ["f", "g"]) fun _ _ _ _ _ _ us hl => match us, hl with | [_, _], _ => rfl
  have m_summed := PySem.W.mg_of X G a_summed
  obtain ⟨f_lessened, fd_lessened, a_lessened, F_lessened⟩ := D.d_lessened.ex
  have i_lessened := F_lessened.binds (ps := ["f", "g"]) fun _ _ _ _ _ _ us hl => match us, hl with | [_, _], _ => rfl
  have m_lessened := PySem.W.mg_of X G a_lessened
  obtain ⟨f_grown, fd_grown, a_grown, F_grown⟩ := D.d_grown.ex
  have i_grown := F_grown.binds (ps := ["f", "by"]) fun _ _ _ _ _ _ us hl => match us, hl with | [_, _], _ => rfl
  have m_grown := PySem.W.mg_of X G a_grown
  obtain ⟨f_raised, fd_raised, a_raised, F_raised⟩ := D.d_raised.ex
  have i_raised := F_raised.binds (ps := ["f", "many"]) fun _ _ _ _ _ _ us hl => match us, hl with | [_, _], _ => rfl
  have m_raised := PySem.W.mg_of X G a_raised
  obtain ⟨f_multiplied, fd_multiplied, a_multiplied, F_multiplied⟩ := D.d_multiplied.ex
  have i_multiplied := F_multiplied.binds (ps := ["f", "g"]) fun _ _ _ _ _ _ us hl => match us, hl with | [_, _], _ => rfl
  have m_multiplied := PySem.W.mg_of X G a_multiplied
  obtain ⟨f_power_of_x, fd_power_of_x, a_power_of_x, F_power_of_x⟩ := D.d_power_of_x.ex
  have i_power_of_x := F_power_of_x.binds (ps := ["many"]) fun _ _ _ _ _ _ us hl => match us, hl with | [_], _ => rfl
  have m_power_of_x := PySem.W.mg_of X G a_power_of_x
  obtain ⟨f_number_at, fd_number_at, a_number_at, F_number_at⟩ := D.d_number_at.ex
  have i_number_at := F_number_at.binds (ps := ["f", "x"]) fun _ _ _ _ _ _ us hl => match us, hl with | [_, _], _ => rfl
  have m_number_at := PySem.W.mg_of X G a_number_at
  obtain ⟨f_slope, fd_slope, a_slope, F_slope⟩ := D.d_slope.ex
  have i_slope := F_slope.binds (ps := ["f"]) fun _ _ _ _ _ _ us hl => match us, hl with | [_], _ => rfl
  have m_slope := PySem.W.mg_of X G a_slope
  obtain ⟨f_led, fd_led, a_led, F_led⟩ := D.d_led.ex
  have i_led := F_led.binds (ps := ["f"]) fun _ _ _ _ _ _ us hl => match us, hl with | [_], _ => rfl
  have m_led := PySem.W.mg_of X G a_led
  obtain ⟨f_parted, fd_parted, a_parted, F_parted⟩ := D.d_parted.ex
  have i_parted := F_parted.binds (ps := ["f", "g"]) fun _ _ _ _ _ _ us hl => match us, hl with | [_, _], _ => rfl
  have m_parted := PySem.W.mg_of X G a_parted
  obtain ⟨f_shared, fd_shared, a_shared, F_shared⟩ := D.d_shared.ex
  have i_shared := F_shared.binds (ps := ["f", "g"]) fun _ _ _ _ _ _ us hl => match us, hl with | [_, _], _ => rfl
  have m_shared := PySem.W.mg_of X G a_shared
  obtain ⟨f_turned_about, fd_turned_about, a_turned_about, F_turned_about⟩ := D.d_turned_about.ex
  have i_turned_about := F_turned_about.binds (ps := ["f"]) fun _ _ _ _ _ _ us hl => match us, hl with | [_], _ => rfl
  have m_turned_about := PySem.W.mg_of X G a_turned_about
  obtain ⟨f_worth, fd_worth, a_worth, F_worth⟩ := D.d_worth.ex
  have i_worth := F_worth.binds (ps := ["sums", "f"]) fun _ _ _ _ _ _ us hl => match us, hl with | [_, _], _ => rfl
  have m_worth := PySem.W.mg_of X G a_worth
  obtain ⟨f_square_sum, fd_square_sum, a_square_sum, F_square_sum⟩ := D.d_square_sum.ex
  have i_square_sum := F_square_sum.binds (ps := ["sums", "f", "g"]) fun _ _ _ _ _ _ us hl => match us, hl with | [_, _, _], _ => rfl
  have m_square_sum := PySem.W.mg_of X G a_square_sum
  obtain ⟨f_is_whole, fd_is_whole, a_is_whole, F_is_whole⟩ := D.d_is_whole.ex
  have i_is_whole := F_is_whole.binds (ps := ["thing"]) fun _ _ _ _ _ _ us hl => match us, hl with | [_], _ => rfl
  have m_is_whole := PySem.W.mg_of X G a_is_whole
  obtain ⟨f_is_fraction, fd_is_fraction, a_is_fraction, F_is_fraction⟩ := D.d_is_fraction.ex
  have i_is_fraction := F_is_fraction.binds (ps := ["thing"]) fun _ _ _ _ _ _ us hl => match us, hl with | [_], _ => rfl
  have m_is_fraction := PySem.W.mg_of X G a_is_fraction
  obtain ⟨f_is_polynomial, fd_is_polynomial, a_is_polynomial, F_is_polynomial⟩ := D.d_is_polynomial.ex
  have i_is_polynomial := F_is_polynomial.binds (ps := ["thing"]) fun _ _ _ _ _ _ us hl => match us, hl with | [_], _ => rfl
  have m_is_polynomial := PySem.W.mg_of X G a_is_polynomial
  obtain ⟨f_need_polynomial, fd_need_polynomial, a_need_polynomial, F_need_polynomial⟩ := D.d_need_polynomial.ex
  have i_need_polynomial := F_need_polynomial.binds (ps := ["f"]) fun _ _ _ _ _ _ us hl => match us, hl with | [_], _ => rfl
  have m_need_polynomial := PySem.W.mg_of X G a_need_polynomial
  obtain ⟨f_plain, fd_plain, a_plain, F_plain⟩ := D.d_plain.ex
  have i_plain := F_plain.binds (ps := ["f"]) fun _ _ _ _ _ _ us hl => match us, hl with | [_], _ => rfl
  have m_plain := PySem.W.mg_of X G a_plain
  obtain ⟨f_chain, fd_chain, a_chain, F_chain⟩ := D.d_chain.ex
  have i_chain := F_chain.binds (ps := ["f"]) fun _ _ _ _ _ _ us hl => match us, hl with | [_], _ => rfl
  have m_chain := PySem.W.mg_of X G a_chain
  obtain ⟨f_sign_far, fd_sign_far, a_sign_far, F_sign_far⟩ := D.d_sign_far.ex
  have i_sign_far := F_sign_far.binds (ps := ["f", "side"]) fun _ _ _ _ _ _ us hl => match us, hl with | [_, _], _ => rfl
  have m_sign_far := PySem.W.mg_of X G a_sign_far
  obtain ⟨f_changes, fd_changes, a_changes, F_changes⟩ := D.d_changes.ex
  have i_changes := F_changes.binds (ps := ["some", "x", "side"]) fun _ _ _ _ _ _ us hl => match us, hl with | [_, _, _], _ => rfl
  have m_changes := PySem.W.mg_of X G a_changes
  obtain ⟨f_between, fd_between, a_between, F_between⟩ := D.d_between.ex
  have i_between := F_between.binds (ps := ["some", "low", "high"]) fun _ _ _ _ _ _ us hl => match us, hl with | [_, _, _], _ => rfl
  have m_between := PySem.W.mg_of X G a_between
  obtain ⟨f_how_many, fd_how_many, a_how_many, F_how_many⟩ := D.d_how_many.ex
  have i_how_many := F_how_many.binds (ps := ["f", "low", "high"]) fun _ _ _ _ _ _ us hl => match us, hl with | [_, _, _], _ => rfl
  have m_how_many := PySem.W.mg_of X G a_how_many
  obtain ⟨f_bound, fd_bound, a_bound, F_bound⟩ := D.d_bound.ex
  have i_bound := F_bound.binds (ps := ["f"]) fun _ _ _ _ _ _ us hl => match us, hl with | [_], _ => rfl
  have m_bound := PySem.W.mg_of X G a_bound
  obtain ⟨f_halved, fd_halved, a_halved, F_halved⟩ := D.d_halved.ex
  have i_halved := F_halved.binds (ps := ["some", "low", "high"]) fun _ _ _ _ _ _ us hl => match us, hl with | [_, _, _], _ => rfl
  have m_halved := PySem.W.mg_of X G a_halved
  obtain ⟨f_apart, fd_apart, a_apart, F_apart⟩ := D.d_apart.ex
  have i_apart := F_apart.binds (ps := ["some", "low", "high"]) fun _ _ _ _ _ _ us hl => match us, hl with | [_, _, _], _ => rfl
  have m_apart := PySem.W.mg_of X G a_apart
  obtain ⟨f_first_stretches, fd_first_stretches, a_first_stretches, F_first_stretches⟩ := D.d_first_stretches.ex
  have i_first_stretches := F_first_stretches.binds (ps := ["f"]) fun _ _ _ _ _ _ us hl => match us, hl with | [_], _ => rfl
  have m_first_stretches := PySem.W.mg_of X G a_first_stretches
  obtain ⟨f_narrowed, fd_narrowed, a_narrowed, F_narrowed⟩ := D.d_narrowed.ex
  have i_narrowed := F_narrowed.binds (ps := ["some", "stretch", "width"]) fun _ _ _ _ _ _ us hl => match us, hl with | [_, _, _], _ => rfl
  have m_narrowed := PySem.W.mg_of X G a_narrowed
  obtain ⟨f_stretches, fd_stretches, a_stretches, F_stretches⟩ := D.d_stretches.ex
  have i_stretches := F_stretches.binds (ps := ["f", "width"]) fun _ _ _ _ _ _ us hl => match us, hl with | [_, _], _ => rfl
  have m_stretches := PySem.W.mg_of X G a_stretches
  obtain ⟨f_root_powers, fd_root_powers, a_root_powers, F_root_powers⟩ := D.d_root_powers.ex
  have i_root_powers := F_root_powers.binds (ps := ["roots", "many"]) fun _ _ _ _ _ _ us hl => match us, hl with | [_, _], _ => rfl
  have m_root_powers := PySem.W.mg_of X G a_root_powers
  obtain ⟨f_next_step, fd_next_step, a_next_step, F_next_step⟩ := D.d_next_step.ex
  have i_next_step := F_next_step.binds (ps := ["some", "turn"]) fun _ _ _ _ _ _ us hl => match us, hl with | [_, _], _ => rfl
  have m_next_step := PySem.W.mg_of X G a_next_step
  obtain ⟨f_turn_of, fd_turn_of, a_turn_of, F_turn_of⟩ := D.d_turn_of.ex
  have i_turn_of := F_turn_of.binds (ps := ["sums", "some"]) fun _ _ _ _ _ _ us hl => match us, hl with | [_, _], _ => rfl
  have m_turn_of := PySem.W.mg_of X G a_turn_of
  obtain ⟨f_steps, fd_steps, a_steps, F_steps⟩ := D.d_steps.ex
  have i_steps := F_steps.binds (ps := ["sums"]) fun _ _ _ _ _ _ us hl => match us, hl with | [_], _ => rfl
  have m_steps := PySem.W.mg_of X G a_steps
  obtain ⟨f_nought_bar, fd_nought_bar, a_nought_bar, F_nought_bar⟩ := D.d_nought_bar.ex
  have i_nought_bar := F_nought_bar.binds (ps := ["sums", "f"]) fun _ _ _ _ _ _ us hl => match us, hl with | [_, _], _ => rfl
  have m_nought_bar := PySem.W.mg_of X G a_nought_bar
  obtain ⟨f_row_less, fd_row_less, a_row_less, F_row_less⟩ := D.d_row_less.ex
  have i_row_less := F_row_less.binds (ps := ["row", "other", "by"]) fun _ _ _ _ _ _ us hl => match us, hl with | [_, _, _], _ => rfl
  have m_row_less := PySem.W.mg_of X G a_row_less
  obtain ⟨f_solved, fd_solved, a_solved, F_solved⟩ := D.d_solved.ex
  have i_solved := F_solved.binds (ps := ["rows"]) fun _ _ _ _ _ _ us hl => match us, hl with | [_], _ => rfl
  have m_solved := PySem.W.mg_of X G a_solved
  obtain ⟨f_flock_by_roots, fd_flock_by_roots, a_flock_by_roots, F_flock_by_roots⟩ := D.d_flock_by_roots.ex
  have i_flock_by_roots := F_flock_by_roots.binds (ps := ["sums", "roots"]) fun _ _ _ _ _ _ us hl => match us, hl with | [_, _], _ => rfl
  have m_flock_by_roots := PySem.W.mg_of X G a_flock_by_roots
  obtain ⟨f_open_roots, fd_open_roots, a_open_roots, F_open_roots⟩ := D.d_open_roots.ex
  have i_open_roots := F_open_roots.binds (ps := ["sums", "some"]) fun _ _ _ _ _ _ us hl => match us, hl with | [_, _], _ => rfl
  have m_open_roots := PySem.W.mg_of X G a_open_roots
  obtain ⟨f_back, fd_back, a_back, F_back⟩ := D.d_back.ex
  have i_back := F_back.binds (ps := ["sums"]) fun _ _ _ _ _ _ us hl => match us, hl with | [_], _ => rfl
  have m_back := PySem.W.mg_of X G a_back
  obtain ⟨f_need_flock, fd_need_flock, a_need_flock, F_need_flock⟩ := D.d_need_flock.ex
  have i_need_flock := F_need_flock.binds (ps := ["sums"]) fun _ _ _ _ _ _ us hl => match us, hl with | [_], _ => rfl
  have m_need_flock := PySem.W.mg_of X G a_need_flock
  obtain ⟨f_tight_step, fd_tight_step, a_tight_step, F_tight_step⟩ := D.d_tight_step.ex
  have i_tight_step := F_tight_step.binds (ps := ["sums"]) fun _ _ _ _ _ _ us hl => match us, hl with | [_], _ => rfl
  have m_tight_step := PySem.W.mg_of X G a_tight_step
  obtain ⟨f_flock_sums, fd_flock_sums, a_flock_sums, F_flock_sums⟩ := D.d_flock_sums.ex
  have i_flock_sums := F_flock_sums.binds (ps := ["flock", "many"]) fun _ _ _ _ _ _ us hl => match us, hl with | [_, _], _ => rfl
  have m_flock_sums := PySem.W.mg_of X G a_flock_sums
  obtain ⟨f_flock_at, fd_flock_at, a_flock_at, F_flock_at⟩ := D.d_flock_at.ex
  have i_flock_at := F_flock_at.binds (ps := ["sums", "spot"]) fun _ _ _ _ _ _ us hl => match us, hl with | [_, _], _ => rfl
  have m_flock_at := PySem.W.mg_of X G a_flock_at
  obtain ⟨f_shows_most, fd_shows_most, a_shows_most, F_shows_most⟩ := D.d_shows_most.ex
  have i_shows_most := F_shows_most.binds (ps := ["sums", "spot", "number", "f"]) fun _ _ _ _ _ _ us hl => match us, hl with | [_, _, _, _], _ => rfl
  have m_shows_most := PySem.W.mg_of X G a_shows_most
  obtain ⟨f_steepest, fd_steepest, a_steepest, F_steepest⟩ := D.d_steepest.ex
  have i_steepest := F_steepest.binds (ps := ["f", "far"]) fun _ _ _ _ _ _ us hl => match us, hl with | [_, _], _ => rfl
  have m_steepest := PySem.W.mg_of X G a_steepest
  obtain ⟨f_weight_up_to, fd_weight_up_to, a_weight_up_to, F_weight_up_to⟩ := D.d_weight_up_to.ex
  have i_weight_up_to := F_weight_up_to.binds (ps := ["flock", "spot", "width"]) fun _ _ _ _ _ _ us hl => match us, hl with | [_, _, _], _ => rfl
  have m_weight_up_to := PySem.W.mg_of X G a_weight_up_to
  obtain ⟨f_least_square, fd_least_square, a_least_square, F_least_square⟩ := D.d_least_square.ex
  have i_least_square := F_least_square.binds (ps := ["sums", "spot"]) fun _ _ _ _ _ _ us hl => match us, hl with | [_, _], _ => rfl
  have m_least_square := PySem.W.mg_of X G a_least_square
  obtain ⟨f_law_less, fd_law_less, a_law_less, F_law_less⟩ := D.d_law_less.ex
  have i_law_less := F_law_less.binds (ps := ["_law_one", "_law_other"]) fun _ _ _ _ _ _ us hl => match us, hl with | [_, _], _ => rfl
  have m_law_less := PySem.W.mg_of X G a_law_less
  obtain ⟨f_law_divisor, fd_law_divisor, a_law_divisor, F_law_divisor⟩ := D.d_law_divisor.ex
  have i_law_divisor := F_law_divisor.binds (ps := ["_law_one", "_law_other"]) fun _ _ _ _ _ _ us hl => match us, hl with | [_, _], _ => rfl
  have m_law_divisor := PySem.W.mg_of X G a_law_divisor
  obtain ⟨f_law_low, fd_law_low, a_law_low, F_law_low⟩ := D.d_law_low.ex
  have i_law_low := F_law_low.binds (ps := ["_law_top", "_law_bottom"]) fun _ _ _ _ _ _ us hl => match us, hl with | [_, _], _ => rfl
  have m_law_low := PySem.W.mg_of X G a_law_low
  obtain ⟨f_law_plus, fd_law_plus, a_law_plus, F_law_plus⟩ := D.d_law_plus.ex
  have i_law_plus := F_law_plus.binds (ps := ["_law_one", "_law_other"]) fun _ _ _ _ _ _ us hl => match us, hl with | [_, _], _ => rfl
  have m_law_plus := PySem.W.mg_of X G a_law_plus
  obtain ⟨f_law_minus, fd_law_minus, a_law_minus, F_law_minus⟩ := D.d_law_minus.ex
  have i_law_minus := F_law_minus.binds (ps := ["_law_one", "_law_other"]) fun _ _ _ _ _ _ us hl => match us, hl with | [_, _], _ => rfl
  have m_law_minus := PySem.W.mg_of X G a_law_minus
  obtain ⟨f_law_times, fd_law_times, a_law_times, F_law_times⟩ := D.d_law_times.ex
  have i_law_times := F_law_times.binds (ps := ["_law_one", "_law_other"]) fun _ _ _ _ _ _ us hl => match us, hl with | [_, _], _ => rfl
  have m_law_times := PySem.W.mg_of X G a_law_times
  obtain ⟨f_law_cell_at, fd_law_cell_at, a_law_cell_at, F_law_cell_at⟩ := D.d_law_cell_at.ex
  have i_law_cell_at := F_law_cell_at.binds (ps := ["_law_script", "_law_k"]) fun _ _ _ _ _ _ us hl => match us, hl with | [_, _], _ => rfl
  have m_law_cell_at := PySem.W.mg_of X G a_law_cell_at
  obtain ⟨f_law_state, fd_law_state, a_law_state, F_law_state⟩ := D.d_law_state.ex
  have i_law_state := F_law_state.binds (ps := ["_law_script", "_law_k"]) fun _ _ _ _ _ _ us hl => match us, hl with | [_, _], _ => rfl
  have m_law_state := PySem.W.mg_of X G a_law_state
  obtain ⟨f_law_take, fd_law_take, a_law_take, F_law_take⟩ := D.d_law_take.ex
  have i_law_take := F_law_take.binds (ps := ["_law_state_here", "_law_many"]) fun _ _ _ _ _ _ us hl => match us, hl with | [_, _], _ => rfl
  have m_law_take := PySem.W.mg_of X G a_law_take
  obtain ⟨f_law_small, fd_law_small, a_law_small, F_law_small⟩ := D.d_law_small.ex
  have i_law_small := F_law_small.binds (ps := ["_law_state_here"]) fun _ _ _ _ _ _ us hl => match us, hl with | [_], _ => rfl
  have m_law_small := PySem.W.mg_of X G a_law_small
  obtain ⟨f_law_above, fd_law_above, a_law_above, F_law_above⟩ := D.d_law_above.ex
  have i_law_above := F_law_above.binds (ps := ["_law_state_here"]) fun _ _ _ _ _ _ us hl => match us, hl with | [_], _ => rfl
  have m_law_above := PySem.W.mg_of X G a_law_above
  obtain ⟨f_law_crowd, fd_law_crowd, a_law_crowd, F_law_crowd⟩ := D.d_law_crowd.ex
  have i_law_crowd := F_law_crowd.binds (ps := ["_law_state_here", "_law_most"]) fun _ _ _ _ _ _ us hl => match us, hl with | [_, _], _ => rfl
  have m_law_crowd := PySem.W.mg_of X G a_law_crowd
  obtain ⟨f_law_spot_crowd, fd_law_spot_crowd, a_law_spot_crowd, F_law_spot_crowd⟩ := D.d_law_spot_crowd.ex
  have i_law_spot_crowd := F_law_spot_crowd.binds (ps := ["_law_state_here", "_law_most"]) fun _ _ _ _ _ _ us hl => match us, hl with | [_, _], _ => rfl
  have m_law_spot_crowd := PySem.W.mg_of X G a_law_spot_crowd
  obtain ⟨f_law_crowd_sums, fd_law_crowd_sums, a_law_crowd_sums, F_law_crowd_sums⟩ := D.d_law_crowd_sums.ex
  have i_law_crowd_sums := F_law_crowd_sums.binds (ps := ["_law_crowd_here", "_law_many"]) fun _ _ _ _ _ _ us hl => match us, hl with | [_, _], _ => rfl
  have m_law_crowd_sums := PySem.W.mg_of X G a_law_crowd_sums
  obtain ⟨f_law_weights, fd_law_weights, a_law_weights, F_law_weights⟩ := D.d_law_weights.ex
  have i_law_weights := F_law_weights.binds (ps := ["_law_crowd_here", "_law_spot"]) fun _ _ _ _ _ _ us hl => match us, hl with | [_, _], _ => rfl
  have m_law_weights := PySem.W.mg_of X G a_law_weights
  obtain ⟨f_law_bounds, fd_law_bounds, a_law_bounds, F_law_bounds⟩ := D.d_law_bounds.ex
  have i_law_bounds := F_law_bounds.binds (ps := ["_law_crowd_here", "_law_sums", "_law_spot", "_law_width"]) fun _ _ _ _ _ _ us hl => match us, hl with | [_, _, _, _], _ => rfl
  have m_law_bounds := PySem.W.mg_of X G a_law_bounds
  obtain ⟨f_law_too_much, fd_law_too_much, a_law_too_much, F_law_too_much⟩ := D.d_law_too_much.ex
  have i_law_too_much := F_law_too_much.binds (ps := ["_law_sums", "_law_spot", "_law_more"]) fun _ _ _ _ _ _ us hl => match us, hl with | [_, _, _], _ => rfl
  have m_law_too_much := PySem.W.mg_of X G a_law_too_much
  obtain ⟨f_law, fd_law, a_law, F_law⟩ := D.d_law.ex
  have i_law := F_law.binds (ps := ["_law_script"]) fun _ _ _ _ _ _ us hl => match us, hl with | [_], _ => rfl
  have m_law := PySem.W.mg_of X G a_law
  have b_abs := PySem.W.mg_none_of X G D.b_abs
  have b_len := PySem.W.mg_none_of X G D.b_len
  have b_list := PySem.W.mg_none_of X G D.b_list
  have b_max := PySem.W.mg_none_of X G D.b_max
  have b_min := PySem.W.mg_none_of X G D.b_min
  have b_range := PySem.W.mg_none_of X G D.b_range
  have b_reversed := PySem.W.mg_none_of X G D.b_reversed
  have b_enumerate := PySem.W.mg_none_of X G D.b_enumerate
  have b_zip := PySem.W.mg_none_of X G D.b_zip
  have b_int := PySem.W.mg_none_of X G D.b_int
  have b_isinstance := PySem.W.mg_none_of X G D.b_isinstance
  have b_all := PySem.W.mg_none_of X G D.b_all
  have b_tuple := PySem.W.mg_none_of X G D.b_tuple
  have b_bool := PySem.W.mg_none_of X G D.b_bool
  obtain ⟨a_ZERO, n_ZERO, w_ZERO⟩ := D.c_ZERO.ex
  obtain ⟨a_ONE, n_ONE, w_ONE⟩ := D.c_ONE.ex
  obtain ⟨a_MINUS, n_MINUS, w_MINUS⟩ := D.c_MINUS.ex
  obtain ⟨a_HALF, n_HALF, w_HALF⟩ := D.c_HALF.ex
  have g : Gl0 P K mg base := ⟨hN, hT, ⟨_, PySem.W.mg_of X G n_ZERO, w_ZERO⟩, ⟨_, PySem.W.mg_of X G n_ONE, w_ONE⟩, ⟨_, PySem.W.mg_of X G n_MINUS, w_MINUS⟩, ⟨_, PySem.W.mg_of X G n_HALF, w_HALF⟩, b_abs, b_len, b_list, b_max, b_min, b_range, b_reversed, b_enumerate, b_zip, b_int, b_isinstance, b_all, b_tuple, b_bool⟩
  have e_divisor := ok_divisor (k := 0) (P := P) (w := w) (base := base) F_divisor i_divisor m_divisor b_abs
  have e_ratio := ok_ratio (P := P) (w := w) (base := base) F_ratio i_ratio m_ratio hN hT e_divisor
  have e_plus := ok_plus (P := P) (w := w) (base := base) F_plus i_plus m_plus e_ratio
  have e_minus := ok_minus (P := P) (w := w) (base := base) F_minus i_minus m_minus e_ratio
  have e_times := ok_times (P := P) (w := w) (base := base) F_times i_times m_times e_ratio
  have e_over := ok_over (P := P) (w := w) (base := base) F_over i_over m_over e_ratio
  have e_is_less := ok_is_less (P := P) (w := w) (base := base) F_is_less i_is_less m_is_less
  have e_sign_of := ok_sign_of (P := P) (w := w) (base := base) F_sign_of i_sign_of m_sign_of g
  have L : Fra P w K mg base := ⟨g, e_divisor, e_plus, e_minus, e_times, e_over, e_is_less, e_sign_of⟩
  have e_total := ok_total (P := P) (w := w) (base := base) F_total i_total m_total L
  have e_clean := ok_clean (P := P) (w := w) (base := base) F_clean i_clean m_clean L
  have e_at_place := ok_at_place (P := P) (w := w) (base := base) F_at_place i_at_place m_at_place L
  have e_summed := ok_summed (P := P) (w := w) (base := base) F_summed i_summed m_summed L e_clean e_at_place
  have e_lessened := ok_lessened (P := P) (w := w) (base := base) F_lessened i_lessened m_lessened L e_clean e_at_place
  have e_grown := ok_grown (P := P) (w := w) (base := base) F_grown i_grown m_grown L e_clean
  have e_raised := ok_raised (P := P) (w := w) (base := base) F_raised i_raised m_raised L
  have e_multiplied := ok_multiplied (P := P) (w := w) (base := base) F_multiplied i_multiplied m_multiplied L e_summed e_raised e_grown
  have e_power_of_x := ok_power_of_x (P := P) (w := w) (base := base) F_power_of_x i_power_of_x m_power_of_x L
  have e_number_at := ok_number_at (P := P) (w := w) (base := base) F_number_at i_number_at m_number_at L
  have e_slope := ok_slope (P := P) (w := w) (base := base) F_slope i_slope m_slope L e_clean
  have e_led := ok_led (P := P) (w := w) (base := base) F_led i_led m_led L
  have T : Pol P w K mg base := ⟨L, e_total, e_clean, e_at_place, e_summed, e_grown, e_lessened, e_raised, e_multiplied, e_power_of_x, e_number_at, e_slope, e_led⟩
  have e_parted := ok_parted (P := P) (w := w) (base := base) F_parted i_parted m_parted T
  have e_shared := ok_shared (P := P) (w := w) (base := base) F_shared i_shared m_shared T e_parted
  have e_turned_about := ok_turned_about (P := P) (w := w) (base := base) F_turned_about i_turned_about m_turned_about T
  have e_worth := ok_worth (P := P) (w := w) (base := base) F_worth i_worth m_worth T
  have e_square_sum := ok_square_sum (P := P) (w := w) (base := base) F_square_sum i_square_sum m_square_sum T e_worth
  have e_is_whole := ok_is_whole (P := P) (w := w) (base := base) F_is_whole i_is_whole m_is_whole g
  have e_is_fraction := ok_is_fraction (P := P) (w := w) (base := base) F_is_fraction i_is_fraction m_is_fraction L e_is_whole
  have e_is_polynomial := ok_is_polynomial (P := P) (w := w) (base := base) F_is_polynomial i_is_polynomial m_is_polynomial g e_is_fraction
  have e_need_polynomial := ok_need_polynomial (P := P) (w := w) (base := base) F_need_polynomial i_need_polynomial m_need_polynomial
  have V : Div P w K mg base := ⟨T, e_parted, e_shared, e_turned_about, e_square_sum, e_is_fraction, e_is_polynomial, e_need_polynomial⟩
  have e_plain := ok_plain (P := P) (w := w) (base := base) F_plain i_plain m_plain V
  have e_chain := ok_chain (P := P) (w := w) (base := base) F_chain i_chain m_chain V
  have e_sign_far := ok_sign_far (P := P) (w := w) (base := base) F_sign_far i_sign_far m_sign_far L
  have e_changes := ok_changes (P := P) (w := w) (base := base) F_changes i_changes m_changes T e_sign_far
  have e_between := ok_between (P := P) (w := w) (base := base) F_between i_between m_between e_changes
  have e_how_many := ok_how_many (P := P) (w := w) (base := base) F_how_many i_how_many m_how_many V e_plain e_chain e_between
  have e_bound := ok_bound (P := P) (w := w) (base := base) F_bound i_bound m_bound T
  have e_halved := ok_halved (P := P) (w := w) (base := base) F_halved i_halved m_halved L e_between
  have C : Cha P w K mg base := ⟨V, e_plain, e_chain, e_between, e_how_many, e_bound, e_halved⟩
  have e_apart := ok_apart (P := P) (w := w) (base := base) F_apart i_apart m_apart C
  have e_first_stretches := ok_first_stretches (P := P) (w := w) (base := base) F_first_stretches i_first_stretches m_first_stretches C e_apart
  have e_narrowed := ok_narrowed (P := P) (w := w) (base := base) F_narrowed i_narrowed m_narrowed C
  have e_stretches := ok_stretches (P := P) (w := w) (base := base) F_stretches i_stretches m_stretches C e_first_stretches e_narrowed
  have e_root_powers := ok_root_powers (P := P) (w := w) (base := base) F_root_powers i_root_powers m_root_powers L
  have e_next_step := ok_next_step (P := P) (w := w) (base := base) F_next_step i_next_step m_next_step T
  have e_turn_of := ok_turn_of (P := P) (w := w) (base := base) F_turn_of i_turn_of m_turn_of V
  have e_steps := ok_steps (P := P) (w := w) (base := base) F_steps i_steps m_steps V e_next_step e_turn_of
  have e_nought_bar := ok_nought_bar (P := P) (w := w) (base := base) F_nought_bar i_nought_bar m_nought_bar V
  have e_row_less := ok_row_less (P := P) (w := w) (base := base) F_row_less i_row_less m_row_less L
  have e_solved := ok_solved (P := P) (w := w) (base := base) F_solved i_solved m_solved L e_row_less
  have e_flock_by_roots := ok_flock_by_roots (P := P) (w := w) (base := base) F_flock_by_roots i_flock_by_roots m_flock_by_roots T e_root_powers e_solved
  have e_open_roots := ok_open_roots (P := P) (w := w) (base := base) F_open_roots i_open_roots m_open_roots L e_next_step
  have e_back := ok_back (P := P) (w := w) (base := base) F_back i_back m_back L e_steps e_flock_by_roots e_open_roots e_nought_bar
  have e_need_flock := ok_need_flock (P := P) (w := w) (base := base) F_need_flock i_need_flock m_need_flock e_back
  have e_tight_step := ok_tight_step (P := P) (w := w) (base := base) F_tight_step i_tight_step m_tight_step g e_steps
  have B : Bac P w K mg base := ⟨C, e_root_powers, e_next_step, e_steps, e_flock_by_roots, e_back, e_need_flock, e_tight_step, e_stretches⟩
  have e_flock_sums := ok_flock_sums (P := P) (w := w) (base := base) F_flock_sums i_flock_sums m_flock_sums T e_root_powers
  have e_flock_at := ok_flock_at (P := P) (w := w) (base := base) F_flock_at i_flock_at m_flock_at B
  have e_shows_most := ok_shows_most (P := P) (w := w) (base := base) F_shows_most i_shows_most m_shows_most B
  have e_steepest := ok_steepest (P := P) (w := w) (base := base) F_steepest i_steepest m_steepest L
  have e_weight_up_to := ok_weight_up_to (P := P) (w := w) (base := base) F_weight_up_to i_weight_up_to m_weight_up_to B e_flock_sums e_steepest
  have e_least_square := ok_least_square (P := P) (w := w) (base := base) F_least_square i_least_square m_least_square B
  have e_law_less := ok_law_less (P := P) (w := w) (base := base) F_law_less i_law_less m_law_less
  have e_law_divisor := ok_law_divisor (P := P) (w := w) (base := base) F_law_divisor i_law_divisor m_law_divisor b_abs
  have e_law_low := ok_law_low (P := P) (w := w) (base := base) F_law_low i_law_low m_law_low hN hT e_law_divisor
  have e_law_plus := ok_law_plus (P := P) (w := w) (base := base) F_law_plus i_law_plus m_law_plus e_law_low
  have e_law_minus := ok_law_minus (P := P) (w := w) (base := base) F_law_minus i_law_minus m_law_minus e_law_low
  have e_law_times := ok_law_times (P := P) (w := w) (base := base) F_law_times i_law_times m_law_times e_law_low
  have e_law_cell_at := ok_law_cell_at (P := P) (w := w) (base := base) F_law_cell_at i_law_cell_at m_law_cell_at g
  have e_law_state := ok_law_state (P := P) (w := w) (base := base) F_law_state i_law_state m_law_state e_law_cell_at
  have e_law_take := ok_law_take (P := P) (w := w) (base := base) F_law_take i_law_take m_law_take
  have e_law_small := ok_law_small (P := P) (w := w) (base := base) F_law_small i_law_small m_law_small e_law_take
  have e_law_above := ok_law_above (P := P) (w := w) (base := base) F_law_above i_law_above m_law_above e_law_take
  have e_law_crowd := ok_law_crowd (P := P) (w := w) (base := base) F_law_crowd i_law_crowd m_law_crowd g e_law_take e_law_small e_law_above e_law_plus
  have e_law_spot_crowd := ok_law_spot_crowd (P := P) (w := w) (base := base) F_law_spot_crowd i_law_spot_crowd m_law_spot_crowd e_law_crowd e_law_small e_law_above
  have e_law_crowd_sums := ok_law_crowd_sums (P := P) (w := w) (base := base) F_law_crowd_sums i_law_crowd_sums m_law_crowd_sums g e_law_plus e_law_times
  have e_law_weights := ok_law_weights (P := P) (w := w) (base := base) F_law_weights i_law_weights m_law_weights e_law_less e_law_plus
  have Hh : Hel P w K mg base := ⟨B, e_least_square, e_shows_most, e_flock_at, e_weight_up_to, e_law_less, e_law_low, e_law_minus, e_law_times, e_law_take, e_law_small, e_law_above, e_law_spot_crowd, e_law_state, e_law_crowd_sums, e_law_weights⟩
  have e_law_bounds := ok_law_bounds (P := P) (w := w) (base := base) F_law_bounds i_law_bounds m_law_bounds Hh
  have e_law_too_much := ok_law_too_much (P := P) (w := w) (base := base) F_law_too_much i_law_too_much m_law_too_much Hh
  have e_law := ok_law (P := P) (w := w) (base := base) F_law i_law m_law Hh e_law_bounds e_law_too_much PL
  exact e_law
end M66
/-! The plain law, part 1: the crowd's sums as a functional; sizes. -/
namespace M66
/-- the crowd's sum of a function -/
def LC : ICr → (Rat → Rat) → Rat
  | [], _ => 0
  | z :: C, φ => (z.2 : Rat) * φ (z.1 : Rat) + LC C φ
theorem foldl_add (f : List Rat) (a : Rat) : f.foldl (· + ·) a = a + tot f := by
  induction f generalizing a with
  | nil => show a = a + 0; grind
  | cons c f ih =>
    rw [List.foldl_cons, ih]
    show _ = a + (c :: f).foldl (· + ·) 0
    rw [List.foldl_cons, ih]
    grind
theorem tot_cons (c : Rat) (f : List Rat) : tot (c :: f) = c + tot f := by
  show (c :: f).foldl (· + ·) 0 = _
  rw [List.foldl_cons, foldl_add]
  grind
theorem tot_nil : tot [] = 0 := rfl
theorem LC_add (C : ICr) (φ ψ : Rat → Rat) : LC C (fun x => φ x + ψ x) = LC C φ + LC C ψ := by
  induction C with
  | nil => simp only [LC]; grind
  | cons z C ih => simp only [LC, ih]; grind
theorem LC_smul (C : ICr) (c : Rat) (φ : Rat → Rat) : LC C (fun x => c * φ x) = c * LC C φ := by
  induction C with
  | nil => simp only [LC]; grind
  | cons z C ih => simp only [LC, ih]; grind
theorem LC_congr {C : ICr} {φ ψ : Rat → Rat} (h : ∀ z ∈ C, φ (z.1 : Rat) = ψ (z.1 : Rat)) : LC C φ = LC C ψ := by
  induction C with
  | nil => rfl
  | cons z C ih => simp only [LC]; rw [h z List.mem_cons_self, ih fun y hy => h y (List.mem_cons_of_mem _ hy)]
theorem LC_ext {C : ICr} {φ ψ : Rat → Rat} (h : ∀ x, φ x = ψ x) : LC C φ = LC C ψ := LC_congr fun z _ => h _
theorem LC_le {C : ICr} {φ ψ : Rat → Rat} (hw : ∀ z ∈ C, 0 ≤ (z.2 : Rat)) (h : ∀ z ∈ C, φ (z.1 : Rat) ≤ ψ (z.1 : Rat)) : LC C φ ≤ LC C ψ := by
  induction C with
  | nil => exact Rat.le_refl
  | cons z C ih =>
    simp only [LC]
    have h1 := ih (fun y hy => hw y (List.mem_cons_of_mem _ hy)) fun y hy => h y (List.mem_cons_of_mem _ hy)
    have h2 := Rat.mul_le_mul_of_nonneg_left (h z List.mem_cons_self) (hw z List.mem_cons_self)
    grind
theorem tot_powsC (C : ICr) (k : Nat) : tot (powsC C k) = LC C (fun x => x ^ k) := by
  unfold powsC
  induction C with
  | nil => rfl
  | cons z C ih => rw [List.map_cons, tot_cons, ih]; rfl
/-- what worth comes to, from any numbers -/
def dotF : List Rat → (Nat → Rat) → Rat
  | [], _ => 0
  | c :: f, g => c * g 0 + dotF f (fun k => g (k + 1))
theorem wor_dot : ∀ (f : List Rat) (m : Nat) (g : Nat → Rat), f.length ≤ m → tot (wor ((List.range m).map g) f) = dotF f g
  | [], _, _, _ => rfl
  | c :: f, 0, _, h => absurd h (Nat.not_succ_le_zero _)
  | c :: f, m + 1, g, h => by
    rw [List.range_succ_eq_map, List.map_cons, List.map_map]
    unfold wor
    rw [List.zip_cons_cons, List.map_cons, tot_cons]
    have ih := wor_dot f m (fun k => g (k + 1)) (by rw [List.length_cons] at h; omega)
    unfold wor at ih
    show c * g 0 + tot (((f.zip ((List.range m).map fun k => g (k + 1)))).map _) = _
    rw [ih]
    rfl
theorem dot_LC (C : ICr) : ∀ (f : List Rat) (i : Nat), dotF f (fun k => LC C (fun x => x ^ (k + i))) = LC C (fun x => x ^ i * ev f x)
  | [], i => by
    have : LC C (fun x => x ^ i * ev [] x) = LC C (fun x => 0 * x) := LC_ext fun x => by rw [ev_nil]; grind
    rw [this, LC_smul, Rat.zero_mul]
    rfl
  | c :: f, i => by
    have h1 : LC C (fun x => x ^ i * ev (c :: f) x) = LC C (fun x => c * x ^ i + x ^ (i + 1) * ev f x) := LC_ext fun x => by rw [ev_cons]; grind
    rw [h1, LC_add, LC_smul, ← dot_LC C f (i + 1)]
    show c * LC C (fun x => x ^ (0 + i)) + dotF f (fun k => LC C (fun x => x ^ (k + 1 + i))) = _
    rw [Nat.zero_add]
    congr 2
    funext k
    rw [show k + 1 + i = k + (i + 1) by omega]
theorem sumsC_length (C : ICr) (m : Nat) : (sumsC C m).length = m := by
  unfold sumsC
  rw [List.length_map, List.length_range]
theorem worth_C {C : ICr} {m : Nat} {f : List Rat} (h : f.length ≤ m) : tot (wor (sumsC C m) f) = LC C (ev f) := by
  have e : sumsC C m = (List.range m).map fun k => LC C (fun x => x ^ (k + 0)) := by
    unfold sumsC
    apply List.map_congr_left
    intro k _
    rw [tot_powsC]
    rfl
  rw [e, wor_dot f m _ h, dot_LC]
  exact LC_ext fun x => by grind
theorem sqs_C {C : ICr} {m : Nat} {f g : List Rat} (h : (mulP f g).length ≤ m) : sqs (sumsC C m) f g = LC C (fun x => ev f x * ev g x) := by
  unfold sqs
  rw [worth_C h]
  exact LC_ext fun x => ev_mulP f g x
theorem cf_sums {C : ICr} {m k : Nat} (h : k < m) : cf (sumsC C m) k = LC C (fun x => x ^ k) := by
  rw [cf_lt (by rw [sumsC_length]; exact h)]
  unfold sumsC
  rw [List.getElem_map, List.getElem_range, tot_powsC]
theorem mul_take_len1 (f g : List Rat) (hf : f ≠ []) : ∀ i, (mulP f (g.take (i + 1))).length ≤ f.length + i
  | 0 => by
    have hl : 0 < f.length := List.length_pos_iff.mpr hf
    cases h : g[0]? with
    | none =>
      have e : g.length ≤ 0 := List.getElem?_eq_none_iff.mp h
      have : g = [] := List.eq_nil_of_length_eq_zero (by omega)
      subst this
      exact Nat.zero_le _
    | some c =>
      rw [mulP_snoc h]
      have h1 := addP_length (mulP f (g.take 0)) (rai (scl f c) 0)
      have h3 := rai_length (scl f c) 0
      have h4 := scl_length f c
      have h5 : (mulP f (g.take 0)).length = 0 := rfl
      omega
  | i + 1 => by
    cases h : g[i + 1]? with
    | none =>
      have e : g.length ≤ i + 1 := List.getElem?_eq_none_iff.mp h
      rw [List.take_of_length_le (by omega), ← List.take_of_length_le (l := g) (i := i + 1) e]
      have := mul_take_len1 f g hf i
      omega
    | some c =>
      rw [mulP_snoc h]
      have h1 := addP_length (mulP f (g.take (i + 1))) (rai (scl f c) (i + 1))
      have h2 := mul_take_len1 f g hf i
      have h3 := rai_length (scl f c) (i + 1)
      have h4 := scl_length f c
      omega
theorem mulP_len1 {f g : List Rat} (hf : f ≠ []) (hg : g ≠ []) : (mulP f g).length + 1 ≤ f.length + g.length := by
  have hl : 0 < g.length := List.length_pos_iff.mpr hg
  have := mul_take_len1 f g hf (g.length - 1)
  rw [show g.length - 1 + 1 = g.length by omega, List.take_length] at this
  omega

/-! sizes -/
theorem sz_tot {n : Nat} (h0 : 0 < n) : ∀ {f : List Rat}, SzL n f → Sz (1 + f.length * (n + 1)) (tot f)
  | [], _ => Sz.zero (by omega)
  | c :: f, h => by
    rw [tot_cons, List.length_cons, Nat.add_mul]
    exact ((h c List.mem_cons_self).add (sz_tot h0 fun d hd => h d (List.mem_cons_of_mem _ hd))).mono (by omega)
theorem szl_take {n : Nat} {f : List Rat} (h : SzL n f) (i : Nat) : SzL n (f.take i) := fun c hc => h c (List.mem_of_mem_take hc)
theorem szl_wor {n m : Nat} {sums f : List Rat} (hf : SzL n f) (hs : SzL m sums) : SzL (n + m) (wor sums f) := fun c hc => by
  obtain ⟨z, hz, rfl⟩ := List.mem_map.mp hc
  exact (hf _ (List.of_mem_zip hz).1).mul (hs _ (List.of_mem_zip hz).2)
theorem wor_length (sums f : List Rat) : (wor sums f).length ≤ f.length := by
  unfold wor
  rw [List.length_map, List.length_zip]
  omega
theorem sz_tot_take {n k : Nat} {f : List Rat} (h0 : 0 < n) (h : SzL n f) (hl : f.length ≤ k) (i : Nat) : Sz (1 + k * (n + 1)) (tot (f.take i)) :=
  (sz_tot h0 (szl_take h i)).mono (by
    have : (f.take i).length * (n + 1) ≤ k * (n + 1) := Nat.mul_le_mul_right _ (by rw [List.length_take]; omega)
    omega)
theorem worOk_of {n m : Nat} {sums f : List Rat} (h1 : 0 < n) (h2 : 0 < m) (hl : f.length ≤ sums.length) (hs : sums.length ≤ 11) (hf : SzL n f) (hss : SzL m sums) (hB : 1 + 11 * (n + m + 1) ≤ BIG) : WorOk sums f ∧ Sz (1 + 11 * (n + m + 1)) (tot (wor sums f)) := by
  have hw := szl_wor hf hss
  have hwl := wor_length sums f
  have key := fun i => sz_tot_take (k := 11) (by omega) hw (by omega) i
  refine ⟨⟨hl, by omega, hf.sl (by omega), hss.sl (by omega), hw.sl (by omega), fun i _ => (key i).s hB⟩, ?_⟩
  have := key (wor sums f).length
  rwa [List.take_length] at this
theorem szl_mulP5 {n : Nat} {f g : List Rat} (h1 : 0 < n) (hf : SzL n f) (hg : SzL n g) (lg : g.length ≤ 5) : SzL (1 + 5 * (2 * n + 1)) (mulP f g) := (szl_mulP h1 h1 hf hg).mono (by
  have : g.length * (n + n + 1) ≤ 5 * (n + n + 1) := Nat.mul_le_mul_right _ lg
  omega)
/-- sizes of square_sum -/
theorem sqOk_of {n : Nat} {sums f g : List Rat} (h1 : 64 ≤ n) (hn : n ≤ 100000) (lf : f.length ≤ 12) (lg : g.length ≤ 5) (hl : (mulP f g).length ≤ sums.length) (hs : sums.length ≤ 11) (hf : SzL n f) (hg : SzL n g) (hss : SzL n sums) : SqOk sums f g ∧ Sz (200 * n) (sqs sums f g) := by
  have eB : BIG = 67000000 := rfl
  have hm := szl_mulP5 (by omega) hf hg lg
  have := worOk_of (by omega) (by omega) hl hs hm hss (by omega)
  refine ⟨⟨mulOk (n := n) (m := n) (by omega) (by omega) (by omega) hf hg ?_, this.1⟩, this.2.mono (by omega)⟩
  have : g.length * (n + n + 1) ≤ 5 * (n + n + 1) := Nat.mul_le_mul_right _ lg
  omega
end M66
/-! The plain law, part 2: steps. -/
namespace M66
theorem nstOk_of {n : Nat} {some : List Stp} {t : Rat} (h1 : 64 ≤ n) (hn : n ≤ 100000) (h0 : some ≠ []) (hp : SzL n (lastS some).1) (hl : (lastS some).1.length ≤ 5) (ht : Sz n t) (hh : Sz n (lastS some).2) (hq : 1 < some.length → Sz n (prevS some).2 ∧ (prevS some).2 ≠ 0 ∧ SzL n (prevS some).1 ∧ (prevS some).1.length ≤ 5) : NstOk some t ∧ SzL (10 * n) (nstep some t) := by
  have eB : BIG = 67000000 := rfl
  have a1 : SzL (2 * n) (scl (lastS some).1 t) := (szl_scl hp ht).mono (by omega)
  have a2 : SzL (4 * n) (nst0 (lastS some).1 t) := (szl_subP (by omega) (by omega) (szl_rai (by omega) hp 1) a1).mono (by omega)
  refine ⟨⟨h0, hp.sl (by omega), by omega, ht.s (by omega), a1.sl (by omega), fun hlt => ?_⟩, ?_⟩
  · obtain ⟨q1, q2, q3, q4⟩ := hq hlt
    exact ⟨hh.s (by omega), q1.s (by omega), q2, q3.sl (by omega), by omega, (hh.div q1).s (by omega), a2.sl (by omega), (szl_scl q3 (hh.div q1)).sl (by omega)⟩
  · unfold nstep
    split
    · rename_i hlt
      obtain ⟨q1, q2, q3, q4⟩ := hq hlt
      exact (szl_subP (by omega) (by omega) a2 (szl_scl q3 (hh.div q1))).mono (by omega)
    · exact a2.mono (by omega)
theorem trnOk_of {n : Nat} {sums : List Rat} {some : List Stp} (h1 : 64 ≤ n) (hn : n ≤ 100000) (h0 : some ≠ []) (hp : SzL n (lastS some).1) (hl : (lastS some).1.length ≤ 5) (hl2 : 2 * (lastS some).1.length ≤ sums.length) (hp0 : (lastS some).1 ≠ []) (hs : sums.length ≤ 11) (hss : SzL n sums) (hh : Sz n (lastS some).2) (hz : (lastS some).2 ≠ 0) : TrnOk sums some := by
  have eB : BIG = 67000000 := rfl
  have hr : rai (lastS some).1 1 ≠ [] := by
    unfold rai
    rw [if_neg hp0]
    simp
  have hrl := rai_length (lastS some).1 1
  have hml := mulP_len1 hr hp0
  obtain ⟨k1, k2⟩ := sqOk_of (f := rai (lastS some).1 1) (g := (lastS some).1) h1 hn (by omega) hl (by omega) hs (szl_rai (by omega) hp 1) hp hss
  exact ⟨h0, by omega, k1, k2.s (by omega), hh.s (by omega), hz⟩

theorem nrm_one {f : List Rat} : Nrm (f ++ [1]) := .inr (by
  unfold lst
  rw [List.getLastD_concat]
  decide)
theorem cf2 (a b : Rat) : cf [a, b] 0 = a ∧ cf [a, b] 1 = b ∧ ∀ i, cf [a, b] (i + 2) = 0 := ⟨rfl, rfl, fun i => cf_of_le (by simp)⟩
theorem cf3 (a b c : Rat) : cf [a, b, c] 0 = a ∧ cf [a, b, c] 1 = b ∧ cf [a, b, c] 2 = c ∧ ∀ i, cf [a, b, c] (i + 3) = 0 := ⟨rfl, rfl, rfl, fun i => cf_of_le (by simp)⟩
theorem cf4 (a b c d : Rat) : cf [a, b, c, d] 0 = a ∧ cf [a, b, c, d] 1 = b ∧ cf [a, b, c, d] 2 = c ∧ cf [a, b, c, d] 3 = d ∧ ∀ i, cf [a, b, c, d] (i + 4) = 0 := ⟨rfl, rfl, rfl, rfl, fun i => cf_of_le (by simp)⟩
theorem cf1 (a : Rat) : cf [a] 0 = a ∧ ∀ i, cf [a] (i + 1) = 0 := ⟨rfl, fun i => cf_of_le (by simp)⟩
theorem cf_nst0 (p : List Rat) (t : Rat) (i : Nat) : cf (nst0 p t) i = (if i < 1 then 0 else cf p (i - 1)) - cf p i * t := by
  unfold nst0
  rw [cf_subP, cf_rai, cf_scl]
theorem ev_nst0 (p : List Rat) (t x : Rat) : ev (nst0 p t) x = (x - t) * ev p x := by
  unfold nst0
  rw [ev_subP, ev_rai, ev_scl]
  grind
theorem nrm_nst0 (p : List Rat) (t : Rat) : Nrm (nst0 p t) := nrm_subP _ _
theorem nst_1 (t : Rat) : nst0 [1] t = [-t, 1] := nrm_ext (nrm_nst0 _ _) (nrm_one (f := [-t])) fun i => by
  rw [cf_nst0]
  match i with
  | 0 => simp [cf]; grind
  | 1 => simp [cf]; grind
  | i + 2 => rw [(cf2 _ _).2.2 i, (cf1 _).2 (i + 1), if_neg (by omega), show i + 2 - 1 = i + 1 by omega, (cf1 _).2 i]; grind
theorem nstep1 (h0 t : Rat) : nstep [([1], h0)] t = [-t, 1] := by
  unfold nstep
  rw [if_neg (by simp)]
  exact nst_1 t
theorem nstep2 (h0 h1 t0 t : Rat) : nstep [([1], h0), ([-t0, 1], h1)] t = [t0 * t - h1 / h0, -(t0 + t), 1] := by
  unfold nstep
  rw [if_pos (by simp)]
  refine nrm_ext (nrm_subP _ _) (nrm_one (f := [t0 * t - h1 / h0, -(t0 + t)])) fun i => ?_
  show cf (subP (nst0 [-t0, 1] t) (scl [1] (h1 / h0))) i = _
  rw [cf_subP, cf_nst0, cf_scl]
  match i with
  | 0 => simp [cf]; grind
  | 1 => simp [cf]; grind
  | 2 => simp [cf]; grind
  | i + 3 => rw [(cf3 _ _ _).2.2.2 i, (cf2 _ _).2.2 (i + 1), (cf1 _).2 (i + 2), if_neg (by omega), show i + 3 - 1 = i + 2 by omega, (cf2 _ _).2.2 i]; grind
theorem nstep3 (h0 h1 h2 t0 e0 e1 t : Rat) : nstep [([1], h0), ([-t0, 1], h1), ([e0, e1, 1], h2)] t = [-(t * e0) + h2 / h1 * t0, e0 - t * e1 - h2 / h1, e1 - t, 1] := by
  unfold nstep
  rw [if_pos (by simp)]
  refine nrm_ext (nrm_subP _ _) (nrm_one (f := [-(t * e0) + h2 / h1 * t0, e0 - t * e1 - h2 / h1, e1 - t])) fun i => ?_
  show cf (subP (nst0 [e0, e1, 1] t) (scl [-t0, 1] (h2 / h1))) i = _
  rw [cf_subP, cf_nst0, cf_scl]
  match i with
  | 0 => simp [cf]; grind
  | 1 => simp [cf]; grind
  | 2 => simp [cf]; grind
  | 3 => simp [cf]; grind
  | i + 4 => rw [(cf4 _ _ _ _).2.2.2.2 i, (cf3 _ _ _).2.2.2 (i + 1), (cf2 _ _).2.2 (i + 2), if_neg (by omega), show i + 4 - 1 = i + 3 by omega, (cf3 _ _ _).2.2.2 i]; grind
theorem ev1 (x : Rat) : ev [1] x = 1 := by simp only [ev_cons, ev_nil]; grind
theorem ev2 (a b x : Rat) : ev [a, b] x = a + b * x := by simp only [ev_cons, ev_nil]; grind
theorem ev3 (a b c x : Rat) : ev [a, b, c] x = a + b * x + c * x ^ 2 := by simp only [ev_cons, ev_nil]; grind
theorem ev4 (a b c d x : Rat) : ev [a, b, c, d] x = a + b * x + c * x ^ 2 + d * x ^ 3 := by simp only [ev_cons, ev_nil]; grind
end M66
/-! The plain law, part 3: the moments, closed forms of the steps. -/
namespace M66
/-- a whole number below 2^n -/
def IB (n : Nat) (q : Rat) : Prop := ∃ i : Int, q = (i : Rat) ∧ i.natAbs < 2 ^ n
theorem IB.int {i : Int} {n : Nat} (h : i.natAbs < 2 ^ n) : IB n (i : Rat) := ⟨i, rfl, h⟩
theorem IB.mono {n m : Nat} {q : Rat} (h : IB n q) (hm : n ≤ m) : IB m q := let ⟨i, e, l⟩ := h; ⟨i, e, Nat.lt_of_lt_of_le l (pow2_mono hm)⟩
theorem IB.mul {n m : Nat} {p q : Rat} (h : IB n p) (k : IB m q) : IB (n + m) (p * q) := by
  obtain ⟨i, rfl, l⟩ := h
  obtain ⟨j, rfl, l'⟩ := k
  exact ⟨i * j, (Rat.intCast_mul i j).symm, by rw [Int.natAbs_mul]; exact lt_mul2 l l'⟩
theorem IB.add {n : Nat} {p q : Rat} (h : IB n p) (k : IB n q) : IB (n + 1) (p + q) := by
  obtain ⟨i, rfl, l⟩ := h
  obtain ⟨j, rfl, l'⟩ := k
  refine ⟨i + j, (Rat.intCast_add i j).symm, ?_⟩
  rw [Nat.pow_succ]
  omega
theorem IB.neg {n : Nat} {p : Rat} (h : IB n p) : IB n (-p) := by
  obtain ⟨i, rfl, l⟩ := h
  exact ⟨-i, (Rat.intCast_neg i).symm, by rw [Int.natAbs_neg]; exact l⟩
theorem IB.sub {n : Nat} {p q : Rat} (h : IB n p) (k : IB n q) : IB (n + 1) (p - q) := by
  rw [Rat.sub_eq_add_neg]
  exact h.add k.neg
theorem IB.sz {n : Nat} {q : Rat} (h : IB n q) (h0 : 0 < n) : Sz n q := by
  obtain ⟨i, rfl, l⟩ := h
  exact sz_int h0 l
theorem IB.div {n : Nat} {p q : Rat} (h : IB n p) (k : IB n q) (hq : q ≠ 0) (h0 : 0 < n) : Sz n (p / q) := by
  obtain ⟨i, rfl, l⟩ := h
  obtain ⟨j, rfl, l'⟩ := k
  have e : (i : Rat) / (j : Rat) = Rat.divInt i j := (Rat.divInt_eq_div i j).symm
  rw [e]
  exact sz_divInt h0 l l'
theorem IB.zero {n : Nat} : IB n 0 := ⟨0, rfl, Nat.pow_pos (by decide)⟩

/-- moments -/
def mo (C : ICr) (k : Nat) : Rat := LC C fun x => x ^ k
theorem mo_nil (k : Nat) : mo [] k = 0 := rfl
theorem mo_cons (z : Int × Int) (C : ICr) (k : Nat) : mo (z :: C) k = (z.2 : Rat) * (z.1 : Rat) ^ k + mo C k := rfl
theorem ib_term {x w : Int} (h1 : -6 ≤ x) (h2 : x ≤ 18) (h3 : 1 ≤ w) (h4 : w ≤ 6) (k : Nat) : ∃ i : Int, (w : Rat) * (x : Rat) ^ k = (i : Rat) ∧ i.natAbs ≤ 6 * 18 ^ k := by
  induction k with
  | zero =>
    refine ⟨w, by rw [Rat.pow_zero, Rat.mul_one], ?_⟩
    omega
  | succ k ih =>
    obtain ⟨i, e, l⟩ := ih
    refine ⟨i * x, ?_, ?_⟩
    · rw [Rat.pow_succ, ← Rat.mul_assoc, e, Rat.intCast_mul]
    · rw [Int.natAbs_mul, Nat.pow_succ]
      have h5 : x.natAbs ≤ 18 := by omega
      have := Nat.mul_le_mul l h5
      rw [Nat.mul_assoc] at this
      exact this
theorem cr_each {C : ICr} (h : CrOk C) : C.length ≤ 3 ∧ ∀ z ∈ C, -6 ≤ z.1 ∧ z.1 ≤ 18 ∧ 1 ≤ z.2 ∧ z.2 ≤ 6 := by
  rcases h with ⟨x, w, rfl, h⟩ | ⟨x, w, d, w2, rfl, h⟩ | ⟨x, w, d, w2, d2, w3, rfl, h⟩
  · refine ⟨by simp, fun z hz => ?_⟩
    simp at hz
    subst hz
    dsimp
    omega
  · refine ⟨by simp, fun z hz => ?_⟩
    simp at hz
    rcases hz with rfl | rfl <;> dsimp <;> omega
  · refine ⟨by simp, fun z hz => ?_⟩
    simp at hz
    rcases hz with rfl | rfl | rfl <;> dsimp <;> omega
theorem mo_int {C : ICr} (h : ∀ z ∈ C, -6 ≤ z.1 ∧ z.1 ≤ 18 ∧ 1 ≤ z.2 ∧ z.2 ≤ 6) (k : Nat) : ∃ i : Int, mo C k = (i : Rat) ∧ i.natAbs ≤ C.length * (6 * 18 ^ k) := by
  induction C with
  | nil => exact ⟨0, rfl, by simp⟩
  | cons z C ih =>
    obtain ⟨i, e, l⟩ := ih fun y hy => h y (List.mem_cons_of_mem _ hy)
    obtain ⟨h1, h2, h3, h4⟩ := h z List.mem_cons_self
    obtain ⟨j, e2, l2⟩ := ib_term h1 h2 h3 h4 k
    refine ⟨j + i, ?_, ?_⟩
    · rw [mo_cons, e, e2, Rat.intCast_add]
    · rw [List.length_cons, Nat.add_mul]
      omega
theorem mo_ib {C : ICr} (h : CrOk C) {k n : Nat} (hn : 3 * (6 * 18 ^ k) < 2 ^ n) : IB n (mo C k) := by
  obtain ⟨h1, h2⟩ := cr_each h
  obtain ⟨i, e, l⟩ := mo_int h2 k
  refine ⟨i, e, Nat.lt_of_le_of_lt (Nat.le_trans l (Nat.mul_le_mul_right _ h1)) hn⟩
theorem sums_mo {C : ICr} {m : Nat} : sumsC C m = (List.range m).map (mo C) := by
  unfold sumsC
  apply List.map_congr_left
  intro k _
  exact tot_powsC C k
theorem szl_sums {C : ICr} (h : CrOk C) {m : Nat} (hm : m ≤ 11) : SzL 64 (sumsC C m) := fun c hc => by
  rw [sums_mo] at hc
  obtain ⟨k, hk, rfl⟩ := List.mem_map.mp hc
  have hk2 := List.mem_range.mp hk
  refine (mo_ib h (n := 64) ?_).sz (by decide)
  have : (18 : Nat) ^ k ≤ 18 ^ 10 := Nat.pow_le_pow_right (by decide) (by omega)
  have e : 3 * (6 * 18 ^ 10) < 2 ^ 64 := by decide
  omega
/-- the functional on a polynomial of degree at most 5, by moments -/
theorem LC_p5 (C : ICr) (a b c d e f : Rat) : LC C (fun x => a + b * x + c * x ^ 2 + d * x ^ 3 + e * x ^ 4 + f * x ^ 5) = a * mo C 0 + b * mo C 1 + c * mo C 2 + d * mo C 3 + e * mo C 4 + f * mo C 5 := by
  unfold mo
  induction C with
  | nil => simp only [LC]; grind
  | cons z C ih => simp only [LC]; rw [ih]; grind
def De2 (C : ICr) : Rat := mo C 0 * mo C 2 - mo C 1 * mo C 1
def De3 (C : ICr) : Rat := mo C 0 * mo C 2 * mo C 4 + 2 * (mo C 1 * mo C 2 * mo C 3) - mo C 2 * mo C 2 * mo C 2 - mo C 0 * (mo C 3 * mo C 3) - mo C 1 * mo C 1 * mo C 4
def tt0 (C : ICr) : Rat := mo C 1 / mo C 0
def hh1 (C : ICr) : Rat := De2 C / mo C 0
def ee0 (C : ICr) : Rat := (mo C 1 * mo C 3 - mo C 2 * mo C 2) / De2 C
def ee1 (C : ICr) : Rat := (mo C 1 * mo C 2 - mo C 0 * mo C 3) / De2 C
def hh2 (C : ICr) : Rat := De3 C / De2 C
section
variable {C : ICr} (h : CrOk C)
include h
theorem ib0 : IB 6 (mo C 0) := mo_ib h (by decide)
theorem ib1 : IB 9 (mo C 1) := mo_ib h (by decide)
theorem ib2 : IB 13 (mo C 2) := mo_ib h (by decide)
theorem ib3 : IB 17 (mo C 3) := mo_ib h (by decide)
theorem ib4 : IB 21 (mo C 4) := mo_ib h (by decide)
theorem ibD2 : IB 20 (De2 C) := ((((ib0 h).mul (ib2 h)).mono (by decide : 6 + 13 ≤ 19)).sub (((ib1 h).mul (ib1 h)).mono (by decide : 9 + 9 ≤ 19)))
theorem ibD3 : IB 45 (De3 C) := by
  have a1 : IB 40 (mo C 0 * mo C 2 * mo C 4) := (((ib0 h).mul (ib2 h)).mul (ib4 h)).mono (by decide)
  have a2 : IB 40 (mo C 1 * mo C 2 * mo C 3) := (((ib1 h).mul (ib2 h)).mul (ib3 h)).mono (by decide)
  have a3 : IB 41 (2 * (mo C 1 * mo C 2 * mo C 3)) := by
    have := a2.add a2
    rwa [show mo C 1 * mo C 2 * mo C 3 + mo C 1 * mo C 2 * mo C 3 = 2 * (mo C 1 * mo C 2 * mo C 3) by grind] at this
  have a4 : IB 42 (mo C 2 * mo C 2 * mo C 2) := (((ib2 h).mul (ib2 h)).mul (ib2 h)).mono (by decide)
  have a5 : IB 43 (mo C 0 * (mo C 3 * mo C 3)) := ((ib0 h).mul ((ib3 h).mul (ib3 h))).mono (by decide)
  have a6 : IB 44 (mo C 1 * mo C 1 * mo C 4) := (((ib1 h).mul (ib1 h)).mul (ib4 h)).mono (by decide)
  exact ((((a1.mono (by decide)).add a3).sub a4).sub a5).sub a6
theorem sz_tt0 (h0 : mo C 0 ≠ 0) : Sz 9 (tt0 C) := (ib1 h).div ((ib0 h).mono (by decide)) h0 (by decide)
theorem sz_hh1 (h0 : mo C 0 ≠ 0) : Sz 20 (hh1 C) := (ibD2 h).div ((ib0 h).mono (by decide)) h0 (by decide)
theorem sz_ee0 (h0 : De2 C ≠ 0) : Sz 27 (ee0 C) := ((((ib1 h).mul (ib3 h)).mono (by decide : 9 + 17 ≤ 26)).sub (((ib2 h).mul (ib2 h)))).div ((ibD2 h).mono (by decide)) h0 (by decide)
theorem sz_ee1 (h0 : De2 C ≠ 0) : Sz 24 (ee1 C) := ((((ib1 h).mul (ib2 h)).mono (by decide : 9 + 13 ≤ 23)).sub (((ib0 h).mul (ib3 h)))).div ((ibD2 h).mono (by decide)) h0 (by decide)
theorem sz_hh2 (h0 : De2 C ≠ 0) : Sz 45 (hh2 C) := (ibD3 h).div ((ibD2 h).mono (by decide)) h0 (by decide)
end
end M66
/-! The plain law, part 4: the steps of a crowd's sums. -/
namespace M66
theorem div_pos' {a b : Rat} (h1 : 0 < a) (h2 : 0 < b) : 0 < a / b := by
  rw [Rat.div_def]
  exact Rat.mul_pos h1 (Rat.inv_pos.mpr h2)
def L1 (C : ICr) : List Stp := [([1], mo C 0)]
def L2 (C : ICr) : List Stp := [([1], mo C 0), ([-tt0 C, 1], hh1 C)]
def L3 (C : ICr) : List Stp := [([1], mo C 0), ([-tt0 C, 1], hh1 C), ([ee0 C, ee1 C, 1], hh2 C)]
theorem st0_C {C : ICr} {m : Nat} (hm : 0 < m) : st0 (sumsC C m) = L1 C := by
  unfold st0 L1
  rw [cf_sums hm]
  rfl
theorem rai_eq {p q : List Rat} (hp : p ≠ []) (h : List.replicate 1 0 ++ p = q) : rai p 1 = q := by
  unfold rai
  rw [if_neg hp, h]
theorem LC_pe (C : ICr) {φ : Rat → Rat} {a b c d e f : Rat} (h : ∀ x, φ x = a + b * x + c * x ^ 2 + d * x ^ 3 + e * x ^ 4 + f * x ^ 5) : LC C φ = a * mo C 0 + b * mo C 1 + c * mo C 2 + d * mo C 3 + e * mo C 4 + f * mo C 5 := by
  rw [LC_ext h, LC_p5]
section
variable {C : ICr} {m : Nat}
theorem trn1 (hm : 3 ≤ m) : trn (sumsC C m) (L1 C) = tt0 C := by
  show sqs (sumsC C m) (rai [1] 1) [1] / mo C 0 = _
  rw [rai_eq (q := [0, 1]) (by simp) rfl, sqs_C (by have := mulP_len1 (f := [0, 1]) (g := [1]) (by simp) (by simp); simp at this; omega)]
  rw [LC_pe C (a := 0) (b := 1) (c := 0) (d := 0) (e := 0) (f := 0) fun x => by rw [ev2, ev1]; grind]
  unfold tt0
  grind
theorem sq1 (hm : 3 ≤ m) (h0 : mo C 0 ≠ 0) : sqs (sumsC C m) [-tt0 C, 1] [-tt0 C, 1] = hh1 C := by
  rw [sqs_C (by have := mulP_len1 (f := [-tt0 C, 1]) (g := [-tt0 C, 1]) (by simp) (by simp); simp at this; omega)]
  rw [LC_pe C (a := tt0 C * tt0 C) (b := -(2 * tt0 C)) (c := 1) (d := 0) (e := 0) (f := 0) fun x => by rw [ev2]; grind]
  unfold hh1 De2 tt0
  grind
def tt1 (C : ICr) : Rat := (mo C 3 - 2 * tt0 C * mo C 2 + tt0 C * tt0 C * mo C 1) / hh1 C
theorem trn2 (hm : 5 ≤ m) : trn (sumsC C m) (L2 C) = tt1 C := by
  show sqs (sumsC C m) (rai [-tt0 C, 1] 1) [-tt0 C, 1] / hh1 C = _
  rw [rai_eq (q := [0, -tt0 C, 1]) (by simp) rfl, sqs_C (by have := mulP_len1 (f := [0, -tt0 C, 1]) (g := [-tt0 C, 1]) (by simp) (by simp); simp at this; omega)]
  rw [LC_pe C (a := 0) (b := tt0 C * tt0 C) (c := -(2 * tt0 C)) (d := 1) (e := 0) (f := 0) fun x => by rw [ev2, ev3]; grind]
  unfold tt1
  grind
theorem nst2 (h0 : mo C 0 ≠ 0) (h2 : De2 C ≠ 0) : nstep (L2 C) (tt1 C) = [ee0 C, ee1 C, 1] := by
  have e := nstep2 (mo C 0) (hh1 C) (tt0 C) (tt1 C)
  rw [show nstep (L2 C) (tt1 C) = nstep [([1], mo C 0), ([-tt0 C, 1], hh1 C)] (tt1 C) from rfl, e]
  have hd : De2 C = mo C 0 * mo C 2 - mo C 1 * mo C 1 := rfl
  have k1 : tt0 C * mo C 0 = mo C 1 := by unfold tt0; grind
  have k2 : hh1 C * mo C 0 = De2 C := by unfold hh1; grind
  have k0 : hh1 C ≠ 0 := by intro z; rw [z] at k2; grind
  have k3 : tt1 C * hh1 C = mo C 3 - 2 * tt0 C * mo C 2 + tt0 C * tt0 C * mo C 1 := by unfold tt1; grind
  have k4 : ee0 C * De2 C = mo C 1 * mo C 3 - mo C 2 * mo C 2 := by unfold ee0; grind
  have k5 : ee1 C * De2 C = mo C 1 * mo C 2 - mo C 0 * mo C 3 := by unfold ee1; grind
  have k6 : hh1 C / mo C 0 * mo C 0 = hh1 C := by grind
  generalize hh1 C / mo C 0 = r at *
  have o1 : mo C 2 - (tt0 C + tt1 C) * mo C 1 + (tt0 C * tt1 C - r) * mo C 0 = 0 := by grind
  have o2 : mo C 3 - (tt0 C + tt1 C) * mo C 2 + (tt0 C * tt1 C - r) * mo C 1 = 0 := by grind
  have a1 : (tt0 C * tt1 C - r) * De2 C = ee0 C * De2 C := by grind
  have a2 : (-(tt0 C + tt1 C)) * De2 C = ee1 C * De2 C := by grind
  have b1 : tt0 C * tt1 C - r = ee0 C := by grind
  have b2 : -(tt0 C + tt1 C) = ee1 C := by grind
  rw [b1, b2]
theorem orth0 (h2 : De2 C ≠ 0) : mo C 2 + ee1 C * mo C 1 + ee0 C * mo C 0 = 0 := by
  unfold ee0 ee1
  have hd : De2 C = mo C 0 * mo C 2 - mo C 1 * mo C 1 := rfl
  grind
theorem orth1 (h2 : De2 C ≠ 0) : mo C 3 + ee1 C * mo C 2 + ee0 C * mo C 1 = 0 := by
  unfold ee0 ee1
  have hd : De2 C = mo C 0 * mo C 2 - mo C 1 * mo C 1 := rfl
  grind
theorem orth2 (h2 : De2 C ≠ 0) : mo C 4 + ee1 C * mo C 3 + ee0 C * mo C 2 = hh2 C := by
  unfold ee0 ee1 hh2 De3
  have hd : De2 C = mo C 0 * mo C 2 - mo C 1 * mo C 1 := rfl
  grind
theorem sq2 (hm : 5 ≤ m) (h2 : De2 C ≠ 0) : sqs (sumsC C m) [ee0 C, ee1 C, 1] [ee0 C, ee1 C, 1] = hh2 C := by
  rw [sqs_C (by have := mulP_len1 (f := [ee0 C, ee1 C, 1]) (g := [ee0 C, ee1 C, 1]) (by simp) (by simp); simp at this; omega)]
  rw [LC_pe C (a := ee0 C * ee0 C) (b := 2 * ee0 C * ee1 C) (c := ee1 C * ee1 C + 2 * ee0 C) (d := 2 * ee1 C) (e := 1) (f := 0) fun x => by rw [ev3]; grind]
  have := orth0 h2
  have := orth1 h2
  have := orth2 h2
  grind
theorem szl_of2 {n : Nat} {a b : Rat} (h1 : Sz n a) (h2 : Sz n b) : SzL n [a, b] := fun c hc => by
  simp at hc
  rcases hc with rfl | rfl
  · exact h1
  · exact h2
theorem szl_of3 {n : Nat} {a b d : Rat} (h1 : Sz n a) (h2 : Sz n b) (h3 : Sz n d) : SzL n [a, b, d] := fun c hc => by
  simp at hc
  rcases hc with rfl | rfl | rfl
  · exact h1
  · exact h2
  · exact h3
theorem szl_of4 {n : Nat} {a b d e : Rat} (h1 : Sz n a) (h2 : Sz n b) (h3 : Sz n d) (h4 : Sz n e) : SzL n [a, b, d, e] := fun c hc => by
  simp at hc
  rcases hc with rfl | rfl | rfl | rfl
  · exact h1
  · exact h2
  · exact h3
  · exact h4
theorem szl_one {n : Nat} (h : 0 < n) : SzL n [1] := fun c hc => by
  simp at hc
  subst hc
  exact Sz.one h
theorem szl_p1 (h : CrOk C) (h0 : mo C 0 ≠ 0) : SzL 64 [-tt0 C, 1] := szl_of2 ((sz_tt0 h h0).neg.mono (by decide)) (Sz.one (by decide))
theorem szl_p2 (h : CrOk C) (h2 : De2 C ≠ 0) : SzL 64 [ee0 C, ee1 C, 1] := szl_of3 ((sz_ee0 h h2).mono (by decide)) ((sz_ee1 h h2).mono (by decide)) (Sz.one (by decide))
/-- one step more -/
theorem sts_go {sums : List Rat} {some res : List Stp} {p : List Rat} {g : Rat} {n k : Nat} (hn : 64 ≤ k) (hk : k ≤ 100000) (hs : sums.length ≤ 11) (hss : SzL 64 sums) (h0 : some ≠ []) (hp : SzL 64 (lastS some).1) (hl : (lastS some).1.length ≤ 4) (hl2 : (lastS some).1.length = some.length) (hh : Sz 64 (lastS some).2) (hpos : 0 < (lastS some).2) (hlt : 2 * some.length < sums.length) (ht : Sz k (trn sums some))
    (hq : 1 < some.length → Sz 64 (prevS some).2 ∧ (prevS some).2 ≠ 0 ∧ SzL 64 (prevS some).1 ∧ (prevS some).1.length ≤ 5) (e1 : nstep some (trn sums some) = p) (hp2 : SzL 64 p) (lp : p.length = some.length + 1) (e2 : sqs sums p p = g) (r : Sts sums (some ++ [(p, g)]) res n) : Sts sums some res (n + 1) := by
  have hl0 : 0 < some.length := List.length_pos_iff.mpr h0
  have hp0 : (lastS some).1 ≠ [] := by
    intro z
    rw [z] at hl2
    have : some.length = 0 := hl2.symm
    omega
  have hz : (lastS some).2 ≠ 0 := by grind
  have T := trnOk_of (n := 64) (sums := sums) (some := some) (by omega) (by omega) h0 hp (by omega) (by omega) hp0 hs hss hh hz
  have N := (nstOk_of (n := k) (some := some) (t := trn sums some) hn hk h0 (fun c hc => (hp c hc).mono hn) (by omega) ht (hh.mono hn) fun q => by
    obtain ⟨q1, q2, q3, q4⟩ := hq q
    exact ⟨q1.mono hn, q2, fun c hc => (q3 c hc).mono hn, q4⟩).1
  have hpn : p ≠ [] := by
    intro z
    rw [z] at lp
    simp at lp
  have hml := mulP_len1 hpn hpn
  have Q := (sqOk_of (n := 64) (sums := sums) (f := p) (g := p) (by omega) (by omega) (by omega) (by omega) (by omega) hs hp2 hp2 hss).1
  refine Sts.go h0 hpos hlt T N (by rw [e1]; exact Q) ?_
  rw [e1, e2]
  exact r
theorem sts_len (hm : m ≤ 11) : (sumsC C m).length ≤ 11 := by rw [sumsC_length]; exact hm
theorem stsOk_mk {L : List Stp} {n : Nat} (hm0 : 0 < m) (hm : m ≤ 11) (h : Sts (sumsC C m) (L1 C) L n) : StsOk (sumsC C m) L := by
  refine ⟨fun z => ?_, by rw [sumsC_length]; omega, n, by rw [st0_C hm0]; exact h⟩
  have := congrArg List.length z
  rw [sumsC_length] at this
  simp at this
  omega
theorem stop_of {sums : List Rat} {L : List Stp} (h0 : L ≠ []) (h : ¬ 0 < (lastS L).2 ∨ sums.length ≤ 2 * L.length) : Sts sums L L 0 := .stop h0 fun z => by
  rcases h with h | h
  · exact h z.1
  · omega
theorem go1 (h : CrOk C) (h0 : 0 < mo C 0) (hm3 : 3 ≤ m) (hm : m ≤ 11) {res : List Stp} {n : Nat} (r : Sts (sumsC C m) (L2 C) res n) : Sts (sumsC C m) (L1 C) res (n + 1) := by
  have h0' : mo C 0 ≠ 0 := by grind
  refine sts_go (k := 64) (p := [-tt0 C, 1]) (g := hh1 C) (by decide) (by decide) (sts_len hm) (szl_sums h hm) (by simp [L1]) (szl_one (by decide)) (by show 1 ≤ 4; decide) rfl (((ib0 h).sz (by decide)).mono (by decide)) h0 (by rw [sumsC_length]; show 2 * 1 < m; omega) (by rw [trn1 hm3]; exact (sz_tt0 h h0').mono (by decide)) (fun z => absurd z (by simp [L1])) (by rw [trn1 hm3]; exact nstep1 _ _) (szl_p1 h h0') rfl (sq1 hm3 h0') r
theorem sz_tt1 (h : CrOk C) (h0 : mo C 0 ≠ 0) : Sz 1000 (tt1 C) := by
  unfold tt1
  have a0 := sz_tt0 h h0
  have a1 := (ib1 h).sz (n := 9) (by decide)
  have a2 := (ib2 h).sz (n := 13) (by decide)
  have a3 := (ib3 h).sz (n := 17) (by decide)
  have two : Sz 2 (2 : Rat) := sz_int (i := 2) (by decide) (by decide)
  exact (((a3.sub ((two.mul a0).mul a2)).add ((a0.mul a0).mul a1)).div (sz_hh1 h h0)).mono (by decide)
theorem go2 (h : CrOk C) (h0 : 0 < mo C 0) (h2 : 0 < De2 C) (hm5 : 5 ≤ m) (hm : m ≤ 11) {res : List Stp} {n : Nat} (r : Sts (sumsC C m) (L3 C) res n) : Sts (sumsC C m) (L2 C) res (n + 1) := by
  have h0' : mo C 0 ≠ 0 := by grind
  have h2' : De2 C ≠ 0 := by grind
  have hp : 0 < hh1 C := by
    unfold hh1
    exact div_pos' h2 h0
  refine sts_go (k := 1000) (p := [ee0 C, ee1 C, 1]) (g := hh2 C) (by decide) (by decide) (sts_len hm) (szl_sums h hm) (by simp [L2]) (szl_p1 h h0') (by show 2 ≤ 4; decide) rfl ((sz_hh1 h h0').mono (by decide)) hp (by rw [sumsC_length]; show 2 * 2 < m; omega) (by rw [trn2 hm5]; exact sz_tt1 h h0') (fun z => ⟨((ib0 h).sz (by decide)).mono (by decide), h0', szl_one (by decide), by show 1 ≤ 5; decide⟩) (by rw [trn2 hm5]; exact nst2 h0' h2') (szl_p2 h h2') rfl (sq2 hm5 h2') r
end
end M66
/-! The plain law, part 5: crowds of one, two, three spots. -/
namespace M66
/-- a crowd of one to three, as fractions -/
structure One (C : ICr) (x w : Rat) : Prop where
  mo : ∀ k, mo C k = w * x ^ k
  w0 : 0 < w
structure Two (C : ICr) (x y v w : Rat) : Prop where
  mo : ∀ k, mo C k = v * x ^ k + w * y ^ k
  v0 : 0 < v
  w0 : 0 < w
  lt : x < y
structure Thr (C : ICr) (x y z u v w : Rat) : Prop where
  mo : ∀ k, mo C k = u * x ^ k + v * y ^ k + w * z ^ k
  u0 : 0 < u
  v0 : 0 < v
  w0 : 0 < w
  lt1 : x < y
  lt2 : y < z
theorem ip {i : Int} (h : 1 ≤ i) : (0 : Rat) < (i : Rat) := by
  have : ((0 : Int) : Rat) < (i : Rat) := Rat.intCast_lt_intCast.mpr (by omega)
  simpa using this
theorem CrOk.cases {C : ICr} (h : CrOk C) : (∃ x w : Int, C = [(x, w)] ∧ One C x w) ∨ (∃ x y v w : Int, C = [(x, v), (y, w)] ∧ Two C x y v w) ∨ ∃ x y z u v w : Int, C = [(x, u), (y, v), (z, w)] ∧ Thr C x y z u v w := by
  rcases h with ⟨x, w, rfl, h⟩ | ⟨x, w, d, w2, rfl, h⟩ | ⟨x, w, d, w2, d2, w3, rfl, h⟩
  · refine .inl ⟨x, w, rfl, fun k => ?_, ip h.2.2.1⟩
    simp only [mo, LC]
    grind
  · refine .inr (.inl ⟨x, x + d, w, w2, rfl, fun k => ?_, ip h.2.2.1, ip h.2.2.2.2.2.2.1, Rat.intCast_lt_intCast.mpr (by omega)⟩)
    simp only [mo, LC]
    grind
  · refine .inr (.inr ⟨x, x + d, x + d + d2, w, w2, w3, rfl, fun k => ?_, ip h.2.2.1, ip h.2.2.2.2.2.2.1, ip h.2.2.2.2.2.2.2.2.2.2.1, Rat.intCast_lt_intCast.mpr (by omega), Rat.intCast_lt_intCast.mpr (by omega)⟩)
    simp only [mo, LC]
    grind
section
variable {C : ICr} {x y z u v w : Rat}
theorem One.m0 (h : One C x w) : 0 < M66.mo C 0 := by
  rw [h.mo, Rat.pow_zero, Rat.mul_one]
  exact h.w0
theorem One.d2 (h : One C x w) : De2 C = 0 := by
  unfold De2
  rw [h.mo, h.mo, h.mo]
  grind
theorem Two.m0 (h : Two C x y v w) : 0 < M66.mo C 0 := by
  rw [h.mo, Rat.pow_zero, Rat.pow_zero]
  have := h.v0
  have := h.w0
  grind
theorem Two.d2e (h : Two C x y v w) : De2 C = v * w * ((y - x) * (y - x)) := by
  unfold De2
  rw [h.mo, h.mo, h.mo]
  grind
theorem Two.d2 (h : Two C x y v w) : 0 < De2 C := by
  rw [h.d2e]
  have := h.lt
  have k : 0 < y - x := by grind
  exact Rat.mul_pos (Rat.mul_pos h.v0 h.w0) (Rat.mul_pos k k)
theorem Two.d3 (h : Two C x y v w) : De3 C = 0 := by
  unfold De3
  rw [h.mo, h.mo, h.mo, h.mo, h.mo]
  grind
theorem Thr.m0 (h : Thr C x y z u v w) : 0 < M66.mo C 0 := by
  rw [h.mo, Rat.pow_zero, Rat.pow_zero, Rat.pow_zero]
  have := h.u0
  have := h.v0
  have := h.w0
  grind
theorem Thr.d2e (h : Thr C x y z u v w) : De2 C = u * v * ((y - x) * (y - x)) + u * w * ((z - x) * (z - x)) + v * w * ((z - y) * (z - y)) := by
  unfold De2
  rw [h.mo, h.mo, h.mo]
  grind
theorem Thr.d2 (h : Thr C x y z u v w) : 0 < De2 C := by
  rw [h.d2e]
  have := h.lt1
  have := h.lt2
  have k1 : 0 < y - x := by grind
  have k2 : 0 < z - x := by grind
  have k3 : 0 < z - y := by grind
  have a1 := Rat.mul_pos (Rat.mul_pos h.u0 h.v0) (Rat.mul_pos k1 k1)
  have a2 := Rat.mul_pos (Rat.mul_pos h.u0 h.w0) (Rat.mul_pos k2 k2)
  have a3 := Rat.mul_pos (Rat.mul_pos h.v0 h.w0) (Rat.mul_pos k3 k3)
  grind
theorem Thr.d3e (h : Thr C x y z u v w) : De3 C = u * v * w * (((y - x) * (z - x) * (z - y)) * ((y - x) * (z - x) * (z - y))) := by
  unfold De3
  rw [h.mo, h.mo, h.mo, h.mo, h.mo]
  grind
theorem Thr.d3 (h : Thr C x y z u v w) : 0 < De3 C := by
  rw [h.d3e]
  have := h.lt1
  have := h.lt2
  have k1 : 0 < y - x := by grind
  have k2 : 0 < z - x := by grind
  have k3 : 0 < z - y := by grind
  have k := Rat.mul_pos (Rat.mul_pos k1 k2) k3
  exact Rat.mul_pos (Rat.mul_pos (Rat.mul_pos h.u0 h.v0) h.w0) (Rat.mul_pos k k)
theorem One.tt0 (h : One C x w) : M66.tt0 C = x := by
  unfold M66.tt0
  have := h.w0
  rw [h.mo, h.mo]
  grind
theorem mul_zero' {a b : Rat} (h : a * b = 0) (ha : a ≠ 0) : b = 0 := by grind
theorem Two.p2 (h : Two C x y v w) : ee0 C = x * y ∧ ee1 C = -(x + y) := by
  have hd := h.d2
  have h2 : De2 C ≠ 0 := by grind
  have o0 := orth0 h2
  have o1 := orth1 h2
  rw [h.mo, h.mo, h.mo] at o0
  rw [h.mo, h.mo, h.mo] at o1
  have hlt := h.lt
  have hv := h.v0
  have hw := h.w0
  have hxy : y - x ≠ 0 := by grind
  have k1 : (w * (y - x)) * (y ^ 2 + ee1 C * y + ee0 C) = 0 := by grind
  have k2 : (v * (y - x)) * (x ^ 2 + ee1 C * x + ee0 C) = 0 := by grind
  have w1 : w * (y - x) ≠ 0 := by
    have := Rat.mul_pos hw (by grind : 0 < y - x)
    grind
  have w2 : v * (y - x) ≠ 0 := by
    have := Rat.mul_pos hv (by grind : 0 < y - x)
    grind
  have k1 := mul_zero' k1 w1
  have k2 := mul_zero' k2 w2
  have k3 : (y - x) * (ee1 C + (x + y)) = 0 := by grind
  have k3 := mul_zero' k3 hxy
  constructor <;> grind
theorem Two.hh2 (h : Two C x y v w) : M66.hh2 C = 0 := by
  unfold M66.hh2
  rw [h.d3]
  grind
end
/-! the third step -/
def tt2 (C : ICr) : Rat := (mo C 5 + 2 * ee1 C * mo C 4 + (ee1 C * ee1 C + 2 * ee0 C) * mo C 3 + 2 * ee0 C * ee1 C * mo C 2 + ee0 C * ee0 C * mo C 1) / hh2 C
section
variable {C : ICr} {m : Nat}
theorem trn3 (hm : 7 ≤ m) : trn (sumsC C m) (L3 C) = tt2 C := by
  show sqs (sumsC C m) (rai [ee0 C, ee1 C, 1] 1) [ee0 C, ee1 C, 1] / hh2 C = _
  rw [rai_eq (q := [0, ee0 C, ee1 C, 1]) (by simp) rfl, sqs_C (by have := mulP_len1 (f := [0, ee0 C, ee1 C, 1]) (g := [ee0 C, ee1 C, 1]) (by simp) (by simp); simp at this; omega)]
  rw [LC_pe C (a := 0) (b := ee0 C * ee0 C) (c := 2 * ee0 C * ee1 C) (d := ee1 C * ee1 C + 2 * ee0 C) (e := 2 * ee1 C) (f := 1) fun x => by rw [ev3, ev4]; grind]
  unfold tt2
  grind
theorem sz_tt2 (h : CrOk C) (h2 : De2 C ≠ 0) : Sz 2000 (tt2 C) := by
  have a0 := sz_ee0 h h2
  have a1 := sz_ee1 h h2
  have b1 := (ib1 h).sz (n := 9) (by decide)
  have b2 := (ib2 h).sz (n := 13) (by decide)
  have b3 := (ib3 h).sz (n := 17) (by decide)
  have b4 := (ib4 h).sz (n := 21) (by decide)
  have b5 := (mo_ib h (k := 5) (n := 26) (by decide)).sz (by decide)
  have two : Sz 2 (2 : Rat) := sz_int (i := 2) (by decide) (by decide)
  exact (((((b5.add ((two.mul a1).mul b4)).add (((a1.mul a1).add (two.mul a0)).mul b3)).add (((two.mul a0).mul a1).mul b2)).add ((a0.mul a0).mul b1)).div (sz_hh2 h h2)).mono (by decide)
/-- the third step's numbers, from the second's -/
theorem orth3 {s0 s1 s2 s3 s4 s5 t0 h1 h2 e0 e1 t2 r : Rat} (a0 : t0 * s0 = s1) (a1 : h1 = s2 - t0 * s1) (o0 : s2 + e1 * s1 + e0 * s0 = 0) (o1 : s3 + e1 * s2 + e0 * s1 = 0) (o2 : s4 + e1 * s3 + e0 * s2 = h2) (hr : r * h1 = h2)
    (ht : t2 * h2 = s5 + 2 * e1 * s4 + (e1 * e1 + 2 * e0) * s3 + 2 * e0 * e1 * s2 + e0 * e0 * s1) :
    s3 + (e1 - t2) * s2 + (e0 - t2 * e1 - r) * s1 + (-(t2 * e0) + r * t0) * s0 = 0 ∧ s4 + (e1 - t2) * s3 + (e0 - t2 * e1 - r) * s2 + (-(t2 * e0) + r * t0) * s1 = 0 ∧ s5 + (e1 - t2) * s4 + (e0 - t2 * e1 - r) * s3 + (-(t2 * e0) + r * t0) * s2 = 0 := by
  refine ⟨by grind, by grind, ?_⟩
  have k : t2 * h2 = s5 + e1 * s4 + e0 * s3 + e1 * h2 := by grind
  grind
end
section
variable {C : ICr} {x y z u v w : Rat}
def pp3 (x y z : Rat) : List Rat := [-(x * y * z), x * y + x * z + y * z, -(x + y + z), 1]
theorem Thr.nst3 (h : Thr C x y z u v w) : nstep (L3 C) (tt2 C) = pp3 x y z := by
  have hd := h.d2
  have hd3 := h.d3
  have h0 := h.m0
  have h2 : De2 C ≠ 0 := by grind
  have h0' : M66.mo C 0 ≠ 0 := by grind
  have k1 : tt0 C * M66.mo C 0 = M66.mo C 1 := by unfold tt0; grind
  have k2 : hh1 C = M66.mo C 2 - tt0 C * M66.mo C 1 := by
    have : hh1 C * M66.mo C 0 = De2 C := by unfold hh1; grind
    have hdd : De2 C = M66.mo C 0 * M66.mo C 2 - M66.mo C 1 * M66.mo C 1 := rfl
    have e : (hh1 C - (M66.mo C 2 - tt0 C * M66.mo C 1)) * M66.mo C 0 = 0 := by grind
    grind
  have p1 : 0 < hh1 C := div_pos' hd h0
  have p2 : 0 < hh2 C := div_pos' hd3 hd
  have kr : hh2 C / hh1 C * hh1 C = hh2 C := by grind
  have kt : tt2 C * hh2 C = M66.mo C 5 + 2 * ee1 C * M66.mo C 4 + (ee1 C * ee1 C + 2 * ee0 C) * M66.mo C 3 + 2 * ee0 C * ee1 C * M66.mo C 2 + ee0 C * ee0 C * M66.mo C 1 := by unfold tt2; grind
  have e := nstep3 (M66.mo C 0) (hh1 C) (hh2 C) (tt0 C) (ee0 C) (ee1 C) (tt2 C)
  rw [show nstep (L3 C) (tt2 C) = nstep [([1], M66.mo C 0), ([-tt0 C, 1], hh1 C), ([ee0 C, ee1 C, 1], hh2 C)] (tt2 C) from rfl, e]
  obtain ⟨q0, q1, q2⟩ := orth3 k1 k2 (orth0 h2) (orth1 h2) (orth2 h2) kr kt
  generalize -(tt2 C * ee0 C) + hh2 C / hh1 C * tt0 C = c0 at *
  generalize ee0 C - tt2 C * ee1 C - hh2 C / hh1 C = c1 at *
  generalize ee1 C - tt2 C = c2 at *
  rw [h.mo, h.mo, h.mo, h.mo] at q0
  rw [h.mo, h.mo, h.mo, h.mo] at q1
  rw [h.mo, h.mo, h.mo, h.mo] at q2
  have l1 := h.lt1
  have l2 := h.lt2
  have a1 : 0 < y - x := by grind
  have a2 : 0 < z - x := by grind
  have a3 : 0 < z - y := by grind
  have n1 : u * ((y - x) * (z - x)) ≠ 0 := by
    have := Rat.mul_pos h.u0 (Rat.mul_pos a1 a2)
    grind
  have n2 : v * ((y - x) * (z - y)) ≠ 0 := by
    have := Rat.mul_pos h.v0 (Rat.mul_pos a1 a3)
    grind
  have n3 : w * ((z - x) * (z - y)) ≠ 0 := by
    have := Rat.mul_pos h.w0 (Rat.mul_pos a2 a3)
    grind
  have y1 : (u * ((y - x) * (z - x))) * (x ^ 3 + c2 * x ^ 2 + c1 * x + c0) = 0 := by grind
  have y2 : (v * ((y - x) * (z - y))) * (y ^ 3 + c2 * y ^ 2 + c1 * y + c0) = 0 := by grind
  have y3 : (w * ((z - x) * (z - y))) * (z ^ 3 + c2 * z ^ 2 + c1 * z + c0) = 0 := by grind
  have y1 := mul_zero' y1 n1
  have y2 := mul_zero' y2 n2
  have y3 := mul_zero' y3 n3
  have d1 : (y - x) * (x * x + x * y + y * y + c2 * (x + y) + c1) = 0 := by grind
  have d1 := mul_zero' d1 (by grind)
  have d2 : (z - x) * (x * x + x * z + z * z + c2 * (x + z) + c1) = 0 := by grind
  have d2 := mul_zero' d2 (by grind)
  have d3 : (z - y) * (x + y + z + c2) = 0 := by grind
  have d3 := mul_zero' d3 (by grind)
  have e2 : c2 = -(x + y + z) := by grind
  have e1 : c1 = x * y + x * z + y * z := by grind
  have e0 : c0 = -(x * y * z) := by grind
  rw [e0, e1, e2]
  rfl
theorem Thr.LC (h : Thr C x y z u v w) (hC : ∃ x' y' z' u' v' w' : Int, C = [(x', u'), (y', v'), (z', w')] ∧ x = x' ∧ y = y' ∧ z = z' ∧ u = u' ∧ v = v' ∧ w = w') (φ : Rat → Rat) : M66.LC C φ = u * φ x + v * φ y + w * φ z := by
  obtain ⟨x', y', z', u', v', w', rfl, rfl, rfl, rfl, rfl, rfl, rfl⟩ := hC
  simp only [M66.LC]
  grind
theorem ev_pp3 (x y z a : Rat) : ev (pp3 x y z) a = (a - x) * (a - y) * (a - z) := by
  unfold pp3
  rw [ev4]
  grind
end
end M66
/-! The plain law, part 6: which steps there are. -/
namespace M66
def L4 (C : ICr) (x y z : Rat) : List Stp := [([1], mo C 0), ([-tt0 C, 1], hh1 C), ([ee0 C, ee1 C, 1], hh2 C), (pp3 x y z, 0)]
/-- a whole number from -6 to 18 -/
def Spt (x : Rat) : Prop := ∃ i : Int, x = (i : Rat) ∧ -6 ≤ i ∧ i ≤ 18
theorem Spt.ib {x : Rat} (h : Spt x) : IB 5 x := by
  obtain ⟨i, rfl, h1, h2⟩ := h
  exact IB.int (by omega)
theorem szl_pp3 {x y z : Rat} (hx : Spt x) (hy : Spt y) (hz : Spt z) : SzL 64 (pp3 x y z) := by
  have a := hx.ib
  have b := hy.ib
  have c := hz.ib
  refine szl_of4 ((((a.mul b).mul c).neg.sz (by decide)).mono (by decide)) (((((a.mul b).add (a.mul c)).add ((b.mul c).mono (by decide : 5 + 5 ≤ 5 + 5 + 1))).sz (by decide)).mono (by decide)) ((((a.add b).add (c.mono (by decide : 5 ≤ 5 + 1))).neg.sz (by decide)).mono (by decide)) (Sz.one (by decide))
/-- the crowd, its kind -/
inductive Kind (C : ICr) : Prop
  | one (x w : Rat) : One C x w → Spt x → Kind C
  | two (x y v w : Rat) : Two C x y v w → Spt x → Spt y → Kind C
  | thr (x y z u v w : Rat) : Thr C x y z u v w → Spt x → Spt y → Spt z → Kind C
section
variable {C : ICr} {m : Nat} {x y z u v w : Rat}
theorem sqs_pp3 (hC : Thr C x y z u v w) (hL : ∀ φ : Rat → Rat, LC C φ = u * φ x + v * φ y + w * φ z) (hm : 7 ≤ m) : sqs (sumsC C m) (pp3 x y z) (pp3 x y z) = 0 := by
  rw [sqs_C (by have := mulP_len1 (f := pp3 x y z) (g := pp3 x y z) (by simp [pp3]) (by simp [pp3]); simp [pp3] at this; have e : (pp3 x y z).length = 4 := rfl; unfold pp3; omega), hL, ev_pp3, ev_pp3, ev_pp3]
  grind
theorem go3 (h : CrOk C) (hC : Thr C x y z u v w) (hx : Spt x) (hy : Spt y) (hz : Spt z) (hL : ∀ φ : Rat → Rat, LC C φ = u * φ x + v * φ y + w * φ z) (hm7 : 7 ≤ m) (hm : m ≤ 11) {res : List Stp} {n : Nat} (r : Sts (sumsC C m) (L4 C x y z) res n) : Sts (sumsC C m) (L3 C) res (n + 1) := by
  have h0 := hC.m0
  have h2 := hC.d2
  have h3 := hC.d3
  have h0' : mo C 0 ≠ 0 := by grind
  have h2' : De2 C ≠ 0 := by grind
  have hp : 0 < hh2 C := div_pos' h3 h2
  have hp1 : 0 < hh1 C := div_pos' h2 h0
  refine sts_go (k := 2000) (p := pp3 x y z) (g := 0) (by decide) (by decide) (sts_len hm) (szl_sums h hm) (by simp [L3]) (szl_p2 h h2') (by show 3 ≤ 4; decide) rfl ((sz_hh2 h h2').mono (by decide)) hp (by rw [sumsC_length]; show 2 * 3 < m; omega) (by rw [trn3 hm7]; exact sz_tt2 h h2') (fun _ => ⟨(sz_hh1 h h0').mono (by decide), by show hh1 C ≠ 0; grind, szl_p1 h h0', by show 2 ≤ 5; decide⟩) (by rw [trn3 hm7]; exact hC.nst3) (szl_pp3 hx hy hz) rfl (sqs_pp3 hC hL hm7) r
theorem CrOk.kind {C : ICr} (h : CrOk C) : (∃ x w : Rat, One C x w ∧ Spt x ∧ ∀ φ : Rat → Rat, LC C φ = w * φ x) ∨ (∃ x y v w : Rat, Two C x y v w ∧ Spt x ∧ Spt y ∧ ∀ φ : Rat → Rat, LC C φ = v * φ x + w * φ y) ∨
    ∃ x y z u v w : Rat, Thr C x y z u v w ∧ Spt x ∧ Spt y ∧ Spt z ∧ ∀ φ : Rat → Rat, LC C φ = u * φ x + v * φ y + w * φ z := by
  have he := (cr_each h).2
  rcases h.cases with ⟨x, w, rfl, k⟩ | ⟨x, y, v, w, rfl, k⟩ | ⟨x, y, z, u, v, w, rfl, k⟩
  · refine .inl ⟨x, w, k, ?_, fun φ => ?_⟩
    · have := he (x, w) (by simp)
      exact ⟨x, rfl, this.1, this.2.1⟩
    · simp only [LC]
      grind
  · refine .inr (.inl ⟨x, y, v, w, k, ?_, ?_, fun φ => ?_⟩)
    · have := he (x, v) (by simp)
      exact ⟨x, rfl, this.1, this.2.1⟩
    · have := he (y, w) (by simp)
      exact ⟨y, rfl, this.1, this.2.1⟩
    · simp only [LC]
      grind
  · refine .inr (.inr ⟨x, y, z, u, v, w, k, ?_, ?_, ?_, fun φ => ?_⟩)
    · have := he (x, u) (by simp)
      exact ⟨x, rfl, this.1, this.2.1⟩
    · have := he (y, v) (by simp)
      exact ⟨y, rfl, this.1, this.2.1⟩
    · have := he (z, w) (by simp)
      exact ⟨z, rfl, this.1, this.2.1⟩
    · simp only [LC]
      grind
/-! which list of steps -/
theorem sts_o1 : StsOk (sumsC C 1) (L1 C) := stsOk_mk (by decide) (by decide) (stop_of (by simp [L1]) (.inr (by rw [sumsC_length]; show 1 ≤ 2 * 1; decide)))
theorem sts_o2 (h : CrOk C) (h0 : 0 < mo C 0) : StsOk (sumsC C 3) (L2 C) := stsOk_mk (by decide) (by decide) (go1 h h0 (by decide) (by decide) (stop_of (by simp [L2]) (.inr (by rw [sumsC_length]; show 3 ≤ 2 * 2; decide))))
theorem sts_o3 (h : CrOk C) (h0 : 0 < mo C 0) (h2 : 0 < De2 C) : StsOk (sumsC C 5) (L3 C) := stsOk_mk (by decide) (by decide) (go1 h h0 (by decide) (by decide) (go2 h h0 h2 (by decide) (by decide) (stop_of (by simp [L3]) (.inr (by rw [sumsC_length]; show 5 ≤ 2 * 3; decide)))))
theorem sts_t1 (h : CrOk C) (hC : One C x w) (hm3 : 3 ≤ m) (hm : m ≤ 11) : StsOk (sumsC C m) (L2 C) := stsOk_mk (by omega) hm (go1 h hC.m0 hm3 hm (stop_of (by simp [L2]) (.inl (by
  show ¬ 0 < hh1 C
  unfold hh1
  rw [hC.d2]
  grind))))
theorem sts_t2 (h : CrOk C) (hC : Two C x y v w) (hm5 : 5 ≤ m) (hm : m ≤ 11) : StsOk (sumsC C m) (L3 C) := stsOk_mk (by omega) hm (go1 h hC.m0 (by omega) hm (go2 h hC.m0 hC.d2 hm5 hm (stop_of (by simp [L3]) (.inl (by
  show ¬ 0 < hh2 C
  rw [hC.hh2]
  grind)))))
theorem sts_t3 (h : CrOk C) (hC : Thr C x y z u v w) (hx : Spt x) (hy : Spt y) (hz : Spt z) (hL : ∀ φ : Rat → Rat, LC C φ = u * φ x + v * φ y + w * φ z) (hm7 : 7 ≤ m) (hm : m ≤ 11) : StsOk (sumsC C m) (L4 C x y z) :=
  stsOk_mk (by omega) hm (go1 h hC.m0 (by omega) hm (go2 h hC.m0 hC.d2 (by omega) hm (go3 h hC hx hy hz hL hm7 hm (stop_of (by simp [L4]) (.inl (by show ¬ (0 : Rat) < 0; grind))))))
end
end M66
/-! The plain law, part 7: flocks. -/
namespace M66
theorem gaus2_0 (a b s c d t : Rat) : gaus [[a, b, s], [c, d, t]] 0 = [[a / a, b / a, s / a], [c - a / a * c, d - b / a * c, t - s / a * c]] := rfl
theorem gaus2_1 (a b s c d t : Rat) : gaus [[a, b, s], [c, d, t]] 1 = [[a - c / d * b, b - d / d * b, s - t / d * b], [c / d, d / d, t / d]] := rfl
theorem gaus3_0 (a b c s d e f t g i j r : Rat) : gaus [[a, b, c, s], [d, e, f, t], [g, i, j, r]] 0 = [[a / a, b / a, c / a, s / a], [d - a / a * d, e - b / a * d, f - c / a * d, t - s / a * d], [g - a / a * g, i - b / a * g, j - c / a * g, r - s / a * g]] := rfl
theorem gaus3_1 (a b c s d e f t g i j r : Rat) : gaus [[a, b, c, s], [d, e, f, t], [g, i, j, r]] 1 = [[a - d / e * b, b - e / e * b, c - f / e * b, s - t / e * b], [d / e, e / e, f / e, t / e], [g - d / e * i, i - e / e * i, j - f / e * i, r - t / e * i]] := rfl
theorem gaus3_2 (a b c s d e f t g i j r : Rat) : gaus [[a, b, c, s], [d, e, f, t], [g, i, j, r]] 2 = [[a - g / j * c, b - i / j * c, c - j / j * c, s - r / j * c], [d - g / j * f, e - i / j * f, f - j / j * f, t - r / j * f], [g / j, i / j, j / j, r / j]] := rfl
theorem rp2 (r0 : Rat) : rpL [r0, 1] 1 = [1, -r0] := by
  simp [rpL, rpHere, isum, cf]
  grind
theorem rp3 (r0 r1 : Rat) : rpL [r0, r1, 1] 3 = [2, -r1, r1 ^ 2 - 2 * r0, 3 * r0 * r1 - r1 ^ 3] := by
  simp [rpL, rpHere, isum, cf]
  grind
theorem rp4 (r0 r1 r2 : Rat) : rpL [r0, r1, r2, 1] 5 = [3, -r2, r2 ^ 2 - 2 * r1, -r2 ^ 3 + 3 * r1 * r2 - 3 * r0, r2 ^ 4 - 4 * r2 ^ 2 * r1 + 2 * r1 ^ 2 + 4 * r0 * r2, -r2 ^ 5 + 5 * r2 ^ 3 * r1 - 5 * r2 * r1 ^ 2 - 5 * r2 ^ 2 * r0 + 5 * r1 * r0] := by
  simp [rpL, rpHere, isum, cf]
  grind
/-! sizes of the power sums -/
theorem szl_cf {n : Nat} {f : List Rat} (h : SzL n f) (h0 : 0 < n) (i : Nat) : Sz n (cf f i) := szl_get h0 h i
theorem rpL_take (R : List Rat) : ∀ (n k : Nat), k ≤ n → rpL R k = (rpL R n).take (k + 1)
  | 0, k, h => by
    obtain rfl : k = 0 := by omega
    rfl
  | n + 1, k, h => by
    by_cases hk : k = n + 1
    · rw [hk, List.take_of_length_le (by rw [rpL_length]; exact Nat.le_refl _)]
    · rw [rpL_take R n k (by omega), rpL, List.take_append_of_le_length (by rw [rpL_length]; omega)]
/-- sizes of root_powers by the sizes of what it gives -/
theorem rpOk_of {R : List Rat} {n P many : Nat} (h1 : 64 ≤ n) (hnP : n ≤ P) (hP : P ≤ 1000000) (hl : 0 < R.length) (hl2 : R.length ≤ 4) (hR : SzL n R) (hm : many ≤ 6) (hp : SzL P (rpL R 5)) : RpOk R many := by
  have eB : BIG = 67000000 := rfl
  refine ⟨hR.sl (by omega), hl, by omega, fun k hk => ?_⟩
  have hk' : SzL P (rpL R k) := by
    rw [rpL_take R 5 k (by omega)]
    exact szl_take hp _
  have a2 : ∀ j, Sz (P + n) (cf R (R.length - 1 - (j + 1)) * cf (rpL R k) (k + 1 - (j + 1))) := fun j => ((szl_cf hR (by omega) _).mul (szl_cf hk' (by omega) _)).mono (by omega)
  have a1 : ∀ j, Sz (1 + j * (P + n + 1)) (isum R (rpL R k) (k + 1) j) := by
    intro j
    induction j with
    | zero => exact Sz.zero (by omega)
    | succ j ih =>
      rw [isum, Nat.add_mul]
      exact (ih.add (a2 j)).mono (by omega)
  have b1 : ∀ j, j ≤ 3 → Sz (1 + 3 * (P + n + 1)) (isum R (rpL R k) (k + 1) j) := fun j hj => (a1 j).mono (by
    have : j * (P + n + 1) ≤ 3 * (P + n + 1) := Nat.mul_le_mul_right _ hj
    omega)
  have a3 : k + 1 ≤ R.length - 1 → Sz (64 + n) (((k + 1 : Nat) : Rat) * cf R (R.length - 1 - (k + 1))) := fun hk3 => by
    refine Sz.mul ?_ (szl_cf hR (by omega) _)
    exact sz_int (i := ((k + 1 : Nat) : Int)) (by decide) (by rw [Int.natAbs_natCast]; omega)
  refine ⟨hk'.sl (by omega), fun j hj => (b1 j (by omega)).s (by omega), fun j hj => (a2 j).s (by omega), fun hk3 => (a3 hk3).s (by omega), ?_⟩
  unfold rpHere
  split
  · rename_i hk3
    exact ((b1 _ (by omega)).add (a3 hk3)).s (by omega)
  · exact (b1 _ (by omega)).s (by omega)
end M66
/-! The plain law, part 8: Gauss. -/
namespace M66
theorem rowAt_set {rows : List (List Rat)} {k : Nat} {r : List Rat} (i : Nat) : rowAt (rows.set k r) i = if i = k ∧ i < rows.length then r else rowAt rows i := by
  unfold rowAt
  rw [List.getD_eq_getElem?_getD, List.getD_eq_getElem?_getD]
  by_cases h : k = i
  · subst h
    by_cases hl : k < rows.length
    · rw [List.getElem?_set_self hl, if_pos ⟨rfl, hl⟩]
      rfl
    · rw [if_neg (by omega), List.getElem?_eq_none (by rw [List.length_set]; omega), List.getElem?_eq_none (by omega)]
  · rw [List.getElem?_set_ne h, if_neg (by omega)]
theorem elim_len (rows : List (List Rat)) (p k : Nat) : (elim rows p k).length = rows.length := by
  unfold elim
  split
  · rfl
  · rw [List.length_set]
theorem elimTo_len (rows : List (List Rat)) (p : Nat) : ∀ k, (elimTo rows p k).length = rows.length
  | 0 => rfl
  | k + 1 => by rw [elimTo, elim_len, elimTo_len rows p k]
theorem elimTo_at (rows : List (List Rat)) (p : Nat) : ∀ k i, rowAt (elimTo rows p k) i = if i < k ∧ i ≠ p ∧ i < rows.length then rowLess (rowAt rows i) (rowAt rows p) (cf (rowAt rows i) p) else rowAt rows i
  | 0, i => by rw [if_neg (by omega)]; rfl
  | k + 1, i => by
    have ih := elimTo_at rows p k
    rw [elimTo]
    unfold elim
    by_cases hk : k = p
    · rw [if_pos hk, ih i]
      by_cases hi : i < k ∧ i ≠ p ∧ i < rows.length
      · rw [if_pos hi, if_pos (by omega)]
      · rw [if_neg hi, if_neg (by omega)]
    · rw [if_neg hk, rowAt_set, elimTo_len]
      by_cases hi : i = k ∧ i < rows.length
      · rw [if_pos hi, if_pos (by omega)]
        obtain ⟨rfl, hl⟩ := hi
        rw [ih i, ih p, if_neg (by omega), if_neg (by omega)]
      · rw [if_neg hi, ih i]
        by_cases h2 : i < k ∧ i ≠ p ∧ i < rows.length
        · rw [if_pos h2, if_pos (by omega)]
        · rw [if_neg h2, if_neg (by omega)]
theorem gaus_at {rows : List (List Rat)} {p : Nat} (hp : p < rows.length) (i : Nat) (hi : i < rows.length) : rowAt (gaus rows p) i = if i = p then pivRow rows p else rowLess (rowAt rows i) (pivRow rows p) (cf (rowAt rows i) p) := by
  unfold gaus
  rw [elimTo_at, List.length_set, rowAt_set, rowAt_set]
  by_cases h : i = p
  · subst h
    rw [if_neg (by omega), if_pos ⟨rfl, hi⟩, if_pos rfl]
  · rw [if_pos ⟨hi, h, hi⟩, if_neg (by omega), if_pos ⟨rfl, hp⟩, if_neg h]
theorem szl_pivRow {rows : List (List Rat)} {p n : Nat} (h0 : 0 < n) (h : SzL n (rowAt rows p)) : SzL (2 * n) (pivRow rows p) := fun c hc => by
  unfold pivRow at hc
  obtain ⟨x, hx, rfl⟩ := List.mem_map.mp hc
  exact ((h x hx).div (szl_get h0 h p)).mono (by omega)
theorem szl_rowLess {r o : List Rat} {c : Rat} {n m k : Nat} (hr : SzL n r) (ho : SzL m o) (hc : Sz k c) : SzL (n + (m + k) + 1) (rowLess r o c) := fun d hd => by
  unfold rowLess at hd
  obtain ⟨z, hz, rfl⟩ := List.mem_map.mp hd
  exact (hr _ (List.of_mem_zip hz).1).sub ((ho _ (List.of_mem_zip hz).2).mul hc)
theorem rlOk_of {r o : List Rat} {c : Rat} {n : Nat} (hn : 2 * n ≤ BIG) (hr : SzL n r) (ho : SzL n o) (hc : Sz n c) (hl : r.length ≤ 1000) : RlOk r o c := ⟨hr.sl (by omega), ho.sl (by omega), hc.s (by omega), fun x hx => ((ho x hx).mul hc).s (by omega), hl⟩
theorem rowLess_length (r o : List Rat) (c : Rat) (h : r.length = o.length) : (rowLess r o c).length = r.length := by
  unfold rowLess
  rw [List.length_map, List.length_zip, h, Nat.min_self]
theorem pivRow_length (rows : List (List Rat)) (p : Nat) : (pivRow rows p).length = (rowAt rows p).length := List.length_map ..
/-- rows all of the length l, of numbers below 2^n -/
def RowsOk (rows : List (List Rat)) (l n : Nat) : Prop := ∀ i, i < rows.length → (rowAt rows i).length = l ∧ SzL n (rowAt rows i)
theorem RowsOk.gaus {rows : List (List Rat)} {l n p : Nat} (h : RowsOk rows l n) (h0 : 0 < n) (hp : p < rows.length) : RowsOk (gaus rows p) l (5 * n) := by
  intro i hi
  have hl : (M66.gaus rows p).length = rows.length := by
    unfold M66.gaus
    rw [elimTo_len, List.length_set]
  rw [hl] at hi
  rw [gaus_at hp i hi]
  obtain ⟨p1, p2⟩ := h p hp
  obtain ⟨i1, i2⟩ := h i hi
  split
  · exact ⟨by rw [pivRow_length, p1], fun c hc => (szl_pivRow h0 p2 c hc).mono (by omega)⟩
  · exact ⟨by rw [rowLess_length _ _ _ (by rw [pivRow_length, i1, p1]), i1], fun c hc => (szl_rowLess i2 (szl_pivRow h0 p2) (szl_get h0 i2 p) c hc).mono (by omega)⟩
theorem gausOk_of {rows : List (List Rat)} {l n p : Nat} (h : RowsOk rows l n) (h0 : 0 < n) (hn : 4 * n ≤ BIG) (hp : p < rows.length) (hpl : p < l) (hl : l ≤ 1000) (hz : cf (rowAt rows p) p ≠ 0) : GausOk rows p := by
  obtain ⟨p1, p2⟩ := h p hp
  refine ⟨by omega, by omega, hz, p2.sl (by omega), fun k _ hk => by rw [(h k hk).1]; exact hpl, fun k hk hkp => ?_⟩
  have e1 : rowAt (elimTo (rows.set p (pivRow rows p)) p k) k = rowAt rows k := by
    rw [elimTo_at, if_neg (by omega), rowAt_set, if_neg (by omega)]
  have e2 : rowAt (elimTo (rows.set p (pivRow rows p)) p k) p = pivRow rows p := by
    rw [elimTo_at, if_neg (by omega), rowAt_set, if_pos ⟨rfl, hp⟩]
  obtain ⟨k1, k2⟩ := h k hk
  rw [e1, e2]
  exact ⟨by omega, rlOk_of (n := 2 * n) (by omega) (fun c hc => (k2 c hc).mono (by omega)) (szl_pivRow h0 p2) ((szl_get h0 k2 p).mono (by omega)) (by omega)⟩
theorem gaus_len (rows : List (List Rat)) (p : Nat) : (gaus rows p).length = rows.length := by
  unfold gaus
  rw [elimTo_len, List.length_set]
theorem gausTo_len (rows : List (List Rat)) : ∀ p, (gausTo rows p).length = rows.length
  | 0 => rfl
  | p + 1 => by rw [gausTo, gaus_len, gausTo_len rows p]
theorem RowsOk.gausTo {rows : List (List Rat)} {l n : Nat} (h : RowsOk rows l n) (h0 : 0 < n) : ∀ p, p ≤ rows.length → RowsOk (gausTo rows p) l (5 ^ p * n)
  | 0, _ => by
    intro i hi
    exact ⟨(h i hi).1, fun c hc => ((h i hi).2 c hc).mono (by omega)⟩
  | p + 1, hp => by
    have ih := RowsOk.gausTo h h0 p (by omega)
    have := ih.gaus (p := p) (Nat.mul_pos (Nat.pow_pos (by decide)) h0) (by rw [gausTo_len]; omega)
    rw [Nat.pow_succ, Nat.mul_comm (5 ^ p) 5, Nat.mul_assoc]
    exact this
/-- the solver's sizes, from its pivots -/
theorem slvOk_of {rows : List (List Rat)} {l n : Nat} (h : RowsOk rows l n) (h0 : 0 < n) (hn : 500 * n ≤ BIG) (hr : rows.length ≤ 3) (hl : rows.length < l) (hl2 : l ≤ 10) (hz : ∀ p, p < rows.length → cf (rowAt (gausTo rows p) p) p ≠ 0) : SlvOk rows ∧ SzL (125 * n) (slv rows) := by
  have hpow : ∀ p, p ≤ 3 → 5 ^ p * n ≤ 125 * n := fun p hp => Nat.mul_le_mul_right _ (Nat.pow_le_pow_right (n := 5) (by decide) hp)
  have R := h.gausTo h0 rows.length (Nat.le_refl _)
  have each : ∀ r ∈ gausTo rows rows.length, r.length = l ∧ SzL (125 * n) r := fun r hr' => by
    obtain ⟨i, hi, rfl⟩ := List.getElem_of_mem hr'
    have e : (gausTo rows rows.length)[i] = rowAt (gausTo rows rows.length) i := by
      unfold rowAt
      rw [List.getD_eq_getElem?_getD, List.getElem?_eq_getElem hi]
      rfl
    rw [e]
    obtain ⟨k1, k2⟩ := R i hi
    exact ⟨k1, fun c hc => (k2 c hc).mono (hpow _ hr)⟩
  refine ⟨⟨by omega, fun p hp => ?_, fun r hr' => ?_⟩, fun c hc => ?_⟩
  · have Rp := h.gausTo h0 p (by omega)
    have := hpow p (by omega)
    exact gausOk_of Rp (Nat.mul_pos (Nat.pow_pos (by decide)) h0) (by omega) (by rw [gausTo_len]; exact hp) (by omega) (by omega) (hz p hp)
  · intro z
    have := (each r hr').1
    rw [z] at this
    simp at this
    omega
  · unfold slv at hc
    obtain ⟨r, hr', rfl⟩ := List.mem_map.mp hc
    exact sz_lst (by omega) (each r hr').2
end M66
/-! The plain law, part 9: flocks by roots of degree one, two, three. -/
namespace M66
theorem solve2 {a b s c d t : Rat} (ha : a ≠ 0) (hd : d - b / a * c ≠ 0) : ∃ y0 y1, slv [[a, b, s], [c, d, t]] = [y0, y1] ∧ a * y0 + b * y1 = s ∧ c * y0 + d * y1 = t := by
  refine ⟨s / a - (t - s / a * c) / (d - b / a * c) * (b / a), (t - s / a * c) / (d - b / a * c), rfl, ?_, ?_⟩
  · have h1 : b / a * a = b := by grind
    have h2 : s / a * a = s := by grind
    generalize b / a = b1 at *
    generalize s / a = s1 at *
    grind
  · have h1 : b / a * a = b := by grind
    have h2 : s / a * a = s := by grind
    have h3 : (t - s / a * c) / (d - b / a * c) * (d - b / a * c) = t - s / a * c := by grind
    generalize (t - s / a * c) / (d - b / a * c) = y at *
    generalize b / a = b1 at *
    generalize s / a = s1 at *
    grind
theorem solve3 {a b c s d e f t g i j r : Rat} (ha : a ≠ 0) (he : e - b / a * d ≠ 0) (hj : (j - c / a * g) - (f - c / a * d) / (e - b / a * d) * (i - b / a * g) ≠ 0) :
    ∃ y0 y1 y2, slv [[a, b, c, s], [d, e, f, t], [g, i, j, r]] = [y0, y1, y2] ∧ a * y0 + b * y1 + c * y2 = s ∧ d * y0 + e * y1 + f * y2 = t ∧ g * y0 + i * y1 + j * y2 = r := by
  have h1 : b / a * a = b := by grind
  have h2 : s / a * a = s := by grind
  have h3 : c / a * a = c := by grind
  have h4 : (f - c / a * d) / (e - b / a * d) * (e - b / a * d) = f - c / a * d := by grind
  have h5 : (t - s / a * d) / (e - b / a * d) * (e - b / a * d) = t - s / a * d := by grind
  refine ⟨(s / a - (t - s / a * d) / (e - b / a * d) * (b / a)) - ((r - s / a * g) - (t - s / a * d) / (e - b / a * d) * (i - b / a * g)) / ((j - c / a * g) - (f - c / a * d) / (e - b / a * d) * (i - b / a * g)) * (c / a - (f - c / a * d) / (e - b / a * d) * (b / a)),
    (t - s / a * d) / (e - b / a * d) - ((r - s / a * g) - (t - s / a * d) / (e - b / a * d) * (i - b / a * g)) / ((j - c / a * g) - (f - c / a * d) / (e - b / a * d) * (i - b / a * g)) * ((f - c / a * d) / (e - b / a * d)),
    ((r - s / a * g) - (t - s / a * d) / (e - b / a * d) * (i - b / a * g)) / ((j - c / a * g) - (f - c / a * d) / (e - b / a * d) * (i - b / a * g)), rfl, ?_⟩
  have h6 : ((r - s / a * g) - (t - s / a * d) / (e - b / a * d) * (i - b / a * g)) / ((j - c / a * g) - (f - c / a * d) / (e - b / a * d) * (i - b / a * g)) * ((j - c / a * g) - (f - c / a * d) / (e - b / a * d) * (i - b / a * g)) = (r - s / a * g) - (t - s / a * d) / (e - b / a * d) * (i - b / a * g) := by grind
  generalize ((r - s / a * g) - (t - s / a * d) / (e - b / a * d) * (i - b / a * g)) / ((j - c / a * g) - (f - c / a * d) / (e - b / a * d) * (i - b / a * g)) = y at *
  generalize (f - c / a * d) / (e - b / a * d) = f2 at *
  generalize (t - s / a * d) / (e - b / a * d) = t2 at *
  generalize b / a = b1 at *
  generalize s / a = s1 at *
  generalize c / a = c1 at *
  refine ⟨by grind, by grind, by grind⟩
/-! discriminants -/
def dc2 (r0 r1 : Rat) : Rat := r1 * r1 - 4 * r0
def dc3 (r0 r1 r2 : Rat) : Rat := r2 ^ 2 * r1 ^ 2 - 4 * r1 ^ 3 - 4 * r2 ^ 3 * r0 - 27 * r0 ^ 2 + 18 * r2 * r1 * r0
theorem sq0 (a : Rat) : 0 ≤ a * a := by
  rcases Rat.le_total (a := 0) (b := a) with h | h
  · exact Rat.mul_nonneg h h
  · have : 0 ≤ (-a) * (-a) := Rat.mul_nonneg (by grind) (by grind)
    grind
theorem dc2_pos {t0 c p : Rat} (h : 0 < p) : 0 < dc2 (t0 * c - p) (-(t0 + c)) := by
  have := sq0 (t0 - c)
  unfold dc2
  grind
/-- the numbers of (x - c) p2 - q p1 -/
theorem dc3_pos {t0 t1 c p q : Rat} (hp : 0 < p) (hq : 0 < q) : 0 < dc3 (-(c * (t0 * t1 - p)) + q * t0) ((t0 * t1 - p) - c * -(t0 + t1) - q) (-(t0 + t1) - c) ∧ 0 < (-(t0 + t1) - c) ^ 2 - 3 * ((t0 * t1 - p) - c * -(t0 + t1) - q) := by
  constructor
  · have e : dc3 (-(c * (t0 * t1 - p)) + q * t0) ((t0 * t1 - p) - c * -(t0 + t1) - q) (-(t0 + t1) - c) =
      ((t1 - t0) * ((c ^ 2 + q) - (t0 ^ 2 + p)) - (c - t0) * ((t1 ^ 2 + p + q) - (t0 ^ 2 + p))) * ((t1 - t0) * ((c ^ 2 + q) - (t0 ^ 2 + p)) - (c - t0) * ((t1 ^ 2 + p + q) - (t0 ^ 2 + p)))
      + 12 * (p * p * q) + 12 * (p * q * q) + 12 * (p * q * ((c - t0) * (c - t0)))
      + 2 * (p * (((t1 - t0) * (t0 + t1) - ((t1 ^ 2 + p + q) - (t0 ^ 2 + p))) * ((t1 - t0) * (t0 + t1) - ((t1 ^ 2 + p + q) - (t0 ^ 2 + p)))))
      + 2 * (p * (((c - t0) * (t0 + t1) - ((c ^ 2 + q) - (t0 ^ 2 + p))) * ((c - t0) * (t0 + t1) - ((c ^ 2 + q) - (t0 ^ 2 + p)))))
      + 2 * (p * (((c - t1) * (t0 + t1) - ((c ^ 2 + q) - (t1 ^ 2 + p + q))) * ((c - t1) * (t0 + t1) - ((c ^ 2 + q) - (t1 ^ 2 + p + q)))))
      + 2 * (q * (((t1 - t0) * (t1 + c) - ((t1 ^ 2 + p + q) - (t0 ^ 2 + p))) * ((t1 - t0) * (t1 + c) - ((t1 ^ 2 + p + q) - (t0 ^ 2 + p)))))
      + 2 * (q * (((c - t0) * (t1 + c) - ((c ^ 2 + q) - (t0 ^ 2 + p))) * ((c - t0) * (t1 + c) - ((c ^ 2 + q) - (t0 ^ 2 + p)))))
      + 2 * (q * (((c - t1) * (t1 + c) - ((c ^ 2 + q) - (t1 ^ 2 + p + q))) * ((c - t1) * (t1 + c) - ((c ^ 2 + q) - (t1 ^ 2 + p + q)))))
      + 2 * (p * q * ((t1 - t0) * (t1 - t0))) + 2 * (p * q * ((c - t0) * (c - t0))) + 2 * (p * q * ((c - t1) * (c - t1))) := by
      unfold dc3
      grind
    rw [e]
    have hpq := Rat.mul_pos hp hq
    have n := fun {a b : Rat} (h : 0 < a) => Rat.mul_nonneg (Rat.le_of_lt h) (sq0 b)
    have a0 := sq0 ((t1 - t0) * ((c ^ 2 + q) - (t0 ^ 2 + p)) - (c - t0) * ((t1 ^ 2 + p + q) - (t0 ^ 2 + p)))
    have a1 := Rat.mul_pos (Rat.mul_pos hp hp) hq
    have a2 := Rat.mul_pos hpq hq
    have a3 := n (b := c - t0) hpq
    have a4 := n (b := (t1 - t0) * (t0 + t1) - ((t1 ^ 2 + p + q) - (t0 ^ 2 + p))) hp
    have a5 := n (b := (c - t0) * (t0 + t1) - ((c ^ 2 + q) - (t0 ^ 2 + p))) hp
    have a6 := n (b := (c - t1) * (t0 + t1) - ((c ^ 2 + q) - (t1 ^ 2 + p + q))) hp
    have a7 := n (b := (t1 - t0) * (t1 + c) - ((t1 ^ 2 + p + q) - (t0 ^ 2 + p))) hq
    have a8 := n (b := (c - t0) * (t1 + c) - ((c ^ 2 + q) - (t0 ^ 2 + p))) hq
    have a9 := n (b := (c - t1) * (t1 + c) - ((c ^ 2 + q) - (t1 ^ 2 + p + q))) hq
    have b1 := n (b := t1 - t0) hpq
    have b2 := n (b := c - t1) hpq
    generalize ((t1 - t0) * ((c ^ 2 + q) - (t0 ^ 2 + p)) - (c - t0) * ((t1 ^ 2 + p + q) - (t0 ^ 2 + p))) * ((t1 - t0) * ((c ^ 2 + q) - (t0 ^ 2 + p)) - (c - t0) * ((t1 ^ 2 + p + q) - (t0 ^ 2 + p))) = z0 at *
    generalize p * (((t1 - t0) * (t0 + t1) - ((t1 ^ 2 + p + q) - (t0 ^ 2 + p))) * ((t1 - t0) * (t0 + t1) - ((t1 ^ 2 + p + q) - (t0 ^ 2 + p)))) = z1 at *
    generalize p * (((c - t0) * (t0 + t1) - ((c ^ 2 + q) - (t0 ^ 2 + p))) * ((c - t0) * (t0 + t1) - ((c ^ 2 + q) - (t0 ^ 2 + p)))) = z2 at *
    generalize p * (((c - t1) * (t0 + t1) - ((c ^ 2 + q) - (t1 ^ 2 + p + q))) * ((c - t1) * (t0 + t1) - ((c ^ 2 + q) - (t1 ^ 2 + p + q)))) = z3 at *
    generalize q * (((t1 - t0) * (t1 + c) - ((t1 ^ 2 + p + q) - (t0 ^ 2 + p))) * ((t1 - t0) * (t1 + c) - ((t1 ^ 2 + p + q) - (t0 ^ 2 + p)))) = z4 at *
    generalize q * (((c - t0) * (t1 + c) - ((c ^ 2 + q) - (t0 ^ 2 + p))) * ((c - t0) * (t1 + c) - ((c ^ 2 + q) - (t0 ^ 2 + p)))) = z5 at *
    generalize q * (((c - t1) * (t1 + c) - ((c ^ 2 + q) - (t1 ^ 2 + p + q))) * ((c - t1) * (t1 + c) - ((c ^ 2 + q) - (t1 ^ 2 + p + q)))) = z6 at *
    generalize p * q * ((t1 - t0) * (t1 - t0)) = z7 at *
    generalize p * q * ((c - t0) * (c - t0)) = z8 at *
    generalize p * q * ((c - t1) * (c - t1)) = z9 at *
    generalize p * p * q = y1 at *
    generalize p * q * q = y2 at *
    grind
  · have a1 := sq0 (t0 - t1)
    have a2 := sq0 (t0 - c)
    have a3 := sq0 (t1 - c)
    grind
end M66
/-! The plain law, part 10: flock_by_roots keeps its sizes and solves. -/
namespace M66
theorem sz_pow {n : Nat} {q : Rat} (h : Sz n q) : ∀ k, Sz (n * (k + 1)) (q ^ (k + 1))
  | 0 => by
    rw [Rat.pow_succ, Rat.pow_zero, Rat.one_mul]
    exact h.mono (by omega)
  | k + 1 => by
    rw [Rat.pow_succ]
    exact ((sz_pow h k).mul h).mono (by rw [Nat.mul_succ n (k + 1)]; omega)
theorem sz_num {i : Int} (h : i.natAbs ≤ 7) : Sz 3 (i : Rat) := sz_int (by decide) (by omega)
theorem sz2 : Sz 3 (2 : Rat) := sz_num (i := 2) (by decide)
theorem sz3 : Sz 3 (3 : Rat) := sz_num (i := 3) (by decide)
theorem sz4 : Sz 3 (4 : Rat) := sz_num (i := 4) (by decide)
theorem sz5 : Sz 3 (5 : Rat) := sz_num (i := 5) (by decide)
theorem szl_rp4 {n : Nat} {r0 r1 r2 : Rat} (hn : 64 ≤ n) (h0 : Sz n r0) (h1 : Sz n r1) (h2 : Sz n r2) : SzL (20 * n) (rpL [r0, r1, r2, 1] 5) := by
  have p2 := sz_pow h2 1
  have p3 := sz_pow h2 2
  have p4 := sz_pow h2 3
  have p5 := sz_pow h2 4
  have q2 := sz_pow h1 1
  rw [rp4]
  intro c hc
  simp at hc
  rcases hc with rfl | rfl | rfl | rfl | rfl | rfl
  · exact sz3.mono (by omega)
  · exact h2.neg.mono (by omega)
  · exact (p2.sub (sz2.mul h1)).mono (by omega)
  · exact ((p3.neg.add ((sz3.mul h1).mul h2)).sub (sz3.mul h0)).mono (by omega)
  · exact (((p4.sub ((sz4.mul p2).mul h1)).add (sz2.mul q2)).add ((sz4.mul h0).mul h2)).mono (by omega)
  · exact ((((p5.neg.add ((sz5.mul p3).mul h1)).sub ((sz5.mul h2).mul q2)).sub ((sz5.mul p2).mul h0)).add ((sz5.mul h1).mul h0)).mono (by omega)
theorem rows_of {rows : List (List Rat)} {l n : Nat} (h : ∀ r ∈ rows, r.length = l ∧ SzL n r) : RowsOk rows l n := fun i hi => by
  have e : rowAt rows i = rows[i] := by
    unfold rowAt
    rw [List.getD_eq_getElem?_getD, List.getElem?_eq_getElem hi]
    rfl
  rw [e]
  exact h _ (List.getElem_mem hi)
theorem fbrRows3 (sums : List Rat) (r0 r1 r2 : Rat) : fbrRows sums [r0, r1, r2, 1] = [[3, -r2, r2 ^ 2 - 2 * r1, cf sums 0], [-r2, r2 ^ 2 - 2 * r1, -r2 ^ 3 + 3 * r1 * r2 - 3 * r0, cf sums 1], [r2 ^ 2 - 2 * r1, -r2 ^ 3 + 3 * r1 * r2 - 3 * r0, r2 ^ 4 - 4 * r2 ^ 2 * r1 + 2 * r1 ^ 2 + 4 * r0 * r2, cf sums 2]] := by
  unfold fbrRows
  rw [show [r0, r1, r2, 1].length - 1 = 3 from rfl, show 2 * 3 - 1 = 5 from rfl, rp4]
  rfl
/-- degree three -/
theorem fbr3_ok {sums : List Rat} {r0 r1 r2 : Rat} {n : Nat} (hn : 64 ≤ n) (hn2 : n ≤ 5000) (h0 : Sz n r0) (h1 : Sz n r1) (h2 : Sz n r2) (hd : 0 < dc3 r0 r1 r2) (he : 0 < r2 ^ 2 - 3 * r1) (hs : 3 ≤ sums.length) (hss : SzL 64 sums) :
    FbrOk sums [r0, r1, r2, 1] ∧ ∃ y0 y1 y2, slv (fbrRows sums [r0, r1, r2, 1]) = [y0, y1, y2] ∧ 3 * y0 + -r2 * y1 + (r2 ^ 2 - 2 * r1) * y2 = cf sums 0 ∧ -r2 * y0 + (r2 ^ 2 - 2 * r1) * y1 + (-r2 ^ 3 + 3 * r1 * r2 - 3 * r0) * y2 = cf sums 1 ∧
      (r2 ^ 2 - 2 * r1) * y0 + (-r2 ^ 3 + 3 * r1 * r2 - 3 * r0) * y1 + (r2 ^ 4 - 4 * r2 ^ 2 * r1 + 2 * r1 ^ 2 + 4 * r0 * r2) * y2 = cf sums 2 ∧ SzL (2500 * n) [y0, y1, y2] := by
  have eB : BIG = 67000000 := rfl
  have hrp := szl_rp4 hn h0 h1 h2
  have hR : SzL n [r0, r1, r2, 1] := szl_of4 h0 h1 h2 (Sz.one (by omega))
  have hrp' := hrp
  rw [rp4] at hrp'
  have q0 : Sz (20 * n) (3 : Rat) := hrp' _ (by simp)
  have q1 : Sz (20 * n) (-r2) := hrp' _ (by simp)
  have q2 : Sz (20 * n) (r2 ^ 2 - 2 * r1) := hrp' _ (by simp)
  have q3 : Sz (20 * n) (-r2 ^ 3 + 3 * r1 * r2 - 3 * r0) := hrp' _ (by simp)
  have q4 : Sz (20 * n) (r2 ^ 4 - 4 * r2 ^ 2 * r1 + 2 * r1 ^ 2 + 4 * r0 * r2) := hrp' _ (by simp)
  have qs : ∀ k, Sz (20 * n) (cf sums k) := fun k => (szl_get (by decide) hss k).mono (by omega)
  have hrows : RowsOk (fbrRows sums [r0, r1, r2, 1]) 4 (20 * n) := by
    rw [fbrRows3]
    refine rows_of fun r hr => ?_
    simp at hr
    rcases hr with rfl | rfl | rfl
    · exact ⟨rfl, szl_of4 q0 q1 q2 (qs 0)⟩
    · exact ⟨rfl, szl_of4 q1 q2 q3 (qs 1)⟩
    · exact ⟨rfl, szl_of4 q2 q3 q4 (qs 2)⟩
  have e3 : (3 : Rat) ≠ 0 := by decide
  have ee : (r2 ^ 2 - 2 * r1) - -r2 / 3 * -r2 ≠ 0 := by grind
  have ej : (r2 ^ 4 - 4 * r2 ^ 2 * r1 + 2 * r1 ^ 2 + 4 * r0 * r2) - (r2 ^ 2 - 2 * r1) / 3 * (r2 ^ 2 - 2 * r1) - ((-r2 ^ 3 + 3 * r1 * r2 - 3 * r0) - (r2 ^ 2 - 2 * r1) / 3 * -r2) / ((r2 ^ 2 - 2 * r1) - -r2 / 3 * -r2) * ((-r2 ^ 3 + 3 * r1 * r2 - 3 * r0) - -r2 / 3 * (r2 ^ 2 - 2 * r1)) ≠ 0 := by
    intro z
    have hx : ((-r2 ^ 3 + 3 * r1 * r2 - 3 * r0) - (r2 ^ 2 - 2 * r1) / 3 * -r2) / ((r2 ^ 2 - 2 * r1) - -r2 / 3 * -r2) * ((r2 ^ 2 - 2 * r1) - -r2 / 3 * -r2) = (-r2 ^ 3 + 3 * r1 * r2 - 3 * r0) - (r2 ^ 2 - 2 * r1) / 3 * -r2 := by grind
    generalize ((-r2 ^ 3 + 3 * r1 * r2 - 3 * r0) - (r2 ^ 2 - 2 * r1) / 3 * -r2) / ((r2 ^ 2 - 2 * r1) - -r2 / 3 * -r2) = y at *
    unfold dc3 at hd
    have : r2 ^ 2 * r1 ^ 2 - 4 * r1 ^ 3 - 4 * r2 ^ 3 * r0 - 27 * r0 ^ 2 + 18 * r2 * r1 * r0 = 0 := by grind
    grind
  have S := slvOk_of hrows (by omega) (by omega) (by rw [fbrRows3]; show 3 ≤ 3; decide) (by rw [fbrRows3]; show 3 < 4; decide) (by decide) (fun p hp => by
    rw [fbrRows3] at hp ⊢
    match p, hp with
    | 0, _ => exact e3
    | 1, _ => exact ee
    | 2, _ => exact ej
    | p + 3, hp => exact absurd hp (by simp))
  obtain ⟨y0, y1, y2, ey, k0, k1, k2⟩ := solve3 (s := cf sums 0) (t := cf sums 1) (r := cf sums 2) e3 ee ej
  rw [← fbrRows3] at ey
  refine ⟨⟨by show 1 < 4; decide, by show 4 ≤ 20; decide, rpOk_of (P := 20 * n) hn (by omega) (by omega) (by show 0 < 4; decide) (by show 4 ≤ 4; decide) hR (by show 2 * 3 ≤ 6; decide) hrp, hs, S.1⟩, y0, y1, y2, ey, k0, k1, k2, ?_⟩
  have := S.2
  rw [ey] at this
  intro c hc
  exact (this c hc).mono (by omega)
theorem szl_rp3 {n : Nat} {r0 r1 : Rat} (hn : 64 ≤ n) (h0 : Sz n r0) (h1 : Sz n r1) : SzL (20 * n) (rpL [r0, r1, 1] 5) := by
  have p2 := sz_pow h1 1
  have p3 := sz_pow h1 2
  have p4 := sz_pow h1 3
  have p5 := sz_pow h1 4
  have q2 := sz_pow h0 1
  have e : rpL [r0, r1, 1] 5 = [2, -r1, r1 ^ 2 - 2 * r0, 3 * r0 * r1 - r1 ^ 3, r1 ^ 4 - 4 * r1 ^ 2 * r0 + 2 * r0 ^ 2, -r1 ^ 5 + 5 * r1 ^ 3 * r0 - 5 * r1 * r0 ^ 2] := by
    simp [rpL, rpHere, isum, cf]
    grind
  rw [e]
  intro c hc
  simp at hc
  rcases hc with rfl | rfl | rfl | rfl | rfl | rfl
  · exact sz2.mono (by omega)
  · exact h1.neg.mono (by omega)
  · exact (p2.sub (sz2.mul h0)).mono (by omega)
  · exact (((sz3.mul h0).mul h1).sub p3).mono (by omega)
  · exact ((p4.sub ((sz4.mul p2).mul h0)).add (sz2.mul q2)).mono (by omega)
  · exact ((p5.neg.add ((sz5.mul p3).mul h0)).sub ((sz5.mul h1).mul q2)).mono (by omega)
theorem fbrRows2 (sums : List Rat) (r0 r1 : Rat) : fbrRows sums [r0, r1, 1] = [[2, -r1, cf sums 0], [-r1, r1 ^ 2 - 2 * r0, cf sums 1]] := by
  unfold fbrRows
  rw [show [r0, r1, 1].length - 1 = 2 from rfl, show 2 * 2 - 1 = 3 from rfl, rp3]
  rfl
/-- degree two -/
theorem fbr2_ok {sums : List Rat} {r0 r1 : Rat} {n : Nat} (hn : 64 ≤ n) (hn2 : n ≤ 5000) (h0 : Sz n r0) (h1 : Sz n r1) (hd : 0 < dc2 r0 r1) (hs : 2 ≤ sums.length) (hss : SzL 64 sums) :
    FbrOk sums [r0, r1, 1] ∧ ∃ y0 y1, slv (fbrRows sums [r0, r1, 1]) = [y0, y1] ∧ 2 * y0 + -r1 * y1 = cf sums 0 ∧ -r1 * y0 + (r1 ^ 2 - 2 * r0) * y1 = cf sums 1 ∧ SzL (2500 * n) [y0, y1] := by
  have eB : BIG = 67000000 := rfl
  have hrp := szl_rp3 hn h0 h1
  have hR : SzL n [r0, r1, 1] := szl_of3 h0 h1 (Sz.one (by omega))
  have hrp' : SzL (20 * n) (rpL [r0, r1, 1] 3) := by
    rw [rpL_take _ 5 3 (by decide)]
    exact szl_take hrp _
  rw [rp3] at hrp'
  have q0 : Sz (20 * n) (2 : Rat) := hrp' _ (by simp)
  have q1 : Sz (20 * n) (-r1) := hrp' _ (by simp)
  have q2 : Sz (20 * n) (r1 ^ 2 - 2 * r0) := hrp' _ (by simp)
  have qs : ∀ k, Sz (20 * n) (cf sums k) := fun k => (szl_get (by decide) hss k).mono (by omega)
  have hrows : RowsOk (fbrRows sums [r0, r1, 1]) 3 (20 * n) := by
    rw [fbrRows2]
    refine rows_of fun r hr => ?_
    simp at hr
    rcases hr with rfl | rfl
    · exact ⟨rfl, szl_of3 q0 q1 (qs 0)⟩
    · exact ⟨rfl, szl_of3 q1 q2 (qs 1)⟩
  have e2 : (2 : Rat) ≠ 0 := by decide
  have ee : (r1 ^ 2 - 2 * r0) - -r1 / 2 * -r1 ≠ 0 := by
    unfold dc2 at hd
    grind
  have S := slvOk_of hrows (by omega) (by omega) (by rw [fbrRows2]; show 2 ≤ 3; decide) (by rw [fbrRows2]; show 2 < 3; decide) (by decide) (fun p hp => by
    rw [fbrRows2] at hp ⊢
    match p, hp with
    | 0, _ => exact e2
    | 1, _ => exact ee
    | p + 2, hp => exact absurd hp (by simp))
  obtain ⟨y0, y1, ey, k0, k1⟩ := solve2 (s := cf sums 0) (t := cf sums 1) e2 ee
  rw [← fbrRows2] at ey
  refine ⟨⟨by show 1 < 3; decide, by show 3 ≤ 20; decide, rpOk_of (P := 20 * n) hn (by omega) (by omega) (by show 0 < 3; decide) (by show 3 ≤ 4; decide) hR (by show 2 * 2 ≤ 6; decide) hrp, hs, S.1⟩, y0, y1, ey, k0, k1, ?_⟩
  have := S.2
  rw [ey] at this
  intro c hc
  exact (this c hc).mono (by omega)
theorem szl_rp2 {n : Nat} {r0 : Rat} (hn : 64 ≤ n) (h0 : Sz n r0) : SzL (20 * n) (rpL [r0, 1] 5) := by
  have p2 := sz_pow h0 1
  have p3 := sz_pow h0 2
  have p4 := sz_pow h0 3
  have p5 := sz_pow h0 4
  have e : rpL [r0, 1] 5 = [1, -r0, r0 ^ 2, -r0 ^ 3, r0 ^ 4, -r0 ^ 5] := by
    simp [rpL, rpHere, isum, cf]
    grind
  rw [e]
  intro c hc
  simp at hc
  rcases hc with rfl | rfl | rfl | rfl | rfl | rfl
  · exact Sz.one (by omega)
  · exact h0.neg.mono (by omega)
  · exact p2.mono (by omega)
  · exact p3.neg.mono (by omega)
  · exact p4.mono (by omega)
  · exact p5.neg.mono (by omega)
theorem fbrRows1 (sums : List Rat) (r0 : Rat) : fbrRows sums [r0, 1] = [[1, cf sums 0]] := by
  unfold fbrRows
  rw [show [r0, 1].length - 1 = 1 from rfl, show 2 * 1 - 1 = 1 from rfl, rp2]
  rfl
/-- degree one -/
theorem fbr1_ok {sums : List Rat} {r0 : Rat} {n : Nat} (hn : 64 ≤ n) (hn2 : n ≤ 5000) (h0 : Sz n r0) (hs : 1 ≤ sums.length) (hss : SzL 64 sums) :
    FbrOk sums [r0, 1] ∧ slv (fbrRows sums [r0, 1]) = [cf sums 0] := by
  have eB : BIG = 67000000 := rfl
  have hrp := szl_rp2 hn h0
  have hR : SzL n [r0, 1] := szl_of2 h0 (Sz.one (by omega))
  have qs : ∀ k, Sz n (cf sums k) := fun k => (szl_get (by decide) hss k).mono (by omega)
  have hrows : RowsOk (fbrRows sums [r0, 1]) 2 n := by
    rw [fbrRows1]
    refine rows_of fun r hr => ?_
    simp at hr
    subst hr
    exact ⟨rfl, szl_of2 (Sz.one (by omega)) (qs 0)⟩
  have e1 : (1 : Rat) ≠ 0 := by decide
  have S := slvOk_of hrows (by omega) (by omega) (by rw [fbrRows1]; show 1 ≤ 3; decide) (by rw [fbrRows1]; show 1 < 2; decide) (by decide) (fun p hp => by
    rw [fbrRows1] at hp ⊢
    match p, hp with
    | 0, _ => exact e1
    | p + 1, hp => exact absurd hp (by simp))
  refine ⟨⟨by show 1 < 2; decide, by show 2 ≤ 20; decide, rpOk_of (P := 20 * n) hn (by omega) (by omega) (by show 0 < 2; decide) (by show 2 ≤ 4; decide) hR (by show 2 * 1 ≤ 6; decide) hrp, hs, S.1⟩, ?_⟩
  rw [fbrRows1]
  show [cf sums 0 / 1] = _
  congr 1
  grind
end M66
/-! The plain law, part 11: back tells a flock. -/
namespace M66
theorem sqOk_pwr {n k : Nat} {sums f : List Rat} (h1 : 64 ≤ n) (hn : n ≤ 10000) (hf0 : f ≠ []) (lf : f.length ≤ 5) (hl : f.length + k ≤ sums.length) (hs : sums.length ≤ 11) (hf : SzL n f) (hss : SzL n sums) : SqOk sums f (pwr k) := by
  have eB : BIG = 67000000 := rfl
  have lp : (pwr k).length = k + 1 := by unfold pwr; rw [List.length_append, List.length_replicate]; rfl
  have hp : SzL n (pwr k) := fun c hc => by
    unfold pwr at hc
    rcases List.mem_append.mp hc with hc | hc
    · rw [List.eq_of_mem_replicate hc]
      exact Sz.zero (by omega)
    · simp at hc
      subst hc
      exact Sz.one (by omega)
  have hml := mulP_len1 hf0 (show pwr k ≠ [] by unfold pwr; simp)
  have hmul : (pwr k).length * (n + n + 1) ≤ 12 * (n + n + 1) := Nat.mul_le_mul_right _ (by omega)
  have hm : SzL (1 + 12 * (2 * n + 1)) (mulP f (pwr k)) := fun c hc => (szl_mulP (by omega) (by omega) hf hp c hc).mono (by omega)
  have := worOk_of (by omega) (by omega) (by omega) hs hm hss (by omega)
  exact ⟨mulOk (n := n) (m := n) (by omega) (by omega) (by omega) hf hp (by omega), this.1⟩
section
variable {C : ICr} {m : Nat} {x y z u v w : Rat}
theorem bar_none {f : List Rat} {n : Nat} (h : CrOk C) (hm : m ≤ 11) (h1 : 64 ≤ n) (hn : n ≤ 10000) (hf0 : f ≠ []) (lf : f.length ≤ 5) (hf : SzL n f) (hz : ∀ φ : Rat → Rat, LC C (fun t => ev f t * φ t) = 0) : Bar (sumsC C m) f none := .none fun k hk => by
  have hss : SzL n (sumsC C m) := fun c hc => (szl_sums h hm c hc).mono h1
  have hml := mulP_len1 hf0 (show pwr k ≠ [] by unfold pwr; simp)
  have lp : (pwr k).length = k + 1 := by unfold pwr; rw [List.length_append, List.length_replicate]; rfl
  refine ⟨sqOk_pwr h1 hn hf0 lf hk (by rw [sumsC_length]; exact hm) hf hss, ?_⟩
  rw [sumsC_length] at hk
  rw [sqs_C (by omega)]
  exact hz _
theorem pq2 (h0 : mo C 0 ≠ 0) (h2 : De2 C ≠ 0) : ee0 C = tt0 C * tt1 C - hh1 C / mo C 0 ∧ ee1 C = -(tt0 C + tt1 C) := by
  have a := nst2 h0 h2
  have b := nstep2 (mo C 0) (hh1 C) (tt0 C) (tt1 C)
  rw [show nstep (L2 C) (tt1 C) = nstep [([1], mo C 0), ([-tt0 C, 1], hh1 C)] (tt1 C) from rfl, b] at a
  injection a with a1 a2
  injection a2 with a2 _
  exact ⟨a1.symm, a2.symm⟩
theorem nst_L1 (t : Rat) : nstep (L1 C) t = [-t, 1] := nstep1 _ _
theorem nst_L2 (t : Rat) : nstep (L2 C) t = [tt0 C * t - hh1 C / mo C 0, -(tt0 C + t), 1] := nstep2 _ _ _ _
theorem nst_L3 (t : Rat) : nstep (L3 C) t = [-(t * ee0 C) + hh2 C / hh1 C * tt0 C, ee0 C - t * ee1 C - hh2 C / hh1 C, ee1 C - t, 1] := nstep3 _ _ _ _ _ _ _
/-- next_step in the open cases, its sizes -/
theorem nok1 (h : CrOk C) {t : Rat} {n : Nat} (hn : 64 ≤ n) (hn2 : n ≤ 100000) (ht : Sz n t) : NstOk (L1 C) t := (nstOk_of hn hn2 (by simp [L1]) (szl_one (by omega)) (by show 1 ≤ 5; decide) ht (((ib0 h).sz (by decide)).mono (by omega)) (fun z => absurd z (by simp [L1]))).1
theorem nok2 (h : CrOk C) (h0 : mo C 0 ≠ 0) {t : Rat} {n : Nat} (hn : 64 ≤ n) (hn2 : n ≤ 100000) (ht : Sz n t) : NstOk (L2 C) t ∧ SzL (10 * n) (nstep (L2 C) t) := nstOk_of hn hn2 (by simp [L2]) (fun c hc => (szl_p1 h h0 c hc).mono hn) (by show 2 ≤ 5; decide) ht ((sz_hh1 h h0).mono (by omega)) (fun _ => ⟨((ib0 h).sz (by decide)).mono (by omega), h0, szl_one (by omega), by show 1 ≤ 5; decide⟩)
theorem nok3 (h : CrOk C) (h0 : mo C 0 ≠ 0) (h2 : De2 C ≠ 0) (hp : hh1 C ≠ 0) {t : Rat} {n : Nat} (hn : 64 ≤ n) (hn2 : n ≤ 100000) (ht : Sz n t) : NstOk (L3 C) t ∧ SzL (10 * n) (nstep (L3 C) t) := nstOk_of hn hn2 (by simp [L3]) (fun c hc => (szl_p2 h h2 c hc).mono hn) (by show 3 ≤ 5; decide) ht ((sz_hh2 h h2).mono (by omega)) (fun _ => ⟨(sz_hh1 h h0).mono (by omega), hp, fun c hc => (szl_p1 h h0 c hc).mono hn, by show 2 ≤ 5; decide⟩)
theorem sz0 : Sz 64 (0 : Rat) := Sz.zero (by decide)
/-- the discriminant of a next step -/
theorem dcL2 (h0 : 0 < mo C 0) (h2 : 0 < De2 C) (t : Rat) : 0 < dc2 (tt0 C * t - hh1 C / mo C 0) (-(tt0 C + t)) := dc2_pos (div_pos' (div_pos' h2 h0) h0)
theorem dcL3 (h0 : 0 < mo C 0) (h2 : 0 < De2 C) (h3 : 0 < De3 C) (t : Rat) : 0 < dc3 (-(t * ee0 C) + hh2 C / hh1 C * tt0 C) (ee0 C - t * ee1 C - hh2 C / hh1 C) (ee1 C - t) ∧ 0 < (ee1 C - t) ^ 2 - 3 * (ee0 C - t * ee1 C - hh2 C / hh1 C) := by
  have hp : 0 < hh1 C := div_pos' h2 h0
  have hq : 0 < hh2 C := div_pos' h3 h2
  obtain ⟨e0, e1⟩ := pq2 (C := C) (by grind) (by grind)
  have := dc3_pos (t0 := tt0 C) (t1 := tt1 C) (c := t) (p := hh1 C / mo C 0) (q := hh2 C / hh1 C) (div_pos' hp h0) (div_pos' hq hp)
  rw [← e0, ← e1] at this
  exact this
theorem back_o1 (h : CrOk C) (h0 : 0 < mo C 0) : ∃ f, Back (sumsC C 1) (.flock f) := by
  have N := nok1 h (n := 64) (by decide) (by decide) sz0
  have F := (fbr1_ok (sums := sumsC C 1) (r0 := -0) (n := 64) (by decide) (by decide) (Sz.neg sz0) (by rw [sumsC_length]; decide) (szl_sums h (by decide))).1
  exact ⟨_, .opn (some := L1 C) sts_o1 h0 (by rw [sumsC_length]) N (by rw [nst_L1]; exact F)⟩
theorem back_o2 (h : CrOk C) (h0 : 0 < mo C 0) (h2 : 0 < De2 C) : ∃ f, Back (sumsC C 3) (.flock f) := by
  have h0' : mo C 0 ≠ 0 := by grind
  obtain ⟨N, S⟩ := nok2 h h0' (n := 64) (by decide) (by decide) sz0
  rw [nst_L2] at S
  have F := (fbr2_ok (sums := sumsC C 3) (n := 640) (by decide) (by decide) (S _ (by simp)) (S _ (by simp)) (dcL2 h0 h2 0) (by rw [sumsC_length]; decide) (szl_sums h (by decide))).1
  exact ⟨_, .opn (some := L2 C) (sts_o2 h h0) (div_pos' h2 h0) (by rw [sumsC_length]) N (by rw [nst_L2]; exact F)⟩
theorem back_o3 (h : CrOk C) (h0 : 0 < mo C 0) (h2 : 0 < De2 C) (h3 : 0 < De3 C) : ∃ f, Back (sumsC C 5) (.flock f) := by
  have h0' : mo C 0 ≠ 0 := by grind
  have h2' : De2 C ≠ 0 := by grind
  have hp : 0 < hh1 C := div_pos' h2 h0
  obtain ⟨N, S⟩ := nok3 h h0' h2' (by grind) (n := 64) (by decide) (by decide) sz0
  rw [nst_L3] at S
  obtain ⟨d1, d2⟩ := dcL3 h0 h2 h3 0
  have F := (fbr3_ok (sums := sumsC C 5) (n := 640) (by decide) (by decide) (S _ (by simp)) (S _ (by simp)) (S _ (by simp)) d1 d2 (by rw [sumsC_length]; decide) (szl_sums h (by decide))).1
  exact ⟨_, .opn (some := L3 C) (sts_o3 h h0 h2) (div_pos' h3 h2) (by rw [sumsC_length]) N (by rw [nst_L3]; exact F)⟩
theorem back_t1 (h : CrOk C) (hC : One C x w) (hL : ∀ φ : Rat → Rat, LC C φ = w * φ x) (hm3 : 3 ≤ m) (hm : m ≤ 11) : Back (sumsC C m) (.flock (fbr (sumsC C m) [-x, 1])) := by
  have h0' : mo C 0 ≠ 0 := by have := hC.m0; grind
  have hp := szl_p1 h h0'
  have F := (fbr1_ok (sums := sumsC C m) (n := 64) (by decide) (by decide) (hp (-tt0 C) (by simp)) (by rw [sumsC_length]; omega) (szl_sums h hm)).1
  have e : tt0 C = x := hC.tt0
  have hz : hh1 C = 0 := by unfold hh1; rw [hC.d2]; grind
  have B := bar_none (f := [-tt0 C, 1]) (n := 64) h hm (by decide) (by decide) (by simp) (by simp) hp (fun φ => by rw [hL, ev2, e]; grind)
  have := Back.tight (some := L2 C) (sts_t1 h hC hm3 hm) hz (by rw [sumsC_length]; show 2 ≤ m; omega) B F
  rw [show (lastS (L2 C)).1 = [-tt0 C, 1] from rfl, e] at this
  exact this
theorem back_t2 (h : CrOk C) (hC : Two C x y v w) (hL : ∀ φ : Rat → Rat, LC C φ = v * φ x + w * φ y) (hm5 : 5 ≤ m) (hm : m ≤ 11) : Back (sumsC C m) (.flock (fbr (sumsC C m) [x * y, -(x + y), 1])) := by
  have h2' : De2 C ≠ 0 := by have := hC.d2; grind
  have hp := szl_p2 h h2'
  obtain ⟨e0, e1⟩ := hC.p2
  have hlt := hC.lt
  have F := (fbr2_ok (sums := sumsC C m) (n := 64) (by decide) (by decide) (hp (ee0 C) (by simp)) (hp (ee1 C) (by simp)) (by
    rw [e0, e1]
    unfold dc2
    have : 0 < (y - x) * (y - x) := Rat.mul_pos (by grind) (by grind)
    grind) (by rw [sumsC_length]; omega) (szl_sums h hm)).1
  have B := bar_none (f := [ee0 C, ee1 C, 1]) (n := 64) h hm (by decide) (by decide) (by simp) (by simp) hp (fun φ => by rw [hL, ev3, ev3, e0, e1]; grind)
  have := Back.tight (some := L3 C) (sts_t2 h hC hm5 hm) hC.hh2 (by rw [sumsC_length]; show 3 ≤ m; omega) B F
  rw [show (lastS (L3 C)).1 = [ee0 C, ee1 C, 1] from rfl, e0, e1] at this
  exact this
theorem dc_pp3 (l1 : x < y) (l2 : y < z) : 0 < dc3 (-(x * y * z)) (x * y + x * z + y * z) (-(x + y + z)) ∧ 0 < (-(x + y + z)) ^ 2 - 3 * (x * y + x * z + y * z) := by
  constructor
  · have e : dc3 (-(x * y * z)) (x * y + x * z + y * z) (-(x + y + z)) = ((y - x) * (z - x) * (z - y)) * ((y - x) * (z - x) * (z - y)) := by
      unfold dc3
      grind
    rw [e]
    have k : 0 < (y - x) * (z - x) * (z - y) := Rat.mul_pos (Rat.mul_pos (by grind) (by grind)) (by grind)
    exact Rat.mul_pos k k
  · have k1 : 0 < (y - x) * (y - x) := Rat.mul_pos (by grind) (by grind)
    have k2 := sq0 (z - x)
    have k3 := sq0 (z - y)
    grind
theorem back_t3 (h : CrOk C) (hC : Thr C x y z u v w) (hx : Spt x) (hy : Spt y) (hz : Spt z) (hL : ∀ φ : Rat → Rat, LC C φ = u * φ x + v * φ y + w * φ z) (hm7 : 7 ≤ m) (hm : m ≤ 11) : Back (sumsC C m) (.flock (fbr (sumsC C m) (pp3 x y z))) := by
  have hp := szl_pp3 hx hy hz
  obtain ⟨d1, d2⟩ := dc_pp3 hC.lt1 hC.lt2
  have F := (fbr3_ok (sums := sumsC C m) (n := 64) (by decide) (by decide) (hp _ (by simp [pp3])) (hp _ (by simp [pp3])) (hp _ (by simp [pp3])) d1 d2 (by rw [sumsC_length]; omega) (szl_sums h hm)).1
  have B := bar_none (f := pp3 x y z) (n := 64) h hm (by decide) (by decide) (by simp [pp3]) (by simp [pp3]) hp (fun φ => by rw [hL, ev_pp3, ev_pp3, ev_pp3]; grind)
  exact Back.tight (some := L4 C x y z) (sts_t3 h hC hx hy hz hL hm7 hm) rfl (by rw [sumsC_length]; show 4 ≤ m; omega) B F
end
end M66
/-! The plain law, part 12: the least square. -/
namespace M66
theorem upC_LC (C : ICr) (a : Rat) : upC C a = LC C (fun x => if a < x then 0 else 1) := by
  have key : ∀ (C : ICr) (acc : Rat), C.foldl (upS a) acc = acc + LC C (fun x => if a < x then 0 else 1) := by
    intro C
    induction C with
    | nil => intro acc; simp only [List.foldl_nil, LC]; grind
    | cons z C ih =>
      intro acc
      rw [List.foldl_cons, ih]
      simp only [LC, upS]
      split <;> grind
  unfold upC
  rw [key]
  grind
theorem belC_LC (C : ICr) (a : Rat) : belC C a = LC C (fun x => if x < a then 1 else 0) := by
  have key : ∀ (C : ICr) (acc : Rat), C.foldl (belS a) acc = acc + LC C (fun x => if x < a then 1 else 0) := by
    intro C
    induction C with
    | nil => intro acc; simp only [List.foldl_nil, LC]; grind
    | cons z C ih =>
      intro acc
      rw [List.foldl_cons, ih]
      simp only [LC, belS]
      split <;> grind
  unfold belC
  rw [key]
  grind
theorem LC_sub (C : ICr) (φ ψ : Rat → Rat) : LC C (fun x => φ x - ψ x) = LC C φ - LC C ψ := by
  have h := LC_add C φ (fun x => -1 * ψ x)
  rw [LC_smul] at h
  have e : LC C (fun x => φ x - ψ x) = LC C (fun x => φ x + -1 * ψ x) := LC_ext fun x => by grind
  rw [e, h]
  grind
/-- the weight at a -/
theorem at_LC (C : ICr) (a : Rat) : upC C a - belC C a = LC C (fun x => if x = a then 1 else 0) := by
  rw [upC_LC, belC_LC, ← LC_sub]
  exact LC_ext fun x => by
    by_cases h1 : a < x
    · rw [if_pos h1, if_neg (by grind), if_neg (by grind)]; grind
    · by_cases h2 : x < a
      · rw [if_neg h1, if_pos h2, if_neg (by grind)]; grind
      · rw [if_neg h1, if_neg h2, if_pos (by grind)]; grind
theorem cr_pos {C : ICr} (h : CrOk C) : ∀ z ∈ C, 0 ≤ (z.2 : Rat) := fun z hz => Rat.le_of_lt (ip ((cr_each h).2 z hz).2.2.1)
theorem at_le {C : ICr} (h : CrOk C) {a : Rat} {φ : Rat → Rat} (h0 : ∀ x, 0 ≤ φ x) (h1 : 1 ≤ φ a) : upC C a - belC C a ≤ LC C φ := by
  rw [at_LC]
  refine LC_le (cr_pos h) fun z _ => ?_
  split
  · rename_i e
    rw [e]
    exact h1
  · exact h0 _
section
variable {C : ICr} {m : Nat} {a : Rat}
theorem lsF_app (L : List Stp) (p : List Rat) (g : Rat) : lsF a (L ++ [(p, g)]) = addP (lsF a L) (scl p (ev p a / g)) := by
  unfold lsF
  rw [List.foldl_append]
  rfl
theorem ev_app (L : List Stp) (p : List Rat) (g x : Rat) : ev (lsF a (L ++ [(p, g)])) x = ev (lsF a L) x + ev p a / g * ev p x := by
  rw [lsF_app, ev_addP, ev_scl]
  grind
theorem L1_app : L1 C = [] ++ [([1], mo C 0)] := rfl
theorem L2_app : L2 C = L1 C ++ [([-tt0 C, 1], hh1 C)] := rfl
theorem L3_app : L3 C = L2 C ++ [([ee0 C, ee1 C, 1], hh2 C)] := rfl
theorem ev_lsF1 (x : Rat) : ev (lsF a (L1 C)) x = 1 / mo C 0 := by
  rw [L1_app, ev_app, ev1, ev1, show lsF a [] = [] from rfl, ev_nil]
  grind
theorem ev_lsF2 (x : Rat) : ev (lsF a (L2 C)) x = 1 / mo C 0 + (a - tt0 C) / hh1 C * (x - tt0 C) := by
  rw [L2_app, ev_app, ev_lsF1, ev2, ev2]
  grind
def pp2 (C : ICr) (x : Rat) : Rat := ee0 C + ee1 C * x + x ^ 2
theorem ev_lsF3 (x : Rat) : ev (lsF a (L3 C)) x = 1 / mo C 0 + (a - tt0 C) / hh1 C * (x - tt0 C) + pp2 C a / hh2 C * pp2 C x := by
  rw [L3_app, ev_app, ev_lsF2, ev3, ev3]
  unfold pp2
  grind
/-- products of steps -/
theorem t0_eq (h0 : mo C 0 ≠ 0) : tt0 C * mo C 0 = mo C 1 := by unfold tt0; grind
theorem h1_eq (h0 : mo C 0 ≠ 0) : hh1 C = mo C 2 - tt0 C * mo C 1 := by
  have k1 := t0_eq h0
  have : hh1 C * mo C 0 = De2 C := by unfold hh1; grind
  have hdd : De2 C = mo C 0 * mo C 2 - mo C 1 * mo C 1 := rfl
  have e : (hh1 C - (mo C 2 - tt0 C * mo C 1)) * mo C 0 = 0 := by grind
  grind
theorem LC_K (h0 : mo C 0 ≠ 0) (h2 : De2 C ≠ 0) (k0 k1 k2 l0 l1 l2 : Rat) : LC C (fun x => (k0 + k1 * (x - tt0 C) + k2 * pp2 C x) * (l0 + l1 * (x - tt0 C) + l2 * pp2 C x)) = k0 * l0 * mo C 0 + k1 * l1 * hh1 C + k2 * l2 * hh2 C := by
  have a1 := t0_eq h0
  have a2 := h1_eq h0
  have o0 := orth0 h2
  have o1 := orth1 h2
  have o2 := orth2 h2
  have e := LC_pe C (φ := fun x => (k0 + k1 * (x - tt0 C) + k2 * pp2 C x) * (l0 + l1 * (x - tt0 C) + l2 * pp2 C x))
    (a := (k0 - k1 * tt0 C + k2 * ee0 C) * (l0 - l1 * tt0 C + l2 * ee0 C)) (b := (k0 - k1 * tt0 C + k2 * ee0 C) * (l1 + l2 * ee1 C) + (k1 + k2 * ee1 C) * (l0 - l1 * tt0 C + l2 * ee0 C))
    (c := (k0 - k1 * tt0 C + k2 * ee0 C) * l2 + (k1 + k2 * ee1 C) * (l1 + l2 * ee1 C) + k2 * (l0 - l1 * tt0 C + l2 * ee0 C)) (d := (k1 + k2 * ee1 C) * l2 + k2 * (l1 + l2 * ee1 C)) (e := k2 * l2) (f := 0) fun x => by
      unfold pp2
      grind
  rw [e]
  generalize mo C 0 = s0 at *
  generalize mo C 1 = s1 at *
  generalize mo C 2 = s2 at *
  generalize mo C 3 = s3 at *
  generalize mo C 4 = s4 at *
  generalize tt0 C = t0 at *
  generalize ee0 C = e0 at *
  generalize ee1 C = e1 at *
  generalize hh1 C = g1 at *
  generalize hh2 C = g2 at *
  subst a1 a2 o2
  have b2 : s2 = -(e1 * (t0 * s0)) - e0 * s0 := by grind
  subst b2
  have b3 : s3 = -(e1 * (-(e1 * (t0 * s0)) - e0 * s0)) - e0 * (t0 * s0) := by grind
  subst b3
  grind
theorem LC_K1 (h0 : mo C 0 ≠ 0) (k0 k1 l0 l1 : Rat) : LC C (fun x => (k0 + k1 * (x - tt0 C)) * (l0 + l1 * (x - tt0 C))) = k0 * l0 * mo C 0 + k1 * l1 * hh1 C := by
  have a1 := t0_eq h0
  have a2 := h1_eq h0
  rw [LC_pe C (a := (k0 - k1 * tt0 C) * (l0 - l1 * tt0 C)) (b := (k0 - k1 * tt0 C) * l1 + k1 * (l0 - l1 * tt0 C)) (c := k1 * l1) (d := 0) (e := 0) (f := 0) fun x => by grind]
  grind
theorem LC_K0 (k : Rat) : LC C (fun _ => k) = k * mo C 0 := by
  rw [LC_pe C (a := k) (b := 0) (c := 0) (d := 0) (e := 0) (f := 0) fun x => by grind]
  grind
end
/-! sizes of the least square -/
def StpOk (s : Stp) : Prop := SzL 64 s.1 ∧ Sz 64 s.2 ∧ s.2 ≠ 0 ∧ s.1.length ≤ 3
theorem szl_lsA {a : Rat} (ha : Sz 5 a) {k : Nat} (hk : 0 < k) {acc : List Rat} {s : Stp} (h : SzL k acc) (hl : acc.length ≤ 3) (hs : StpOk s) : SzL (k + 400) (lsA a acc s) ∧ (lsA a acc s).length ≤ 3 := by
  obtain ⟨s1, s2, s3, s4⟩ := hs
  have e : Sz 300 (ev s.1 a) := (sz_ev (by decide) (by decide) s1 ha).mono (by omega)
  have q : Sz 300 (ev s.1 a / s.2) := by
    have e2 : Sz 236 (ev s.1 a) := (sz_ev (by decide) (by decide) s1 ha).mono (by omega)
    exact e2.div s2
  refine ⟨fun c hc => (szl_addP hk (by decide) h (szl_scl s1 q) c hc).mono (by omega), ?_⟩
  have := addP_length acc (scl s.1 (ev s.1 a / s.2))
  have := scl_length s.1 (ev s.1 a / s.2)
  unfold lsA
  omega
theorem szl_lsF {a : Rat} (ha : Sz 5 a) : ∀ (L : List Stp) (k : Nat) (acc : List Rat), 0 < k → SzL k acc → acc.length ≤ 3 → (∀ s ∈ L, StpOk s) → SzL (k + 400 * L.length) (L.foldl (lsA a) acc) ∧ (L.foldl (lsA a) acc).length ≤ 3
  | [], k, acc, _, h, hl, _ => ⟨h, hl⟩
  | s :: L, k, acc, hk, h, hl, hs => by
    obtain ⟨h1, h2⟩ := szl_lsA ha hk h hl (hs s List.mem_cons_self)
    have := szl_lsF ha L (k + 400) (lsA a acc s) (by omega) h1 h2 fun t ht => hs t (List.mem_cons_of_mem _ ht)
    rw [List.length_cons, List.foldl_cons]
    exact ⟨fun c hc => (this.1 c hc).mono (by omega), this.2⟩
theorem lsF_sizes {a : Rat} (ha : Sz 5 a) {L : List Stp} (hl : L.length ≤ 3) (hs : ∀ s ∈ L, StpOk s) : SzL 1300 (lsF a L) ∧ (lsF a L).length ≤ 3 := by
  have := szl_lsF ha L 1 [] (by decide) szl_nil (by simp) hs
  exact ⟨fun c hc => (this.1 c hc).mono (by omega), this.2⟩
theorem lsOk_of {a : Rat} (ha : Sz 5 a) {L : List Stp} (hl : L.length ≤ 3) (hs : ∀ s ∈ L, StpOk s) (hz : ev (lsF a L) a ≠ 0) : LsOk L a := by
  have eB : BIG = 67000000 := rfl
  obtain ⟨f1, f2⟩ := lsF_sizes ha hl hs
  have fe : Sz 4000 (ev (lsF a L) a) := (sz_ev (by decide) (by decide) f1 ha).mono (by omega)
  refine ⟨fun i s hi => ?_, evOk (n := 1300) (m := 5) (by decide) (by decide) f1 ha (by omega), fe.s (by omega), hz, by omega, ((Sz.one (n := 1) (by decide)).div fe).s (by omega)⟩
  have hm := List.mem_of_getElem? hi
  obtain ⟨s1, s2, s3, s4⟩ := hs s hm
  have e : Sz 236 (ev s.1 a) := (sz_ev (by decide) (by decide) s1 ha).mono (by omega)
  obtain ⟨t1, t2⟩ := lsF_sizes ha (L := L.take i) (by rw [List.length_take]; omega) fun t ht => hs t (List.mem_of_mem_take ht)
  exact ⟨evOk (n := 64) (m := 5) (by decide) (by decide) s1 ha (by omega), e.s (by omega), s2.s (by omega), s3, s1.sl (by omega), by omega, (e.div s2).s (by omega), t1.sl (by omega), by omega, (szl_scl s1 (e.div s2)).sl (by omega)⟩
end M66
/-! The plain law, part 13: what the least square is. -/
namespace M66
section
variable {C : ICr} {m : Nat} {a : Rat}
theorem len_L1 : (lsF a (L1 C)).length ≤ 1 := by
  rw [L1_app, lsF_app]
  have h1 := addP_length (lsF a []) (scl [1] (ev [1] a / mo C 0))
  have h2 := scl_length [1] (ev [1] a / mo C 0)
  have h3 : (lsF a []).length = 0 := rfl
  simp at h2
  omega
theorem len_L2 : (lsF a (L2 C)).length ≤ 2 := by
  rw [L2_app, lsF_app]
  have h1 := addP_length (lsF a (L1 C)) (scl [-tt0 C, 1] (ev [-tt0 C, 1] a / hh1 C))
  have h2 := scl_length [-tt0 C, 1] (ev [-tt0 C, 1] a / hh1 C)
  have h3 := len_L1 (C := C) (a := a)
  simp at h2
  omega
theorem len_L3 : (lsF a (L3 C)).length ≤ 3 := by
  rw [L3_app, lsF_app]
  have h1 := addP_length (lsF a (L2 C)) (scl [ee0 C, ee1 C, 1] (ev [ee0 C, ee1 C, 1] a / hh2 C))
  have h2 := scl_length [ee0 C, ee1 C, 1] (ev [ee0 C, ee1 C, 1] a / hh2 C)
  have h3 := len_L2 (C := C) (a := a)
  simp at h2
  omega
/-- the kernel at a: its square's sum is its value at a -/
structure Ker (C : ICr) (a : Rat) (L : List Stp) (k : Nat) : Prop where
  pos : 0 < ev (lsF a L) a
  sq : LC C (fun x => ev (lsF a L) x * ev (lsF a L) x) = ev (lsF a L) a
  len : (lsF a L).length ≤ k
theorem ker1 (h0 : 0 < mo C 0) : Ker C a (L1 C) 1 := by
  refine ⟨?_, ?_, len_L1⟩
  · rw [ev_lsF1]
    exact div_pos' (by decide) h0
  · have e : LC C (fun x => ev (lsF a (L1 C)) x * ev (lsF a (L1 C)) x) = LC C (fun _ => 1 / mo C 0 * (1 / mo C 0)) := LC_ext fun x => by rw [ev_lsF1]
    rw [e, LC_K0, ev_lsF1]
    grind
theorem ker2 (h0 : 0 < mo C 0) (h1 : 0 < hh1 C) : Ker C a (L2 C) 2 := by
  refine ⟨?_, ?_, len_L2⟩
  · rw [ev_lsF2]
    have k1 := div_pos' (a := 1) (by decide) h0
    have k2 := Rat.mul_nonneg (sq0 (a - tt0 C)) (Rat.le_of_lt (div_pos' (a := 1) (by decide) h1))
    have e : (a - tt0 C) / hh1 C * (a - tt0 C) = (a - tt0 C) * (a - tt0 C) * (1 / hh1 C) := by grind
    rw [e]
    grind
  · have e : LC C (fun x => ev (lsF a (L2 C)) x * ev (lsF a (L2 C)) x) = LC C (fun x => (1 / mo C 0 + (a - tt0 C) / hh1 C * (x - tt0 C)) * (1 / mo C 0 + (a - tt0 C) / hh1 C * (x - tt0 C))) := LC_ext fun x => by rw [ev_lsF2]
    rw [e, LC_K1 (by grind), ev_lsF2]
    grind
theorem ker3 (h0 : 0 < mo C 0) (h1 : 0 < hh1 C) (h2 : 0 < hh2 C) (hd : De2 C ≠ 0) : Ker C a (L3 C) 3 := by
  refine ⟨?_, ?_, len_L3⟩
  · rw [ev_lsF3]
    have k1 := div_pos' (a := 1) (by decide) h0
    have k2 := Rat.mul_nonneg (sq0 (a - tt0 C)) (Rat.le_of_lt (div_pos' (a := 1) (by decide) h1))
    have k3 := Rat.mul_nonneg (sq0 (pp2 C a)) (Rat.le_of_lt (div_pos' (a := 1) (by decide) h2))
    have e : (a - tt0 C) / hh1 C * (a - tt0 C) = (a - tt0 C) * (a - tt0 C) * (1 / hh1 C) := by grind
    have e2 : pp2 C a / hh2 C * pp2 C a = pp2 C a * pp2 C a * (1 / hh2 C) := by grind
    rw [e, e2]
    grind
  · have e : LC C (fun x => ev (lsF a (L3 C)) x * ev (lsF a (L3 C)) x) = LC C (fun x => (1 / mo C 0 + (a - tt0 C) / hh1 C * (x - tt0 C) + pp2 C a / hh2 C * pp2 C x) * (1 / mo C 0 + (a - tt0 C) / hh1 C * (x - tt0 C) + pp2 C a / hh2 C * pp2 C x)) := LC_ext fun x => by rw [ev_lsF3]
    rw [e, LC_K (by grind) hd, ev_lsF3]
    grind
/-- the least square: its polynomial shows it, it is no less than the weight at a -/
theorem Ker.shows {L : List Stp} {k : Nat} (K : Ker C a L k) (h : CrOk C) (ha : Sz 5 a) (hl : L.length ≤ 3) (hs : ∀ s ∈ L, StpOk s) (hk : 2 * k ≤ m + 1) (hk3 : k ≤ 3) (hm : m ≤ 11) (hb : ∃ w, Back (sumsC C m) (.flock w)) :
    SmOk (sumsC C m) a (lsP a L) ∧ ev (lsP a L) a = 1 ∧ sqs (sumsC C m) (lsP a L) (lsP a L) = lsN a L ∧ ¬ lsN a L < upC C a - belC C a ∧ LsOk L a ∧ Sz 4001 (lsN a L) := by
  have eB : BIG = 67000000 := rfl
  have hp := K.pos
  have hz : ev (lsF a L) a ≠ 0 := by grind
  obtain ⟨f1, f2⟩ := lsF_sizes ha hl hs
  have fe : Sz 4000 (ev (lsF a L) a) := (sz_ev (by decide) (by decide) f1 ha).mono (by omega)
  have hN : Sz 4001 (lsN a L) := ((Sz.one (n := 1) (by decide)).div fe).mono (by decide)
  have hP : SzL 6000 (lsP a L) := fun c hc => (szl_scl f1 hN c hc).mono (by decide)
  have hlen : (lsP a L).length ≤ k := Nat.le_trans (scl_length _ _) K.len
  have hev : ∀ x, ev (lsP a L) x = ev (lsF a L) x * lsN a L := fun x => ev_scl _ _ _
  have e1 : ev (lsP a L) a = 1 := by
    rw [hev]
    unfold lsN
    grind
  have hne : lsP a L ≠ [] := by
    intro z
    rw [z, ev_nil] at e1
    grind
  have hml := mulP_len1 hne hne
  have hss : SzL 6000 (sumsC C m) := fun c hc => (szl_sums h hm c hc).mono (by decide)
  have hq : LC C (fun x => ev (lsP a L) x * ev (lsP a L) x) = lsN a L := by
    have e : LC C (fun x => ev (lsP a L) x * ev (lsP a L) x) = LC C (fun x => lsN a L * lsN a L * (ev (lsF a L) x * ev (lsF a L) x)) := LC_ext fun x => by rw [hev]; grind
    rw [e, LC_smul, K.sq]
    unfold lsN
    grind
  refine ⟨⟨hb, by omega, nrm_scl _ _, by rw [sumsC_length]; omega, by rw [sumsC_length]; omega, evOk (n := 6000) (m := 5) (by decide) (by decide) hP ha (by
      have : (lsP a L).length * (6000 + 5 + 1) ≤ 3 * (6000 + 5 + 1) := Nat.mul_le_mul_right _ (by omega)
      omega), (sqOk_of (n := 6000) (by decide) (by decide) (by omega) (by omega) (by rw [sumsC_length]; omega) (by rw [sumsC_length]; exact hm) hP hP hss).1⟩, e1, ?_, ?_, lsOk_of ha hl hs hz, hN⟩
  · rw [sqs_C (by omega), hq]
  · have := at_le h (a := a) (φ := fun x => ev (lsP a L) x * ev (lsP a L) x) (fun x => sq0 _) (by show (1 : Rat) ≤ ev (lsP a L) a * ev (lsP a L) a; rw [e1]; grind)
    rw [hq] at this
    grind
end
end M66
/-! The plain law, part 14: the weight at the told root. -/
namespace M66
section
variable {C : ICr} {a : Rat}
/-- reproducing: the sum of a polynomial of degree two times the kernel -/
theorem repro3 (h0 : mo C 0 ≠ 0) (h2 : De2 C ≠ 0) (h1 : hh1 C ≠ 0) (h3 : hh2 C ≠ 0) (k0 k1 k2 : Rat) : LC C (fun x => (k0 + k1 * (x - tt0 C) + k2 * pp2 C x) * ev (lsF a (L3 C)) x) = k0 + k1 * (a - tt0 C) + k2 * pp2 C a := by
  have e : LC C (fun x => (k0 + k1 * (x - tt0 C) + k2 * pp2 C x) * ev (lsF a (L3 C)) x) = LC C (fun x => (k0 + k1 * (x - tt0 C) + k2 * pp2 C x) * (1 / mo C 0 + (a - tt0 C) / hh1 C * (x - tt0 C) + pp2 C a / hh2 C * pp2 C x)) := LC_ext fun x => by rw [ev_lsF3]
  rw [e, LC_K h0 h2]
  grind
/-- any polynomial of degree two, by the steps -/
theorem by_steps (q0 q1 q2 x : Rat) : q0 + q1 * x + q2 * x ^ 2 = (q0 - q2 * ee0 C + (q1 - q2 * ee1 C) * tt0 C) + (q1 - q2 * ee1 C) * (x - tt0 C) + q2 * pp2 C x := by
  unfold pp2
  grind
theorem repro3' (h0 : mo C 0 ≠ 0) (h2 : De2 C ≠ 0) (h1 : hh1 C ≠ 0) (h3 : hh2 C ≠ 0) (q0 q1 q2 : Rat) : LC C (fun x => (q0 + q1 * x + q2 * x ^ 2) * ev (lsF a (L3 C)) x) = q0 + q1 * a + q2 * a ^ 2 := by
  have e : LC C (fun x => (q0 + q1 * x + q2 * x ^ 2) * ev (lsF a (L3 C)) x) = LC C (fun x => ((q0 - q2 * ee0 C + (q1 - q2 * ee1 C) * tt0 C) + (q1 - q2 * ee1 C) * (x - tt0 C) + q2 * pp2 C x) * ev (lsF a (L3 C)) x) := LC_ext fun x => by rw [by_steps (C := C) q0 q1 q2 x]
  rw [e, repro3 h0 h2 h1 h3, by_steps (C := C) q0 q1 q2 a]
/-- a next step is orthogonal to what is below -/
theorem orthR {t : Rat} (h0 : mo C 0 ≠ 0) (h2 : De2 C ≠ 0) (h1 : hh1 C ≠ 0) : mo C 3 + (ee1 C - t) * mo C 2 + (ee0 C - t * ee1 C - hh2 C / hh1 C) * mo C 1 + (-(t * ee0 C) + hh2 C / hh1 C * tt0 C) * mo C 0 = 0 ∧ mo C 4 + (ee1 C - t) * mo C 3 + (ee0 C - t * ee1 C - hh2 C / hh1 C) * mo C 2 + (-(t * ee0 C) + hh2 C / hh1 C * tt0 C) * mo C 1 = 0 := by
  have a1 := t0_eq h0
  have a2 := h1_eq h0
  have o0 := orth0 h2
  have o1 := orth1 h2
  have o2 := orth2 h2
  have kr : hh2 C / hh1 C * hh1 C = hh2 C := by grind
  generalize hh2 C / hh1 C = r at *
  constructor <;> grind
/-- three: the weight at the root a is the least square there -/
theorem root3 (h0 : mo C 0 ≠ 0) (h2 : De2 C ≠ 0) (h1 : hh1 C ≠ 0) (h3 : hh2 C ≠ 0) {r0 r1 r2 b c y0 y1 y2 : Rat} (hr2 : r2 = b - a) (hr1 : r1 = c - a * b) (hr0 : r0 = -(a * c))
    (o0 : mo C 3 + r2 * mo C 2 + r1 * mo C 1 + r0 * mo C 0 = 0) (o1 : mo C 4 + r2 * mo C 3 + r1 * mo C 2 + r0 * mo C 1 = 0)
    (k0 : 3 * y0 + -r2 * y1 + (r2 ^ 2 - 2 * r1) * y2 = mo C 0) (k1 : -r2 * y0 + (r2 ^ 2 - 2 * r1) * y1 + (-r2 ^ 3 + 3 * r1 * r2 - 3 * r0) * y2 = mo C 1)
    (k2 : (r2 ^ 2 - 2 * r1) * y0 + (-r2 ^ 3 + 3 * r1 * r2 - 3 * r0) * y1 + (r2 ^ 4 - 4 * r2 ^ 2 * r1 + 2 * r1 ^ 2 + 4 * r0 * r2) * y2 = mo C 2) (hq : a ^ 2 + b * a + c ≠ 0) (hz : ev (lsF a (L3 C)) a ≠ 0) :
    y0 + y1 * a + y2 * a ^ 2 = lsN a (L3 C) := by
  have e1 : (y0 + y1 * a + y2 * a ^ 2) * (a ^ 2 + b * a + c) = mo C 2 + b * mo C 1 + c * mo C 0 := by
    rw [← k0, ← k1, ← k2, hr0, hr1, hr2]
    grind
  have rep := repro3' (a := a) h0 h2 h1 h3 c b 1
  have e2 : LC C (fun x => (c + b * x + 1 * x ^ 2) * ev (lsF a (L3 C)) x) = ev (lsF a (L3 C)) a * (mo C 2 + b * mo C 1 + c * mo C 0) := by
    have hx : ∀ x, ev (lsF a (L3 C)) x = (1 / mo C 0 - (a - tt0 C) / hh1 C * tt0 C + pp2 C a / hh2 C * ee0 C) + ((a - tt0 C) / hh1 C + pp2 C a / hh2 C * ee1 C) * x + pp2 C a / hh2 C * x ^ 2 := fun x => by
      rw [ev_lsF3]
      generalize pp2 C a / hh2 C = k
      unfold pp2
      grind
    have ea := hx a
    generalize (1 / mo C 0 - (a - tt0 C) / hh1 C * tt0 C + pp2 C a / hh2 C * ee0 C) = u0 at *
    generalize ((a - tt0 C) / hh1 C + pp2 C a / hh2 C * ee1 C) = u1 at *
    generalize pp2 C a / hh2 C = u2 at *
    rw [LC_pe C (a := c * u0) (b := c * u1 + b * u0) (c := c * u2 + b * u1 + u0) (d := b * u2 + u1) (e := u2) (f := 0) fun x => by rw [hx x]; grind, ea]
    rw [hr2, hr1, hr0] at o0
    rw [hr2, hr1, hr0] at o1
    have key : c * u0 * mo C 0 + (c * u1 + b * u0) * mo C 1 + (c * u2 + b * u1 + u0) * mo C 2 + (b * u2 + u1) * mo C 3 + u2 * mo C 4 + 0 * mo C 5 = (u0 + u1 * a + u2 * a ^ 2) * (mo C 2 + b * mo C 1 + c * mo C 0) + u1 * (mo C 3 + (b - a) * mo C 2 + (c - a * b) * mo C 1 + -(a * c) * mo C 0) + u2 * ((mo C 4 + (b - a) * mo C 3 + (c - a * b) * mo C 2 + -(a * c) * mo C 1) + a * (mo C 3 + (b - a) * mo C 2 + (c - a * b) * mo C 1 + -(a * c) * mo C 0)) := by
      clear o0 o1 k0 k1 k2 e1 rep hx ea hz hq hr0 hr1 hr2
      grind
    rw [key, o0, o1]
    clear o0 o1 k0 k1 k2 e1 rep hx ea hz hq hr0 hr1 hr2 key
    grind
  rw [e2] at rep
  unfold lsN
  have e3 : (y0 + y1 * a + y2 * a ^ 2) * ev (lsF a (L3 C)) a = 1 := by
    generalize ev (lsF a (L3 C)) a = K at *
    generalize y0 + y1 * a + y2 * a ^ 2 = Y at *
    generalize mo C 2 + b * mo C 1 + c * mo C 0 = Q at *
    have rep' : K * Q = a ^ 2 + b * a + c := by rw [rep]; grind
    generalize a ^ 2 + b * a + c = q at *
    clear k0 k1 k2 o0 o1 rep e2 hr0 hr1 hr2
    have : (Y * K - 1) * q = 0 := by grind
    grind
  grind
/-- two: the weight at the root a is the least square there -/
theorem orthR2 {t : Rat} (h0 : mo C 0 ≠ 0) : mo C 2 + -(tt0 C + t) * mo C 1 + (tt0 C * t - hh1 C / mo C 0) * mo C 0 = 0 := by
  have a1 := t0_eq h0
  have a2 := h1_eq h0
  have kr : hh1 C / mo C 0 * mo C 0 = hh1 C := by grind
  generalize hh1 C / mo C 0 = r at *
  grind
theorem root2 (h0 : mo C 0 ≠ 0) (h1 : hh1 C ≠ 0) {r0 r1 b y0 y1 : Rat} (hr1 : r1 = b - a) (hr0 : r0 = -(a * b)) (o0 : mo C 2 + r1 * mo C 1 + r0 * mo C 0 = 0)
    (k0 : 2 * y0 + -r1 * y1 = mo C 0) (k1 : -r1 * y0 + (r1 ^ 2 - 2 * r0) * y1 = mo C 1) (hq : a + b ≠ 0) (hz : ev (lsF a (L2 C)) a ≠ 0) : y0 + y1 * a = lsN a (L2 C) := by
  have e1 : (y0 + y1 * a) * (a + b) = mo C 1 + b * mo C 0 := by
    rw [← k0, ← k1, hr0, hr1]
    grind
  have a1 := t0_eq h0
  have a2 := h1_eq h0
  have ea : ev (lsF a (L2 C)) a = 1 / mo C 0 + (a - tt0 C) / hh1 C * (a - tt0 C) := ev_lsF2 a
  have e2 : ev (lsF a (L2 C)) a * (mo C 1 + b * mo C 0) = a + b := by
    rw [ea]
    rw [hr1, hr0] at o0
    have i0 : 1 / mo C 0 * mo C 0 = 1 := by grind
    have i1 : (a - tt0 C) / hh1 C * hh1 C = a - tt0 C := by grind
    generalize 1 / mo C 0 = u at *
    generalize (a - tt0 C) / hh1 C = v at *
    clear e1 k0 k1 hz ea hr0 hr1
    generalize mo C 0 = s0 at *
    generalize mo C 1 = s1 at *
    generalize mo C 2 = s2 at *
    generalize hh1 C = g at *
    generalize tt0 C = t at *
    subst a1 a2
    have w : (a - t) * ((t + b) * s0) = s2 - t * (t * s0) := by grind
    have w2 : v * ((a - t) * ((t + b) * s0)) = a - t := by rw [w]; exact i1
    grind
  unfold lsN
  have e3 : (y0 + y1 * a) * ev (lsF a (L2 C)) a = 1 := by
    generalize ev (lsF a (L2 C)) a = K at *
    generalize y0 + y1 * a = Y at *
    generalize mo C 1 + b * mo C 0 = Q at *
    generalize a + b = q at *
    clear k0 k1 o0 hr0 hr1 ea
    have : (Y * K - 1) * q = 0 := by grind
    grind
  grind
theorem root1 (h0 : mo C 0 ≠ 0) : mo C 0 = lsN a (L1 C) := by
  unfold lsN
  rw [ev_lsF1]
  grind
end
end M66
/-! The plain law, part 15: least_square at every crowd. -/
namespace M66
/-- what the law asks of the least square -/
def LsRes (C : ICr) (m : Nat) (a n : Rat) (f : List Rat) : Prop := LsAt (sumsC C m) a n f ∧ Sz 4001 n ∧ SmOk (sumsC C m) a f ∧ ev f a = 1 ∧ sqs (sumsC C m) f f = n ∧ ¬ n < upC C a - belC C a ∧ LC C (fun x => ev f x * ev f x) = n ∧ f.length ≤ 4 ∧ f ≠ []
section
variable {C : ICr} {m : Nat} {a : Rat}
theorem Ker.res {L : List Stp} {k : Nat} (K : Ker C a L k) (h : CrOk C) (ha : Sz 5 a) (hl : L.length ≤ 3) (hs : ∀ s ∈ L, StpOk s) (hk : 2 * k ≤ m + 1) (hk3 : k ≤ 3) (hm : m ≤ 11) (hb : ∃ w, Back (sumsC C m) (.flock w)) (hat : LsOk L a → LsAt (sumsC C m) a (lsN a L) (lsP a L)) : LsRes C m a (lsN a L) (lsP a L) := by
  obtain ⟨k1, k2, k3, k4, k5, k6⟩ := K.shows h ha hl hs hk hk3 hm hb
  have hlen : (lsP a L).length ≤ k := Nat.le_trans (scl_length _ _) K.len
  have hne : lsP a L ≠ [] := by
    intro z
    rw [z, ev_nil] at k2
    grind
  have hml := mulP_len1 hne hne
  refine ⟨hat k5, k6, k1, k2, k3, k4, ?_, by omega, hne⟩
  rw [← k3, sqs_C (by omega)]
theorem out_res {L : List Stp} {p : List Rat} {k : Nat} (h : CrOk C) (ha : Sz 5 a) (hp : SzL 64 p) (lp : p.length = k) (hk : 2 * k ≤ m + 1) (hk4 : k ≤ 4) (hm : m ≤ 11) (hb : ∃ w, Back (sumsC C m) (.flock w)) (hst : StsOk (sumsC C m) L) (e1 : (lastS L).1 = p) (e2 : (lastS L).2 = 0) (hz : ev p a ≠ 0) (hL : ∀ φ : Rat → Rat, LC C (fun t => ev p t * φ t) = 0) :
    LsRes C m a 0 (scl p (1 / ev p a)) := by
  have eB : BIG = 67000000 := rfl
  have hmul : p.length * (64 + 5 + 1) ≤ 4 * (64 + 5 + 1) := Nat.mul_le_mul_right _ (by omega)
  have fe : Sz 300 (ev p a) := (sz_ev (by decide) (by decide) hp ha).mono (by omega)
  have hc : Sz 301 (1 / ev p a) := ((Sz.one (n := 1) (by decide)).div fe).mono (by decide)
  have hP : SzL 400 (scl p (1 / ev p a)) := fun c hc' => (szl_scl hp hc c hc').mono (by decide)
  have hev : ∀ x, ev (scl p (1 / ev p a)) x = ev p x * (1 / ev p a) := fun x => ev_scl _ _ _
  have k1 : ev (scl p (1 / ev p a)) a = 1 := by rw [hev]; grind
  have hlen := scl_length p (1 / ev p a)
  have hne : scl p (1 / ev p a) ≠ [] := by
    intro z
    rw [z, ev_nil] at k1
    grind
  have hml := mulP_len1 hne hne
  have hss : SzL 400 (sumsC C m) := fun c hc => (szl_sums h hm c hc).mono (by decide)
  have hq : LC C (fun x => ev (scl p (1 / ev p a)) x * ev (scl p (1 / ev p a)) x) = 0 := by
    have := hL (fun x => 1 / ev p a * ev (scl p (1 / ev p a)) x)
    rw [← this]
    exact LC_ext fun x => by rw [hev]; grind
  obtain ⟨w, hb⟩ := hb
  have E : EvOk p a := evOk (n := 64) (m := 5) (by decide) (by decide) hp ha (by omega)
  refine ⟨?_, Sz.zero (by decide), ⟨⟨w, hb⟩, by omega, nrm_scl _ _, by rw [sumsC_length]; omega, by rw [sumsC_length]; omega, evOk (n := 400) (m := 5) (by decide) (by decide) hP ha (by
    have : (scl p (1 / ev p a)).length * (400 + 5 + 1) ≤ 4 * (400 + 5 + 1) := Nat.mul_le_mul_right _ (by omega)
    omega), (sqOk_of (n := 400) (by decide) (by decide) (by omega) (by omega) (by rw [sumsC_length]; omega) (by rw [sumsC_length]; exact hm) hP hP hss).1⟩, k1, by rw [sqs_C (by omega), hq], ?_, hq, by omega, hne⟩
  · subst e1
    exact .out hb hst e2 E (fe.s (by omega)) hz (by omega) (hc.s (by omega))
  · have := at_le h (a := a) (φ := fun x => ev (scl p (1 / ev p a)) x * ev (scl p (1 / ev p a)) x) (fun x => sq0 _) (by show (1 : Rat) ≤ ev (scl p (1 / ev p a)) a * ev (scl p (1 / ev p a)) a; rw [k1]; grind)
    rw [hq] at this
    grind
theorem Spt.sz {x : Rat} (h : Spt x) : Sz 5 x := h.ib.sz (by decide)
theorem stpOk1 (h : CrOk C) (h0 : mo C 0 ≠ 0) : StpOk ([1], mo C 0) := ⟨szl_one (by decide), ((ib0 h).sz (by decide)).mono (by decide), h0, by show 1 ≤ 3; decide⟩
theorem stpOk2 (h : CrOk C) (h0 : mo C 0 ≠ 0) (h1 : hh1 C ≠ 0) : StpOk ([-tt0 C, 1], hh1 C) := ⟨szl_p1 h h0, (sz_hh1 h h0).mono (by decide), h1, by show 2 ≤ 3; decide⟩
theorem stpOk3 (h : CrOk C) (h2 : De2 C ≠ 0) (h3 : hh2 C ≠ 0) : StpOk ([ee0 C, ee1 C, 1], hh2 C) := ⟨szl_p2 h h2, (sz_hh2 h h2).mono (by decide), h3, by show 3 ≤ 3; decide⟩
theorem stps1 (h : CrOk C) (h0 : mo C 0 ≠ 0) : ∀ s ∈ L1 C, StpOk s := fun s hs => by
  simp [L1] at hs
  subst hs
  exact stpOk1 h h0
theorem stps2 (h : CrOk C) (h0 : mo C 0 ≠ 0) (h1 : hh1 C ≠ 0) : ∀ s ∈ L2 C, StpOk s := fun s hs => by
  simp [L2] at hs
  rcases hs with rfl | rfl
  · exact stpOk1 h h0
  · exact stpOk2 h h0 h1
theorem stps3 (h : CrOk C) (h0 : mo C 0 ≠ 0) (h1 : hh1 C ≠ 0) (h2 : De2 C ≠ 0) (h3 : hh2 C ≠ 0) : ∀ s ∈ L3 C, StpOk s := fun s hs => by
  simp [L3] at hs
  rcases hs with rfl | rfl | rfl
  · exact stpOk1 h h0
  · exact stpOk2 h h0 h1
  · exact stpOk3 h h2 h3
variable {x y z u v w : Rat}
theorem ls_o1 (h : CrOk C) (h0 : 0 < mo C 0) (ha : Spt a) : LsRes C 1 a (lsN a (L1 C)) (lsP a (L1 C)) := by
  obtain ⟨f, hf⟩ := back_o1 h h0
  exact (ker1 h0).res h ha.sz (by show 1 ≤ 3; decide) (stps1 h (by grind)) (by decide) (by decide) (by decide) ⟨f, hf⟩ fun k => .opn hf sts_o1 (by show mo C 0 ≠ 0; grind) k
theorem ls_o2 (h : CrOk C) (h0 : 0 < mo C 0) (h2 : 0 < De2 C) (ha : Spt a) : LsRes C 3 a (lsN a (L2 C)) (lsP a (L2 C)) := by
  obtain ⟨f, hf⟩ := back_o2 h h0 h2
  have h1 : 0 < hh1 C := div_pos' h2 h0
  exact (ker2 h0 h1).res h ha.sz (by show 2 ≤ 3; decide) (stps2 h (by grind) (by grind)) (by decide) (by decide) (by decide) ⟨f, hf⟩ fun k => .opn hf (sts_o2 h h0) (by show hh1 C ≠ 0; grind) k
theorem ls_o3 (h : CrOk C) (h0 : 0 < mo C 0) (h2 : 0 < De2 C) (h3 : 0 < De3 C) (ha : Spt a) : LsRes C 5 a (lsN a (L3 C)) (lsP a (L3 C)) := by
  obtain ⟨f, hf⟩ := back_o3 h h0 h2 h3
  have h1 : 0 < hh1 C := div_pos' h2 h0
  have hh : 0 < hh2 C := div_pos' h3 h2
  exact (ker3 h0 h1 hh (by grind)).res h ha.sz (by show 3 ≤ 3; decide) (stps3 h (by grind) (by grind) (by grind) (by grind)) (by decide) (by decide) (by decide) ⟨f, hf⟩ fun k => .opn hf (sts_o3 h h0 h2) (by show hh2 C ≠ 0; grind) k
theorem evOk64 {p : List Rat} (hp : SzL 64 p) (lp : p.length ≤ 4) (ha : Spt a) : EvOk p a := by
  have eB : BIG = 67000000 := rfl
  have hmul : p.length * (64 + 5 + 1) ≤ 4 * (64 + 5 + 1) := Nat.mul_le_mul_right _ lp
  exact evOk (n := 64) (m := 5) (by decide) (by decide) hp ha.sz (by omega)
/-- tight, one spot -/
theorem ls_t1 (h : CrOk C) (hC : One C x w) (hL : ∀ φ : Rat → Rat, LC C φ = w * φ x) (hm3 : 3 ≤ m) (hm : m ≤ 11) (ha : Spt a) : (a = x ∧ LsRes C m a (lsN a (L1 C)) (lsP a (L1 C))) ∨ (a ≠ x ∧ ∃ f, LsRes C m a 0 f) := by
  have h0 := hC.m0
  have h0' : mo C 0 ≠ 0 := by grind
  have hb := back_t1 h hC hL hm3 hm
  have st := sts_t1 h hC hm3 hm
  have hz : hh1 C = 0 := by unfold hh1; rw [hC.d2]; grind
  have hp := szl_p1 h h0'
  have e : tt0 C = x := hC.tt0
  by_cases hax : a = x
  · refine .inl ⟨hax, (ker1 h0).res h ha.sz (by show 1 ≤ 3; decide) (stps1 h h0') (by omega) (by decide) hm ⟨_, hb⟩ fun k => ?_⟩
    exact LsAt.inn (some := L2 C) hb st hz (evOk64 hp (by show 2 ≤ 4; decide) ha) (by show ev [-tt0 C, 1] a = 0; rw [ev2, e, hax]; grind) k
  · refine .inr ⟨hax, _, out_res (k := 2) h ha.sz hp rfl (by omega) (by decide) hm ⟨_, hb⟩ st rfl hz (by rw [ev2, e]; grind) fun φ => by rw [hL, ev2, e]; grind⟩
theorem ls_t2 (h : CrOk C) (hC : Two C x y v w) (hL : ∀ φ : Rat → Rat, LC C φ = v * φ x + w * φ y) (hm5 : 5 ≤ m) (hm : m ≤ 11) (ha : Spt a) : ((a = x ∨ a = y) ∧ LsRes C m a (lsN a (L2 C)) (lsP a (L2 C))) ∨ (a ≠ x ∧ a ≠ y ∧ ∃ f, LsRes C m a 0 f) := by
  have h0 := hC.m0
  have h2 := hC.d2
  have h0' : mo C 0 ≠ 0 := by grind
  have h2' : De2 C ≠ 0 := by grind
  have h1 : 0 < hh1 C := div_pos' h2 h0
  have hb := back_t2 h hC hL hm5 hm
  have st := sts_t2 h hC hm5 hm
  have hp := szl_p2 h h2'
  obtain ⟨e0, e1⟩ := hC.p2
  have hev : ∀ t, ev [ee0 C, ee1 C, 1] t = (t - x) * (t - y) := fun t => by rw [ev3, e0, e1]; grind
  by_cases hax : a = x ∨ a = y
  · refine .inl ⟨hax, (ker2 h0 h1).res h ha.sz (by show 2 ≤ 3; decide) (stps2 h h0' (by grind)) (by omega) (by decide) hm ⟨_, hb⟩ fun k => ?_⟩
    exact LsAt.inn (some := L3 C) hb st hC.hh2 (evOk64 hp (by show 3 ≤ 4; decide) ha) (by show ev [ee0 C, ee1 C, 1] a = 0; rw [hev]; rcases hax with r | r <;> rw [r] <;> grind) k
  · have n1 : a ≠ x := fun z => hax (.inl z)
    have n2 : a ≠ y := fun z => hax (.inr z)
    refine .inr ⟨n1, n2, _, out_res (k := 3) h ha.sz hp rfl (by omega) (by decide) hm ⟨_, hb⟩ st rfl hC.hh2 (by rw [hev]; grind) fun φ => by rw [hL, hev, hev]; grind⟩
theorem ls_t3 (h : CrOk C) (hC : Thr C x y z u v w) (hx : Spt x) (hy : Spt y) (hzz : Spt z) (hL : ∀ φ : Rat → Rat, LC C φ = u * φ x + v * φ y + w * φ z) (hm7 : 7 ≤ m) (hm : m ≤ 11) (ha : Spt a) : ((a = x ∨ a = y ∨ a = z) ∧ LsRes C m a (lsN a (L3 C)) (lsP a (L3 C))) ∨ (a ≠ x ∧ a ≠ y ∧ a ≠ z ∧ ∃ f, LsRes C m a 0 f) := by
  have h0 := hC.m0
  have h2 := hC.d2
  have h3 := hC.d3
  have h0' : mo C 0 ≠ 0 := by grind
  have h2' : De2 C ≠ 0 := by grind
  have h1 : 0 < hh1 C := div_pos' h2 h0
  have hh : 0 < hh2 C := div_pos' h3 h2
  have hb := back_t3 h hC hx hy hzz hL hm7 hm
  have st := sts_t3 h hC hx hy hzz hL hm7 hm
  have hp := szl_pp3 hx hy hzz
  by_cases hax : a = x ∨ a = y ∨ a = z
  · refine .inl ⟨hax, (ker3 h0 h1 hh h2').res h ha.sz (by show 3 ≤ 3; decide) (stps3 h h0' (by grind) h2' (by grind)) (by omega) (by decide) hm ⟨_, hb⟩ fun k => ?_⟩
    exact LsAt.inn (some := L4 C x y z) hb st rfl (evOk64 hp (by show 4 ≤ 4; decide) ha) (by show ev (pp3 x y z) a = 0; rw [ev_pp3]; rcases hax with r | r | r <;> rw [r] <;> grind) k
  · have n1 : a ≠ x := fun z => hax (.inl z)
    have n2 : a ≠ y := fun z => hax (.inr (.inl z))
    have n3 : a ≠ z := fun z => hax (.inr (.inr z))
    refine .inr ⟨n1, n2, n3, _, out_res (k := 4) h ha.sz hp rfl (by omega) (by decide) hm ⟨_, hb⟩ st rfl rfl (by rw [ev_pp3]; grind) fun φ => by rw [hL, ev_pp3, ev_pp3, ev_pp3]; grind⟩
end
end M66
/-! The plain law, part 16: flock_at at every crowd. -/
namespace M66
/-- a flock of degree two with the root a: its other root -b, its weights' polynomial y0 + y1 x -/
structure Fk2 (C : ICr) (a : Rat) (P Q : List Rat) (b y0 y1 : Rat) : Prop where
  R : P = [-(a * b), b - a, 1]
  W : Q = cln [y0, y1]
  n : a + b ≠ 0
  k0 : 2 * y0 + -(b - a) * y1 = mo C 0
  k1 : -(b - a) * y0 + ((b - a) ^ 2 - 2 * -(a * b)) * y1 = mo C 1
  sR : SzL 200 P
  sW : SzL 500000 [y0, y1]
structure Fk3 (C : ICr) (a : Rat) (P Q : List Rat) (b c y0 y1 y2 : Rat) : Prop where
  R : P = [-(a * c), c - a * b, b - a, 1]
  W : Q = cln [y0, y1, y2]
  n : a ^ 2 + b * a + c ≠ 0
  d : 0 < b * b - 4 * c
  k0 : 3 * y0 + -(b - a) * y1 + ((b - a) ^ 2 - 2 * (c - a * b)) * y2 = mo C 0
  k1 : -(b - a) * y0 + ((b - a) ^ 2 - 2 * (c - a * b)) * y1 + (-(b - a) ^ 3 + 3 * (c - a * b) * (b - a) - 3 * -(a * c)) * y2 = mo C 1
  k2 : ((b - a) ^ 2 - 2 * (c - a * b)) * y0 + (-(b - a) ^ 3 + 3 * (c - a * b) * (b - a) - 3 * -(a * c)) * y1 + ((b - a) ^ 4 - 4 * (b - a) ^ 2 * (c - a * b) + 2 * (c - a * b) ^ 2 + 4 * -(a * c) * (b - a)) * y2 = mo C 2
  sR : SzL 200 P
  sW : SzL 500000 [y0, y1, y2]
section
variable {C : ICr} {m : Nat} {a : Rat}
theorem fl_o1 (h : CrOk C) (h0 : 0 < mo C 0) (ha : Spt a) : FlAt (sumsC C 1) a (some ([-a, 1], cln [mo C 0])) := by
  have eB : BIG = 67000000 := rfl
  obtain ⟨f, hf⟩ := back_o1 h h0
  have e0 : nstep (L1 C) 0 = [-0, 1] := nst_L1 0
  have v0 : ev (nstep (L1 C) 0) a = a := by rw [e0, ev2]; grind
  have v1 : ev (lastS (L1 C)).1 a = 1 := ev1 a
  have ht : ev (nstep (L1 C) 0) a / ev (lastS (L1 C)).1 a = a := by rw [v0, v1]; grind
  have hE := evOk64 (p := [-0, 1]) (szl_of2 (Sz.neg sz0) (Sz.one (by decide))) (by show 2 ≤ 4; decide) ha
  obtain ⟨F1, F2⟩ := fbr1_ok (sums := sumsC C 1) (r0 := -a) (n := 64) (by decide) (by decide) (ha.sz.neg.mono (by decide)) (by rw [sumsC_length]; decide) (szl_sums h (by decide))
  have := FlAt.opn (sums := sumsC C 1) (a := a) (some := L1 C) (by rw [sumsC_length]) hf sts_o1 (evOk64 (szl_one (by decide)) (by show 1 ≤ 4; decide) ha) (by show mo C 0 ≠ 0; grind) (by rw [v1]; decide) (nok1 h (n := 64) (by decide) (by decide) sz0) (by rw [e0]; exact hE) (by rw [v0]; exact ha.sz.s (by omega)) (by rw [v1]; exact S.one) (by rw [ht]; exact nok1 h (n := 64) (by decide) (by decide) (ha.sz.mono (by decide))) (by rw [ht, nst_L1]; exact F1)
  rw [ht, nst_L1] at this
  unfold fbr at this
  rw [F2, cf_sums (by decide)] at this
  exact this
/-- sizes of the turn -/
theorem turn2 (h : CrOk C) (h0 : mo C 0 ≠ 0) (ha : Spt a) (hv : a - tt0 C ≠ 0) : Sz 26 (a - hh1 C / mo C 0 / (a - tt0 C)) ∧ Sz 20 (hh1 C / mo C 0) := by
  have hN : a * mo C 0 - mo C 1 ≠ 0 := by
    intro z
    have := t0_eq h0
    have : (a - tt0 C) * mo C 0 = 0 := by grind
    grind
  have e : hh1 C / mo C 0 / (a - tt0 C) = De2 C / (mo C 0 * (a * mo C 0 - mo C 1)) := by
    have k1 := t0_eq h0
    have k2 : (a - tt0 C) * mo C 0 = a * mo C 0 - mo C 1 := by grind
    rw [← k2]
    unfold hh1
    generalize a - tt0 C = d at *
    generalize De2 C = D
    grind
  have b1 : IB 12 (a * mo C 0 - mo C 1) := ((ha.ib.mul (ib0 h)).mono (by decide : 5 + 6 ≤ 11)).sub ((ib1 h).mono (by decide))
  have b2 : IB 20 (mo C 0 * (a * mo C 0 - mo C 1)) := ((ib0 h).mul b1).mono (by decide)
  have b3 : mo C 0 * (a * mo C 0 - mo C 1) ≠ 0 := by grind
  rw [e]
  refine ⟨(ha.sz.sub ((ibD2 h).div b2 b3 (by decide))).mono (by decide), ?_⟩
  have e2 : hh1 C / mo C 0 = De2 C / (mo C 0 * mo C 0) := by unfold hh1; grind
  rw [e2]
  exact (ibD2 h).div (((ib0 h).mul (ib0 h)).mono (by decide)) (by grind) (by decide)
theorem fl_o2 (h : CrOk C) (h0 : 0 < mo C 0) (h2 : 0 < De2 C) (ha : Spt a) : (FlAt (sumsC C 3) a none) ∨ ∃ P Q b y0 y1, FlAt (sumsC C 3) a (some (P, Q)) ∧ Fk2 C a P Q b y0 y1 ∧ mo C 2 + (b - a) * mo C 1 + -(a * b) * mo C 0 = 0 := by
  have eB : BIG = 67000000 := rfl
  have h0' : mo C 0 ≠ 0 := by grind
  have h1 : 0 < hh1 C := div_pos' h2 h0
  obtain ⟨f, hf⟩ := back_o2 h h0 h2
  have st := sts_o2 h h0
  have hp := szl_p1 h h0'
  have E := evOk64 hp (by show 2 ≤ 4; decide) ha
  have v1 : ev (lastS (L2 C)).1 a = a - tt0 C := by show ev [-tt0 C, 1] a = _; rw [ev2]; grind
  have z2 : (lastS (L2 C)).2 ≠ 0 := by show hh1 C ≠ 0; grind
  by_cases hv : a - tt0 C = 0
  · exact .inl (.no (some := L2 C) (by rw [sumsC_length]) hf st E z2 (by rw [v1]; exact hv))
  · obtain ⟨st1, st2⟩ := turn2 h h0' ha hv
    obtain ⟨N0, S0⟩ := nok2 h h0' (n := 64) (by decide) (by decide) sz0
    have v0 : ev (nstep (L2 C) 0) a = a * (a - tt0 C) - hh1 C / mo C 0 := by rw [nst_L2, ev3]; grind
    have ht : ev (nstep (L2 C) 0) a / ev (lastS (L2 C)).1 a = a - hh1 C / mo C 0 / (a - tt0 C) := by
      rw [v0, v1]
      generalize hh1 C / mo C 0 = p
      generalize a - tt0 C = d at *
      grind
    have hev0 : Sz 700 (ev (nstep (L2 C) 0) a) := by
      rw [v0]
      exact ((ha.sz.mul (ha.sz.sub (sz_tt0 h h0'))).sub st2).mono (by decide)
    have hevE : EvOk (nstep (L2 C) 0) a := by
      rw [nst_L2] at S0 ⊢
      exact evOk (n := 640) (m := 5) (by decide) (by decide) S0 ha.sz (by show 1 + 3 * (640 + 5 + 1) + 5 + 640 ≤ BIG; omega)
    generalize htd : a - hh1 C / mo C 0 / (a - tt0 C) = t at *
    have N1 := (nok2 h h0' (n := 64) (by decide) (by decide) (st1.mono (by decide) : Sz 64 t)).1
    have s0 := sz_tt0 h h0'
    have sr1 : Sz 64 (-(tt0 C + t)) := ((s0.add st1).neg).mono (by decide)
    have sr0 : Sz 64 (tt0 C * t - hh1 C / mo C 0) := ((s0.mul st1).sub st2).mono (by decide)
    obtain ⟨F1, y0, y1, F2, k0, k1, F3⟩ := fbr2_ok (sums := sumsC C 3) (n := 64) (by decide) (by decide) sr0 sr1 (dcL2 h0 h2 t) (by rw [sumsC_length]; decide) (szl_sums h (by decide))
    have A := FlAt.opn (sums := sumsC C 3) (a := a) (some := L2 C) (by rw [sumsC_length]) hf st E z2 (by rw [v1]; exact hv) N0 hevE (hev0.s (by omega)) (by rw [v1]; exact (ha.sz.sub s0).s (by omega)) (by rw [ht]; exact N1) (by rw [ht, nst_L2]; exact F1)
    rw [ht, nst_L2] at A
    unfold fbr at A
    rw [F2] at A
    rw [cf_sums (by decide)] at k0 k1
    have hroot : a ^ 2 + -(tt0 C + t) * a + (tt0 C * t - hh1 C / mo C 0) = 0 := by
      rw [← htd]
      generalize hh1 C / mo C 0 = p
      have : p / (a - tt0 C) * (a - tt0 C) = p := by grind
      generalize p / (a - tt0 C) = q at *
      grind
    have hd := dcL2 h0 h2 t
    have ho := orthR2 (t := t) h0'
    generalize -(tt0 C + t) = r1 at *
    generalize tt0 C * t - hh1 C / mo C 0 = r0 at *
    have er1 : r1 = (r1 + a) - a := by grind
    have er0 : r0 = -(a * (r1 + a)) := by grind
    refine .inr ⟨_, _, r1 + a, y0, y1, A, ⟨?_, rfl, ?_, ?_, ?_, fun c hc => (szl_of3 sr0 sr1 (Sz.one (by decide)) c hc).mono (by decide), fun c hc => (F3 c hc).mono (by decide)⟩, by rw [← er1, ← er0]; exact ho⟩
    · rw [← er1, ← er0]
    · intro z
      unfold dc2 at hd
      have : r1 * r1 - 4 * r0 = (a + (r1 + a)) * (a + (r1 + a)) := by rw [er0]; grind
      rw [this, z] at hd
      grind
    · rw [← er1]
      exact k0
    · rw [← er1, ← er0]
      exact k1
theorem div_of {x n d : Rat} (hd : d ≠ 0) (h : x * d = n) : x = n / d := by
  subst h
  grind
theorem quo1 {D3 D2 s0 : Rat} (h2 : D2 ≠ 0) (h0 : s0 ≠ 0) : D3 / D2 / (D2 / s0) = D3 * s0 / (D2 * D2) := by
  have a1 : D3 / D2 * D2 = D3 := by grind
  have a2 : D2 / s0 * s0 = D2 := by grind
  have a3 : D2 / s0 ≠ 0 := by
    intro z
    rw [z] at a2
    grind
  generalize D3 / D2 = u1 at *
  generalize D2 / s0 = g at *
  have a4 : u1 / g * g = u1 := by grind
  generalize u1 / g = w1 at *
  refine div_of (by grind) ?_
  grind
/-- sizes of the third turn -/
theorem turn3 (h : CrOk C) (h0 : mo C 0 ≠ 0) (h2 : De2 C ≠ 0) (ha : Spt a) (hv : pp2 C a ≠ 0) : Sz 64 (a - hh2 C / hh1 C * (a - tt0 C) / pp2 C a) ∧ Sz 51 (hh2 C / hh1 C) := by
  have e1 : pp2 C a * De2 C = (mo C 1 * mo C 3 - mo C 2 * mo C 2) + (mo C 1 * mo C 2 - mo C 0 * mo C 3) * a + a * a * De2 C := by
    unfold pp2 ee0 ee1
    grind
  have ib0' := ib0 h
  have b1 : IB 12 (a * mo C 0 - mo C 1) := ((ha.ib.mul ib0').mono (by decide : 5 + 6 ≤ 11)).sub ((ib1 h).mono (by decide))
  have c0 : IB 27 (mo C 1 * mo C 3 - mo C 2 * mo C 2) := (((ib1 h).mul (ib3 h)).mono (by decide : 9 + 17 ≤ 26)).sub ((ib2 h).mul (ib2 h))
  have c1 : IB 24 (mo C 1 * mo C 2 - mo C 0 * mo C 3) := (((ib1 h).mul (ib2 h)).mono (by decide : 9 + 13 ≤ 23)).sub ((ib0 h).mul (ib3 h))
  have c2 : IB 32 (pp2 C a * De2 C) := by
    rw [e1]
    exact ((c0.mono (by decide : 27 ≤ 30)).add ((c1.mul ha.ib).mono (by decide))).add (((ha.ib.mul ha.ib).mul (ibD2 h)).mono (by decide))
  have nz : pp2 C a * De2 C ≠ 0 := by grind
  have n1 : De2 C * (pp2 C a * De2 C) ≠ 0 := by grind
  have e2 : hh2 C / hh1 C * (a - tt0 C) / pp2 C a = De3 C * (a * mo C 0 - mo C 1) / (De2 C * (pp2 C a * De2 C)) := by
    have k1 := t0_eq h0
    have k2 : a * mo C 0 - mo C 1 = (a - tt0 C) * mo C 0 := by grind
    rw [k2]
    unfold hh2 hh1
    have q := quo1 (D3 := De3 C) h2 h0
    rw [q]
    refine div_of n1 ?_
    have q2 : De3 C * mo C 0 / (De2 C * De2 C) * (De2 C * De2 C) = De3 C * mo C 0 := by
      generalize De3 C * mo C 0 = X
      have : De2 C * De2 C ≠ 0 := by grind
      generalize De2 C * De2 C = Y at *
      grind
    generalize De3 C * mo C 0 / (De2 C * De2 C) = Z at *
    have q3 : Z * (a - tt0 C) / pp2 C a * pp2 C a = Z * (a - tt0 C) := by
      generalize Z * (a - tt0 C) = V
      grind
    generalize Z * (a - tt0 C) / pp2 C a = U at *
    have : U * (De2 C * (pp2 C a * De2 C)) = (U * pp2 C a) * (De2 C * De2 C) := by grind
    rw [this, q3]
    have : Z * (a - tt0 C) * (De2 C * De2 C) = (Z * (De2 C * De2 C)) * (a - tt0 C) := by grind
    rw [this, q2]
    grind
  have e3 : hh2 C / hh1 C = De3 C * mo C 0 / (De2 C * De2 C) := by
    unfold hh2 hh1
    exact quo1 h2 h0
  rw [e2]
  refine ⟨(ha.sz.sub ((((ibD3 h).mul b1).mono (by decide : 45 + 12 ≤ 57)).div (((ibD2 h).mul c2).mono (by decide)) n1 (by decide))).mono (by decide), ?_⟩
  rw [e3]
  exact (((ibD3 h).mul (ib0 h)).mono (by decide : 45 + 6 ≤ 51)).div (((ibD2 h).mul (ibD2 h)).mono (by decide)) (by grind) (by decide)
theorem fl_o3 (h : CrOk C) (h0 : 0 < mo C 0) (h2 : 0 < De2 C) (h3 : 0 < De3 C) (ha : Spt a) : (FlAt (sumsC C 5) a none) ∨ ∃ P Q b c y0 y1 y2, FlAt (sumsC C 5) a (some (P, Q)) ∧ Fk3 C a P Q b c y0 y1 y2 ∧ ∃ t, P = nstep (L3 C) t := by
  have eB : BIG = 67000000 := rfl
  have h0' : mo C 0 ≠ 0 := by grind
  have h2' : De2 C ≠ 0 := by grind
  have h1 : 0 < hh1 C := div_pos' h2 h0
  have hh : 0 < hh2 C := div_pos' h3 h2
  have h1' : hh1 C ≠ 0 := by grind
  obtain ⟨f, hf⟩ := back_o3 h h0 h2 h3
  have st := sts_o3 h h0 h2
  have hp := szl_p2 h h2'
  have E := evOk64 hp (by show 3 ≤ 4; decide) ha
  have v1 : ev (lastS (L3 C)).1 a = pp2 C a := by show ev [ee0 C, ee1 C, 1] a = _; rw [ev3]; unfold pp2; grind
  have z2 : (lastS (L3 C)).2 ≠ 0 := by show hh2 C ≠ 0; grind
  by_cases hv : pp2 C a = 0
  · exact .inl (.no (some := L3 C) (by rw [sumsC_length]) hf st E z2 (by rw [v1]; exact hv))
  · obtain ⟨st1, st2⟩ := turn3 h h0' h2' ha hv
    obtain ⟨N0, S0⟩ := nok3 h h0' h2' h1' (n := 64) (by decide) (by decide) sz0
    have v0 : ev (nstep (L3 C) 0) a = a * pp2 C a - hh2 C / hh1 C * (a - tt0 C) := by
      rw [nst_L3, ev4]
      generalize hh2 C / hh1 C = r
      unfold pp2
      grind
    have ht : ev (nstep (L3 C) 0) a / ev (lastS (L3 C)).1 a = a - hh2 C / hh1 C * (a - tt0 C) / pp2 C a := by
      rw [v0, v1]
      generalize hh2 C / hh1 C * (a - tt0 C) = p
      generalize pp2 C a = d at *
      grind
    have s0 := sz_tt0 h h0'
    have q0 := sz_ee0 h h2'
    have q1 := sz_ee1 h h2'
    have spp : Sz 300 (pp2 C a) := by
      have e : pp2 C a = ee0 C + ee1 C * a + a * a := by unfold pp2; grind
      rw [e]
      exact ((q0.add (q1.mul ha.sz)).add (ha.sz.mul ha.sz)).mono (by decide)
    have hev0 : Sz 700 (ev (nstep (L3 C) 0) a) := by
      rw [v0]
      exact ((ha.sz.mul spp).sub (st2.mul (ha.sz.sub s0))).mono (by decide)
    have hevE : EvOk (nstep (L3 C) 0) a := by
      rw [nst_L3] at S0 ⊢
      exact evOk (n := 640) (m := 5) (by decide) (by decide) S0 ha.sz (by show 1 + 4 * (640 + 5 + 1) + 5 + 640 ≤ BIG; omega)
    generalize htd : a - hh2 C / hh1 C * (a - tt0 C) / pp2 C a = t at *
    have N1 := (nok3 h h0' h2' h1' (n := 64) (by decide) (by decide) st1).1
    have sr2 : Sz 200 (ee1 C - t) := (q1.sub st1).mono (by decide)
    have sr1 : Sz 200 (ee0 C - t * ee1 C - hh2 C / hh1 C) := ((q0.sub (st1.mul q1)).sub st2).mono (by decide)
    have sr0 : Sz 200 (-(t * ee0 C) + hh2 C / hh1 C * tt0 C) := ((st1.mul q0).neg.add (st2.mul s0)).mono (by decide)
    obtain ⟨d1, d2⟩ := dcL3 h0 h2 h3 t
    obtain ⟨F1, y0, y1, y2, F2, k0, k1, k2, F3⟩ := fbr3_ok (sums := sumsC C 5) (n := 200) (by decide) (by decide) sr0 sr1 sr2 d1 d2 (by rw [sumsC_length]; decide) (szl_sums h (by decide))
    have A := FlAt.opn (sums := sumsC C 5) (a := a) (some := L3 C) (by rw [sumsC_length]) hf st E z2 (by rw [v1]; exact hv) N0 hevE (hev0.s (by omega)) (by rw [v1]; exact spp.s (by omega)) (by rw [ht]; exact N1) (by rw [ht, nst_L3]; exact F1)
    rw [ht, nst_L3] at A
    unfold fbr at A
    rw [F2] at A
    rw [cf_sums (by decide)] at k0 k1 k2
    have hroot : a ^ 3 + (ee1 C - t) * a ^ 2 + (ee0 C - t * ee1 C - hh2 C / hh1 C) * a + (-(t * ee0 C) + hh2 C / hh1 C * tt0 C) = 0 := by
      have hp2 : pp2 C a = ee0 C + ee1 C * a + a ^ 2 := rfl
      rw [← htd]
      generalize hh2 C / hh1 C = r at *
      have : r * (a - tt0 C) / pp2 C a * pp2 C a = r * (a - tt0 C) := by grind
      generalize r * (a - tt0 C) / pp2 C a = q at *
      rw [hp2] at this
      grind
    have eP := (nst_L3 (C := C) t).symm
    generalize ee1 C - t = r2 at *
    generalize ee0 C - t * ee1 C - hh2 C / hh1 C = r1 at *
    generalize -(t * ee0 C) + hh2 C / hh1 C * tt0 C = r0 at *
    have er2 : r2 = (r2 + a) - a := by grind
    have er1 : r1 = (r1 + a * (r2 + a)) - a * (r2 + a) := by grind
    have er0 : r0 = -(a * (r1 + a * (r2 + a))) := by grind
    have hd : dc3 r0 r1 r2 = (a ^ 2 + (r2 + a) * a + (r1 + a * (r2 + a))) * (a ^ 2 + (r2 + a) * a + (r1 + a * (r2 + a))) * ((r2 + a) * (r2 + a) - 4 * (r1 + a * (r2 + a))) := by
      rw [er0]
      unfold dc3
      grind
    rw [hd] at d1
    have nq : a ^ 2 + (r2 + a) * a + (r1 + a * (r2 + a)) ≠ 0 := by
      intro z
      rw [z] at d1
      grind
    refine .inr ⟨_, _, r2 + a, r1 + a * (r2 + a), y0, y1, y2, A, ⟨?_, rfl, nq, ?_, ?_, ?_, ?_, fun c hc => szl_of4 sr0 sr1 sr2 (Sz.one (by decide)) c hc, fun c hc => (F3 c hc).mono (by decide)⟩, t, eP⟩
    · rw [← er0, ← er1, ← er2]
    · generalize a ^ 2 + (r2 + a) * a + (r1 + a * (r2 + a)) = q at *
      generalize (r2 + a) * (r2 + a) - 4 * (r1 + a * (r2 + a)) = D at *
      have hq2 := sq0 q
      by_cases hD : 0 < D
      · exact hD
      · have : 0 ≤ q * q * (-D) := Rat.mul_nonneg hq2 (by grind)
        grind
    · rw [← er1, ← er2]
      exact k0
    · rw [← er0, ← er1, ← er2]
      exact k1
    · rw [← er0, ← er1, ← er2]
      exact k2
end
end M66
/-! The plain law, part 17: flock_at at tight crowds. -/
namespace M66
section
variable {C : ICr} {m : Nat} {a x y z u v w : Rat}
theorem fl_t1 (h : CrOk C) (hC : One C x w) (hL : ∀ φ : Rat → Rat, LC C φ = w * φ x) (hm3 : 3 ≤ m) (hm : m ≤ 11) (hodd : m % 2 = 1) (ha : Spt a) : (a = x ∧ FlAt (sumsC C m) a (some ([-a, 1], cln [mo C 0]))) ∨ (a ≠ x ∧ FlAt (sumsC C m) a none) := by
  have h0' : mo C 0 ≠ 0 := by have := hC.m0; grind
  have hb := back_t1 h hC hL hm3 hm
  have st := sts_t1 h hC hm3 hm
  have hz : hh1 C = 0 := by unfold hh1; rw [hC.d2]; grind
  have hp := szl_p1 h h0'
  have e : tt0 C = x := hC.tt0
  have E := evOk64 hp (by show 2 ≤ 4; decide) ha
  have hev : ev (lastS (L2 C)).1 a = a - x := by show ev [-tt0 C, 1] a = _; rw [ev2, e]; grind
  by_cases hax : a = x
  · refine .inl ⟨hax, ?_⟩
    have hb' : Back (sumsC C m) (.flock ([-x, 1], cln [mo C 0])) := by
      have F2 := (fbr1_ok (sums := sumsC C m) (r0 := -x) (n := 64) (by decide) (by decide) (by have := hp (-tt0 C) (by simp); rwa [e] at this) (by rw [sumsC_length]; omega) (szl_sums h hm)).2
      unfold fbr at hb
      rw [F2, cf_sums (by omega)] at hb
      exact hb
    rw [hax]
    exact .tin (some := L2 C) (by rw [sumsC_length]; exact hodd) hb' st (hax ▸ E) hz (by rw [← hax, hev]; grind)
  · exact .inr ⟨hax, .tout (some := L2 C) (by rw [sumsC_length]; exact hodd) hb st E hz (by rw [hev]; grind)⟩
theorem fl_t2 (h : CrOk C) (hC : Two C x y v w) (hL : ∀ φ : Rat → Rat, LC C φ = v * φ x + w * φ y) (hm5 : 5 ≤ m) (hm : m ≤ 11) (hodd : m % 2 = 1) (ha : Spt a) : ((a = x ∨ a = y) ∧ ∃ P Q b y0 y1, FlAt (sumsC C m) a (some (P, Q)) ∧ Fk2 C a P Q b y0 y1 ∧ P = [x * y, -(x + y), 1]) ∨ (a ≠ x ∧ a ≠ y ∧ FlAt (sumsC C m) a none) := by
  have h2' : De2 C ≠ 0 := by have := hC.d2; grind
  have hb := back_t2 h hC hL hm5 hm
  have st := sts_t2 h hC hm5 hm
  have hp := szl_p2 h h2'
  obtain ⟨e0, e1⟩ := hC.p2
  have hlt := hC.lt
  have E := evOk64 hp (by show 3 ≤ 4; decide) ha
  have hev : ev (lastS (L3 C)).1 a = (a - x) * (a - y) := by show ev [ee0 C, ee1 C, 1] a = _; rw [ev3, e0, e1]; grind
  by_cases hax : a = x ∨ a = y
  · refine .inl ⟨hax, ?_⟩
    have hd : 0 < dc2 (x * y) (-(x + y)) := by
      unfold dc2
      have : 0 < (y - x) * (y - x) := Rat.mul_pos (by grind) (by grind)
      grind
    rw [e0, e1] at hp
    obtain ⟨F1, y0, y1, F2, k0, k1, F3⟩ := fbr2_ok (sums := sumsC C m) (n := 64) (by decide) (by decide) (hp (x * y) (by simp)) (hp (-(x + y)) (by simp)) hd (by rw [sumsC_length]; omega) (szl_sums h hm)
    unfold fbr at hb
    rw [F2] at hb
    rw [cf_sums (by omega)] at k0 k1
    have A := FlAt.tin (a := a) (some := L3 C) (by rw [sumsC_length]; exact hodd) hb st E hC.hh2 (by rw [hev]; rcases hax with r | r <;> rw [r] <;> grind)
    have er0 : x * y = -(a * (a - (x + y))) := by rcases hax with r | r <;> rw [r] <;> grind
    have er1 : -(x + y) = (a - (x + y)) - a := by grind
    refine ⟨_, _, a - (x + y), y0, y1, A, ⟨by rw [← er0, ← er1], rfl, ?_, ?_, ?_, fun c hc => (hp c hc).mono (by decide), fun c hc => (F3 c hc).mono (by decide)⟩, rfl⟩
    · rcases hax with r | r <;> rw [r] <;> grind
    · rw [← er1]
      exact k0
    · rw [← er1, ← er0]
      exact k1
  · have n1 : a ≠ x := fun z => hax (.inl z)
    have n2 : a ≠ y := fun z => hax (.inr z)
    exact .inr ⟨n1, n2, .tout (some := L3 C) (by rw [sumsC_length]; exact hodd) hb st E hC.hh2 (by rw [hev]; grind)⟩
theorem fl_t3 (h : CrOk C) (hC : Thr C x y z u v w) (hx : Spt x) (hy : Spt y) (hzz : Spt z) (hL : ∀ φ : Rat → Rat, LC C φ = u * φ x + v * φ y + w * φ z) (hm7 : 7 ≤ m) (hm : m ≤ 11) (hodd : m % 2 = 1) (ha : Spt a) : ((a = x ∨ a = y ∨ a = z) ∧ ∃ P Q b c y0 y1 y2, FlAt (sumsC C m) a (some (P, Q)) ∧ Fk3 C a P Q b c y0 y1 y2 ∧ P = pp3 x y z) ∨ (a ≠ x ∧ a ≠ y ∧ a ≠ z ∧ FlAt (sumsC C m) a none) := by
  have hb := back_t3 h hC hx hy hzz hL hm7 hm
  have st := sts_t3 h hC hx hy hzz hL hm7 hm
  have hp := szl_pp3 hx hy hzz
  have l1 := hC.lt1
  have l2 := hC.lt2
  have E := evOk64 hp (by show 4 ≤ 4; decide) ha
  have hev : ev (lastS (L4 C x y z)).1 a = (a - x) * (a - y) * (a - z) := ev_pp3 x y z a
  by_cases hax : a = x ∨ a = y ∨ a = z
  · refine .inl ⟨hax, ?_⟩
    obtain ⟨d1, d2⟩ := dc_pp3 l1 l2
    obtain ⟨F1, y0, y1, y2, F2, k0, k1, k2, F3⟩ := fbr3_ok (sums := sumsC C m) (n := 64) (by decide) (by decide) (hp _ (by simp [pp3])) (hp _ (by simp [pp3])) (hp _ (by simp [pp3])) d1 d2 (by rw [sumsC_length]; omega) (szl_sums h hm)
    have F2' : slv (fbrRows (sumsC C m) (pp3 x y z)) = [y0, y1, y2] := F2
    unfold fbr at hb
    rw [F2'] at hb
    rw [cf_sums (by omega)] at k0 k1 k2
    have A := FlAt.tin (a := a) (some := L4 C x y z) (by rw [sumsC_length]; exact hodd) hb st E rfl (by rw [hev]; rcases hax with r | r | r <;> rw [r] <;> grind)
    have hr : a ^ 3 + -(x + y + z) * a ^ 2 + (x * y + x * z + y * z) * a + -(x * y * z) = 0 := by rcases hax with r | r | r <;> rw [r] <;> grind
    have eP : pp3 x y z = [-(x * y * z), x * y + x * z + y * z, -(x + y + z), 1] := rfl
    rw [eP] at A hp
    generalize -(x + y + z) = r2 at *
    generalize x * y + x * z + y * z = r1 at *
    generalize -(x * y * z) = r0 at *
    have er2 : r2 = (r2 + a) - a := by grind
    have er1 : r1 = (r1 + a * (r2 + a)) - a * (r2 + a) := by grind
    have er0 : r0 = -(a * (r1 + a * (r2 + a))) := by grind
    have hd : dc3 r0 r1 r2 = (a ^ 2 + (r2 + a) * a + (r1 + a * (r2 + a))) * (a ^ 2 + (r2 + a) * a + (r1 + a * (r2 + a))) * ((r2 + a) * (r2 + a) - 4 * (r1 + a * (r2 + a))) := by
      rw [er0]
      unfold dc3
      grind
    rw [hd] at d1
    have nq : a ^ 2 + (r2 + a) * a + (r1 + a * (r2 + a)) ≠ 0 := by
      intro z
      rw [z] at d1
      grind
    refine ⟨_, _, r2 + a, r1 + a * (r2 + a), y0, y1, y2, A, ⟨?_, rfl, nq, ?_, ?_, ?_, ?_, fun c hc => (hp c hc).mono (by decide), fun c hc => (F3 c hc).mono (by decide)⟩, eP.symm⟩
    · rw [← er0, ← er1, ← er2]
    · generalize a ^ 2 + (r2 + a) * a + (r1 + a * (r2 + a)) = q at *
      generalize (r2 + a) * (r2 + a) - 4 * (r1 + a * (r2 + a)) = D at *
      have hq2 := sq0 q
      by_cases hD : 0 < D
      · exact hD
      · have : 0 ≤ q * q * (-D) := Rat.mul_nonneg hq2 (by grind)
        grind
    · rw [← er1, ← er2]
      exact k0
    · rw [← er0, ← er1, ← er2]
      exact k1
    · rw [← er0, ← er1, ← er2]
      exact k2
  · have n1 : a ≠ x := fun z => hax (.inl z)
    have n2 : a ≠ y := fun z => hax (.inr (.inl z))
    have n3 : a ≠ z := fun z => hax (.inr (.inr z))
    exact .inr ⟨n1, n2, n3, .tout (some := L4 C x y z) (by rw [sumsC_length]; exact hodd) hb st E rfl (by rw [hev]; grind)⟩
end
end M66
/-! The plain law, part 18: division, plain parts, chains. -/
namespace M66
theorem rai0 (f : List Rat) : rai f 0 = f := by
  unfold rai
  split
  · rename_i h
    exact h.symm
  · rfl
theorem part_A {g r q : List Rat} (hg : g ≠ []) (h0 : lst g ≠ 0) (hr : Nrm r) (hl : r.length ≤ g.length) (n : Nat) : (partF g (n + 2) q r).2 = subP r (scl g (cf r (g.length - 1) / lst g)) := by
  rw [show n + 2 = (n + 1) + 1 by omega]
  unfold partF
  have hgl : 0 < g.length := List.length_pos_iff.mpr hg
  split
  · rename_i h
    have e : r.length = g.length := by omega
    have hrn : r ≠ [] := by
      intro z
      rw [z] at e
      simp at e
      omega
    have h1 := part_less hg h0 h
    have h2 : divPt g r = scl (pwr 0) (cf r (g.length - 1) / lst g) := by
      unfold divPt divC
      rw [lst_eq hrn, e, Nat.sub_self]
    have h3 : mulP g (divPt g r) = scl g (cf r (g.length - 1) / lst g) := by rw [h2, mul_mono, rai0]
    rw [h3] at h1 ⊢
    unfold partF
    rw [if_neg (by omega)]
  · rename_i h
    have hz : cf r (g.length - 1) = 0 := cf_of_le (by omega)
    rw [hz]
    refine nrm_ext hr (nrm_subP _ _) fun i => ?_
    rw [cf_subP, cf_scl]
    grind
theorem part_B {g r q : List Rat} (hg : g ≠ []) (h0 : lst g ≠ 0) (hl : r.length = g.length + 1) (n : Nat) : (partF g (n + 3) q r).2 = subP (subP r (rai (scl g (lst r / lst g)) 1)) (scl g (cf (subP r (rai (scl g (lst r / lst g)) 1)) (g.length - 1) / lst g)) := by
  have h1 := part_less (r := r) hg h0 (by omega)
  have h3 : mulP g (divPt g r) = rai (scl g (lst r / lst g)) 1 := by
    unfold divPt divC
    rw [mul_mono, show r.length - g.length = 1 by omega]
  rw [h3] at h1
  rw [show n + 3 = (n + 2) + 1 by omega]
  conv => lhs; unfold partF
  rw [if_pos (by omega), h3]
  exact part_A hg h0 (nrm_subP _ _) (by omega) n
/-- by a number -/
theorem part_c (f : List Rat) {c : Rat} (hc : c ≠ 0) : (partP f [c]).2 = [] := by
  have := partF_len (g := [c]) (by simp) (by show c ≠ 0; exact hc) (f.length + 1) [] f (by omega)
  unfold partP
  exact List.eq_nil_of_length_eq_zero (by simp at this ⊢; omega)
theorem partF_one : ∀ (n : Nat) (q r : List Rat) (i : Nat), cf (partF [1] n q r).1 i + cf (partF [1] n q r).2 i = cf q i + cf r i
  | 0, _, _, _ => rfl
  | n + 1, q, r, i => by
    unfold partF
    split
    · have h1 : mulP [1] (divPt [1] r) = divPt [1] r := by
        unfold divPt
        rw [mul_mono]
        refine nrm_ext (nrm_rai (nrm_scl _ _) _) (nrm_scl _ _) fun j => ?_
        rw [cf_rai, cf_scl, scl_pwr_cf]
        split
        · rw [if_neg (by omega)]
        · by_cases e : j = r.length - ([1] : List Rat).length
          · rw [if_pos e, e, Nat.sub_self]
            show (1 : Rat) * _ = _
            grind
          · rw [if_neg e, cf_of_le (by show 1 ≤ _; omega)]
            grind
      rw [partF_one n, cf_addP, cf_subP, h1]
      grind
    · rfl
theorem part_1 {f : List Rat} (hf : Nrm f) : (partP f [1]).1 = f := by
  have hc : (1 : Rat) ≠ 0 := by decide
  have h := part_c f hc
  unfold partP at h ⊢
  refine nrm_ext (partF_nrm _ _ _ (.inl rfl) hf).1 hf fun i => ?_
  have := partF_one (f.length + 1) [] f i
  rw [h, cf_nil] at this
  grind
theorem lst2 (a b : Rat) : lst [a, b] = b := rfl
theorem lst3 (a b c : Rat) : lst [a, b, c] = c := rfl
theorem lst4 (a b c d : Rat) : lst [a, b, c, d] = d := rfl
theorem lst1 (a : Rat) : lst [a] = a := rfl
/-- three by two -/
theorem part_32 {a0 a1 a2 l0 l1 : Rat} (h1 : l1 ≠ 0) : (partP [a0, a1, a2] [l0, l1]).2 = cln [a0 - a1 * (l0 / l1) + a2 * (l0 / l1) * (l0 / l1)] := by
  show (partF [l0, l1] 4 [] [a0, a1, a2]).2 = _
  rw [part_B (by simp) (by rw [lst2]; exact h1) rfl 1]
  refine nrm_ext (nrm_subP _ _) (nrm_cln _) fun i => ?_
  rw [cf_cln, lst2, lst3]
  have e : l0 / l1 * l1 = l0 := by grind
  have e2 : a2 / l1 * l1 = a2 := by grind
  simp only [cf_subP, cf_rai, cf_scl]
  match i with
  | 0 =>
    simp [cf]
    have e3 : (a1 - l0 * (a2 / l1)) / l1 * l1 = a1 - l0 * (a2 / l1) := by grind
    generalize (a1 - l0 * (a2 / l1)) / l1 = k at *
    generalize a2 / l1 = m at *
    generalize l0 / l1 = j at *
    grind
  | 1 =>
    simp [cf]
    generalize l0 * (a2 / l1) = k at *
    grind
  | 2 =>
    simp [cf]
    grind
  | i + 3 => simp [cf]; grind
/-- four by three, a polynomial by its slope -/
theorem part_43 (r0 r1 r2 : Rat) : (partP [r0, r1, r2, 1] [r1, 2 * r2, 3]).2 = cln [r0 - r1 * r2 / 9, 2 / 3 * r1 - 2 / 9 * r2 ^ 2] := by
  show (partF [r1, 2 * r2, 3] 5 [] [r0, r1, r2, 1]).2 = _
  rw [part_B (by simp) (by rw [lst3]; decide) rfl 2]
  refine nrm_ext (nrm_subP _ _) (nrm_cln _) fun i => ?_
  rw [cf_cln, lst3, lst4]
  simp only [cf_subP, cf_rai, cf_scl]
  match i with
  | 0 => simp [cf]; grind
  | 1 => simp [cf]; grind
  | 2 => simp [cf]; grind
  | 3 => simp [cf]; grind
  | i + 4 => simp [cf]; grind
theorem slp4 (r0 r1 r2 : Rat) : slp [r0, r1, r2, 1] = [r1, 2 * r2, 3] := by
  unfold slp
  rw [show ([r0, r1, r2, 1].zipIdx.map fun z => z.1 * (z.2 : Rat)).drop 1 = [r1 * ((1 : Nat) : Rat), r2 * ((2 : Nat) : Rat), 1 * ((3 : Nat) : Rat)] from rfl]
  have e : [r1 * ((1 : Nat) : Rat), r2 * ((2 : Nat) : Rat), 1 * ((3 : Nat) : Rat)] = [r1, 2 * r2, 3] := by
    congr 1
    · show r1 * 1 = r1; grind
    · show [r2 * 2, 1 * 3] = _
      rw [show r2 * 2 = 2 * r2 by grind, Rat.one_mul]
  rw [e]
  exact cln_nrm (.inr (by rw [lst3]; decide))
theorem slp3 (r0 r1 : Rat) : slp [r0, r1, 1] = [r1, 2] := by
  unfold slp
  rw [show ([r0, r1, 1].zipIdx.map fun z => z.1 * (z.2 : Rat)).drop 1 = [r1 * ((1 : Nat) : Rat), 1 * ((2 : Nat) : Rat)] from rfl]
  have e : [r1 * ((1 : Nat) : Rat), 1 * ((2 : Nat) : Rat)] = [r1, 2] := by
    show [r1 * 1, 1 * 2] = _
    rw [Rat.mul_one, Rat.one_mul]
  rw [e]
  exact cln_nrm (.inr (by rw [lst2]; decide))
theorem slp2 (r0 : Rat) : slp [r0, 1] = [1] := by
  unfold slp
  rw [show ([r0, 1].zipIdx.map fun z => z.1 * (z.2 : Rat)).drop 1 = [1 * ((1 : Nat) : Rat)] from rfl]
  show cln [1 * 1] = [1]
  rw [Rat.one_mul]
  exact cln_nrm (f := [1]) (.inr (by rw [lst1]; decide))
theorem cln1 {k : Rat} (h : k ≠ 0) : cln [k] = [k] := cln_nrm (.inr h)
theorem cln2 {j k : Rat} (h : k ≠ 0) : cln [j, k] = [j, k] := cln_nrm (.inr h)
theorem neg1 {k : Rat} (h : k ≠ 0) : neg [k] = [-k] := by
  unfold neg scl
  rw [show [k].map (· * -1) = [k * -1] from rfl, show k * -1 = -k by grind]
  exact cln1 (by grind)
theorem neg2 {j k : Rat} (h : k ≠ 0) : neg [j, k] = [-j, -k] := by
  unfold neg scl
  rw [show [j, k].map (· * -1) = [j * -1, k * -1] from rfl, show k * -1 = -k by grind, show j * -1 = -j by grind]
  exact cln2 (by grind)
end M66
/-! The plain law, part 19: chains of degree one, two, three. -/
namespace M66
theorem partOk_of {g r : List Rat} {a m : Nat} (ha : 0 < a) (hm : 0 < m) (hr : SzL a r) (hg : SzL m g) (lr : r.length ≤ 4) (lg : g.length ≤ 4) (hB : a + 3 * m ≤ 200000) : PartOk g (r.length + 1) [] r := by
  have eB : BIG = 67000000 := rfl
  refine (part_sizes hm hg (r.length + 1) a 1 [] r ha (by decide) hr szl_nil (by omega) (by omega) ?_).1
  have h3 : 3 ^ (r.length + 1) ≤ 3 ^ 5 := Nat.pow_le_pow_right (by decide) (by omega)
  have := Nat.mul_le_mul_right (a + 3 * m + 1 + 3) h3
  omega
/-- what a polynomial's chain is and asks -/
structure Chn (f : List Rat) (ch : List (List Rat)) : Prop where
  ne : f ≠ []
  lf : f.length ≤ 4
  sf : SzL 200 f
  l1 : lst f = 1
  pl : PlainOk f
  eq : plainP f = f
  ck : ChainOk (f.length + 1) f (slp f)
  ce : chainP f = ch
  sz : ∀ g ∈ ch, g ≠ [] ∧ SzL 6000 g ∧ g.length ≤ 4
  len : ch.length ≤ 4
theorem neg_nil : neg [] = [] := rfl
theorem plain_of {f : List Rat} {k : Rat} (hf : SzL 200 f) (lf : f.length ≤ 4) (h1 : lst f = 1) (hk : k ≠ 0) (sk : Sz 6000 k) (hs : SharOk ((slp f).length + 1) f (slp f)) (he : sharF ((slp f).length + 1) f (slp f) = [k]) : PlainOk f ∧ plainP f = f := by
  have eB : BIG = 67000000 := rfl
  have e1 : sharP f (slp f) = [1] := by
    unfold sharP
    rw [he]
    show [k / k] = [1]
    rw [show k / k = 1 by grind]
  constructor
  · refine ⟨hf.sl (by omega), by omega, hs, ?_, ?_, ?_, ?_, ?_, ?_, ?_⟩
    · rw [he]
      intro c hc
      simp at hc
      subst hc
      exact sk.s (by omega)
    · rw [he]
      simp
    · rw [he]
      exact .inr hk
    · rw [e1]
      simp
    · rw [e1]
      decide
    · rw [e1]
      simp
    · rw [e1]
      exact partOk_of (a := 200) (m := 1) (by decide) (by decide) hf (szl_one (by decide)) lf (by simp) (by decide)
  · unfold plainP
    rw [e1]
    exact part_1 (.inr (by rw [h1]; decide))
theorem chn1 {r0 : Rat} (h0 : Sz 200 r0) : Chn [r0, 1] [[r0, 1], [1]] := by
  have eB : BIG = 67000000 := rfl
  have hf : SzL 200 [r0, 1] := szl_of2 h0 (Sz.one (by decide))
  have h1 : SzL 200 [1] := szl_one (by decide)
  have p := part_c [r0, 1] (c := 1) (by decide)
  have pk : PartOk [1] ([r0, 1].length + 1) [] [r0, 1] := partOk_of (a := 200) (m := 200) (by decide) (by decide) hf h1 (by simp) (by simp) (by decide)
  have es : slp [r0, 1] = [1] := slp2 r0
  obtain ⟨q1, q2⟩ := plain_of hf (by simp) rfl (k := 1) (by decide) (Sz.one (by decide)) (by
    rw [es]
    refine .inr ⟨by decide, by simp, by simp, pk, ?_⟩
    rw [p]
    exact .inl rfl) (by
    rw [es]
    show sharF 2 [r0, 1] [1] = [1]
    unfold sharF
    rw [if_neg (by simp), p]
    unfold sharF
    rw [if_pos rfl])
  refine ⟨by simp, by simp, hf, rfl, q1, q2, ?_, ?_, ?_, by simp⟩
  · rw [es]
    refine .inr ⟨by decide, by simp, by simp, by simp, pk, ?_, ?_⟩
    · rw [p]
      exact fun c hc => nomatch hc
    · rw [p]
      exact .inl rfl
  · unfold chainP
    rw [es]
    show [r0, 1] :: chainF 3 [r0, 1] [1] = _
    unfold chainF
    rw [if_neg (by simp), p]
    unfold chainF
    rw [neg_nil, if_pos rfl]
  · intro g hg
    simp at hg
    rcases hg with rfl | rfl
    · exact ⟨by simp, hf.mono (by decide), by simp⟩
    · exact ⟨by simp, h1.mono (by decide), by simp⟩
theorem chn2 {r0 r1 : Rat} (h0 : Sz 200 r0) (h1 : Sz 200 r1) (hd : 0 < dc2 r0 r1) : Chn [r0, r1, 1] [[r0, r1, 1], [r1, 2], [dc2 r0 r1 / 4]] := by
  have eB : BIG = 67000000 := rfl
  have hf : SzL 200 [r0, r1, 1] := szl_of3 h0 h1 (Sz.one (by decide))
  have hf1 : SzL 200 [r1, 2] := szl_of2 h1 (sz2.mono (by decide))
  have hk0 : -(dc2 r0 r1 / 4) ≠ 0 := by grind
  have hk1 : dc2 r0 r1 / 4 ≠ 0 := by grind
  have p : (partP [r0, r1, 1] [r1, 2]).2 = [-(dc2 r0 r1 / 4)] := by
    rw [part_32 (by decide)]
    have e : r0 - r1 * (r1 / 2) + 1 * (r1 / 2) * (r1 / 2) = -(dc2 r0 r1 / 4) := by
      unfold dc2
      grind
    rw [e]
    exact cln1 hk0
  have sk : Sz 6000 (dc2 r0 r1 / 4) := by
    unfold dc2
    exact (((h1.mul h1).sub (sz4.mul h0)).div sz4).mono (by decide)
  have es : slp [r0, r1, 1] = [r1, 2] := slp3 r0 r1
  have pk : PartOk [r1, 2] ([r0, r1, 1].length + 1) [] [r0, r1, 1] := partOk_of (a := 200) (m := 200) (by decide) (by decide) hf hf1 (by simp) (by simp) (by decide)
  have s1 : ∀ {k : Rat}, Sz 6000 k → SzL 6000 [k] := fun h c hc => by
    simp at hc
    subst hc
    exact h
  have pk2 : ∀ {k : Rat}, Sz 6000 k → PartOk [k] ([r1, 2].length + 1) [] [r1, 2] := fun h => partOk_of (a := 200) (m := 6000) (by decide) (by decide) hf1 (s1 h) (by simp) (by simp) (by decide)
  obtain ⟨q1, q2⟩ := plain_of hf (by simp) rfl (k := -(dc2 r0 r1 / 4)) hk0 sk.neg (by
    rw [es]
    refine .inr ⟨by rw [lst2]; decide, by simp, by simp, pk, ?_⟩
    rw [p]
    refine .inr ⟨hk0, by simp, by simp, pk2 sk.neg, ?_⟩
    rw [part_c _ hk0]
    exact .inl rfl) (by
    rw [es]
    show sharF 3 [r0, r1, 1] [r1, 2] = _
    unfold sharF
    rw [if_neg (by simp), p]
    unfold sharF
    rw [if_neg (by simp), part_c _ hk0]
    unfold sharF
    rw [if_pos rfl])
  have en : neg [-(dc2 r0 r1 / 4)] = [dc2 r0 r1 / 4] := by
    rw [neg1 hk0, Rat.neg_neg]
  refine ⟨by simp, by simp, hf, rfl, q1, q2, ?_, ?_, ?_, by simp⟩
  · rw [es]
    refine .inr ⟨by rw [lst2]; decide, by simp, by simp, by simp, pk, ?_, ?_⟩
    · rw [p]
      exact (s1 sk.neg).sl (by omega)
    · rw [p, en]
      refine .inr ⟨hk1, by simp, by simp, by simp, pk2 sk, ?_, ?_⟩
      · rw [part_c _ hk1]
        exact fun c hc => nomatch hc
      · rw [part_c _ hk1]
        exact .inl rfl
  · unfold chainP
    rw [es]
    show [r0, r1, 1] :: chainF 4 [r0, r1, 1] [r1, 2] = _
    unfold chainF
    rw [if_neg (by simp), p, en]
    unfold chainF
    rw [if_neg (by simp), part_c _ hk1]
    unfold chainF
    rw [neg_nil, if_pos rfl]
  · intro g hg
    simp at hg
    rcases hg with rfl | rfl | rfl
    · exact ⟨by simp, hf.mono (by decide), by simp⟩
    · exact ⟨by simp, hf1.mono (by decide), by simp⟩
    · exact ⟨by simp, s1 sk, by simp⟩
/-- the third of a chain of degree three, the fourth -/
def c30 (r0 r1 r2 : Rat) : Rat := r1 * r2 / 9 - r0
def c31 (r1 r2 : Rat) : Rat := 2 / 9 * (r2 ^ 2 - 3 * r1)
def c3k (r0 r1 r2 : Rat) : Rat := dc3 r0 r1 r2 / 9 / (c31 r1 r2 * c31 r1 r2)
theorem chn3 {r0 r1 r2 : Rat} (h0 : Sz 200 r0) (h1 : Sz 200 r1) (h2 : Sz 200 r2) (hd : 0 < dc3 r0 r1 r2) (hp : 0 < r2 ^ 2 - 3 * r1) : Chn [r0, r1, r2, 1] [[r0, r1, r2, 1], [r1, 2 * r2, 3], [c30 r0 r1 r2, c31 r1 r2], [c3k r0 r1 r2]] := by
  have eB : BIG = 67000000 := rfl
  have hf : SzL 200 [r0, r1, r2, 1] := szl_of4 h0 h1 h2 (Sz.one (by decide))
  have hf1 : SzL 210 [r1, 2 * r2, 3] := szl_of3 (h1.mono (by decide)) ((sz2.mul h2).mono (by decide)) (sz3.mono (by decide))
  have sz9 : Sz 4 (9 : Rat) := sz_int (i := 9) (by decide) (by decide)
  have s0 : Sz 800 (c30 r0 r1 r2) := by
    unfold c30
    exact (((h1.mul h2).div sz9).sub h0).mono (by decide)
  have hs1 : Sz 800 (c31 r1 r2) := by
    unfold c31
    exact ((sz2.div sz9).mul ((sz_pow h2 1).sub (sz3.mul h1))).mono (by decide)
  have hc1 : 0 < c31 r1 r2 := by unfold c31; grind
  have hc1' : c31 r1 r2 ≠ 0 := by grind
  have hcn : -c31 r1 r2 ≠ 0 := by grind
  have hkp : 0 < c3k r0 r1 r2 := by
    unfold c3k
    exact div_pos' (div_pos' hd (by decide)) (Rat.mul_pos hc1 hc1)
  have hk1 : c3k r0 r1 r2 ≠ 0 := by grind
  have hk0 : -c3k r0 r1 r2 ≠ 0 := by grind
  have p1 : (partP [r0, r1, r2, 1] [r1, 2 * r2, 3]).2 = [-c30 r0 r1 r2, -c31 r1 r2] := by
    rw [part_43]
    have e0 : r0 - r1 * r2 / 9 = -c30 r0 r1 r2 := by unfold c30; grind
    have e1 : 2 / 3 * r1 - 2 / 9 * r2 ^ 2 = -c31 r1 r2 := by unfold c31; grind
    rw [e0, e1]
    exact cln2 hcn
  have ek : ∀ {j : Rat}, j * c31 r1 r2 = c30 r0 r1 r2 → r1 - 2 * r2 * j + 3 * j * j = -c3k r0 r1 r2 := by
    intro j hj
    have d0 : c30 r0 r1 r2 = r1 * r2 / 9 - r0 := rfl
    have d1 : c31 r1 r2 = 2 / 9 * (r2 ^ 2 - 3 * r1) := rfl
    have e : (r1 - 2 * r2 * j + 3 * j * j) * (c31 r1 r2 * c31 r1 r2) = -(dc3 r0 r1 r2 / 9) := by
      have : (r1 - 2 * r2 * j + 3 * j * j) * (c31 r1 r2 * c31 r1 r2) = r1 * (c31 r1 r2 * c31 r1 r2) - 2 * r2 * (j * c31 r1 r2) * c31 r1 r2 + 3 * (j * c31 r1 r2) * (j * c31 r1 r2) := by grind
      rw [this, hj, d0, d1]
      unfold dc3
      grind
    unfold c3k
    have hcc : c31 r1 r2 * c31 r1 r2 ≠ 0 := by grind
    generalize c31 r1 r2 * c31 r1 r2 = cc at *
    generalize dc3 r0 r1 r2 / 9 = dd at *
    have : dd / cc * cc = dd := by grind
    grind
  have p2 : (partP [r1, 2 * r2, 3] [-c30 r0 r1 r2, -c31 r1 r2]).2 = [-c3k r0 r1 r2] := by
    rw [part_32 hcn, ek (j := -c30 r0 r1 r2 / -c31 r1 r2) (by grind)]
    exact cln1 hk0
  have p2' : (partP [r1, 2 * r2, 3] [c30 r0 r1 r2, c31 r1 r2]).2 = [-c3k r0 r1 r2] := by
    rw [part_32 hc1', ek (j := c30 r0 r1 r2 / c31 r1 r2) (by grind)]
    exact cln1 hk0
  have sk : Sz 6000 (c3k r0 r1 r2) := by
    have sj : Sz 1600 (c30 r0 r1 r2 / c31 r1 r2) := s0.div hs1
    have := ek (j := c30 r0 r1 r2 / c31 r1 r2) (by grind)
    have e : c3k r0 r1 r2 = -(r1 - 2 * r2 * (c30 r0 r1 r2 / c31 r1 r2) + 3 * (c30 r0 r1 r2 / c31 r1 r2) * (c30 r0 r1 r2 / c31 r1 r2)) := by grind
    rw [e]
    exact (((h1.sub ((sz2.mul h2).mul sj)).add ((sz3.mul sj).mul sj)).neg).mono (by decide)
  have es : slp [r0, r1, r2, 1] = [r1, 2 * r2, 3] := slp4 r0 r1 r2
  have pk : PartOk [r1, 2 * r2, 3] ([r0, r1, r2, 1].length + 1) [] [r0, r1, r2, 1] := partOk_of (a := 200) (m := 210) (by decide) (by decide) hf hf1 (by simp) (by simp) (by decide)
  have s1 : ∀ {k : Rat}, Sz 6000 k → SzL 6000 [k] := fun h c hc => by
    simp at hc
    subst hc
    exact h
  have l3 : SzL 800 [c30 r0 r1 r2, c31 r1 r2] := szl_of2 s0 hs1
  have l3n : SzL 800 [-c30 r0 r1 r2, -c31 r1 r2] := szl_of2 s0.neg hs1.neg
  have pk2 : ∀ {l : List Rat}, SzL 800 l → l.length = 2 → PartOk l ([r1, 2 * r2, 3].length + 1) [] [r1, 2 * r2, 3] := fun h e => partOk_of (a := 210) (m := 800) (by decide) (by decide) hf1 h (by simp) (by omega) (by decide)
  have pk3 : ∀ {k : Rat} {l : List Rat}, SzL 800 l → l.length = 2 → Sz 6000 k → PartOk [k] (l.length + 1) [] l := fun hl e h => partOk_of (a := 800) (m := 6000) (by decide) (by decide) hl (s1 h) (by omega) (by simp) (by decide)
  obtain ⟨q1, q2⟩ := plain_of hf (by simp) rfl (k := -c3k r0 r1 r2) hk0 sk.neg (by
    rw [es]
    refine .inr ⟨by rw [lst3]; decide, by simp, by simp, pk, ?_⟩
    rw [p1]
    refine .inr ⟨by rw [lst2]; exact hcn, by simp, by simp, pk2 l3n rfl, ?_⟩
    rw [p2]
    refine .inr ⟨hk0, by simp, by simp, pk3 l3n rfl sk.neg, ?_⟩
    rw [part_c _ hk0]
    exact .inl rfl) (by
    rw [es]
    show sharF 4 [r0, r1, r2, 1] [r1, 2 * r2, 3] = _
    unfold sharF
    rw [if_neg (by simp), p1]
    unfold sharF
    rw [if_neg (by simp), p2]
    unfold sharF
    rw [if_neg (by simp), part_c _ hk0]
    unfold sharF
    rw [if_pos rfl])
  have en : neg [-c3k r0 r1 r2] = [c3k r0 r1 r2] := by
    rw [neg1 hk0, Rat.neg_neg]
  have en2 : neg [-c30 r0 r1 r2, -c31 r1 r2] = [c30 r0 r1 r2, c31 r1 r2] := by
    rw [neg2 hcn, Rat.neg_neg, Rat.neg_neg]
  refine ⟨by simp, by simp, hf, rfl, q1, q2, ?_, ?_, ?_, by simp⟩
  · rw [es]
    refine .inr ⟨by rw [lst3]; decide, by simp, by simp, by simp, pk, ?_, ?_⟩
    · rw [p1]
      exact l3n.sl (by omega)
    · rw [p1, en2]
      refine .inr ⟨by rw [lst2]; exact hc1', by simp, by simp, by simp, pk2 l3 rfl, ?_, ?_⟩
      · rw [p2']
        exact (s1 sk.neg).sl (by omega)
      · rw [p2', en]
        refine .inr ⟨hk1, by simp, by simp, by simp, pk3 l3 rfl sk, ?_, ?_⟩
        · rw [part_c _ hk1]
          exact fun c hc => nomatch hc
        · rw [part_c _ hk1]
          exact .inl rfl
  · unfold chainP
    rw [es]
    show [r0, r1, r2, 1] :: chainF 5 [r0, r1, r2, 1] [r1, 2 * r2, 3] = _
    unfold chainF
    rw [if_neg (by simp), p1, en2]
    unfold chainF
    rw [if_neg (by simp), p2', en]
    unfold chainF
    rw [if_neg (by simp), part_c _ hk1]
    unfold chainF
    rw [neg_nil, if_pos rfl]
  · intro g hg
    simp at hg
    rcases hg with rfl | rfl | rfl | rfl
    · exact ⟨by simp, hf.mono (by decide), by simp⟩
    · exact ⟨by simp, hf1.mono (by decide), by simp⟩
    · exact ⟨by simp, l3.mono (by decide), by simp⟩
    · exact ⟨by simp, s1 sk, by simp⟩
end M66
/-! The plain law, part 20: counts of changes of sign. -/
namespace M66
theorem sgn_p {q : Rat} (h : 0 < q) : sgn q = 1 := by
  unfold sgn
  rw [if_pos h]
theorem sgn_n {q : Rat} (h : q < 0) : sgn q = -1 := by
  unfold sgn
  rw [if_neg (by grind), if_pos h]
theorem sgn_0 {q : Rat} (h : q = 0) : sgn q = 0 := by
  subst h
  rfl
theorem tri (q : Rat) : q < 0 ∨ q = 0 ∨ 0 < q := by grind
theorem alt_p {p0 p1 p2 : Rat} (h : 0 < p0) : alt [sgn p0, sgn p1, sgn p2, 1] = if p1 < 0 ∨ p2 < 0 then 2 else 0 := by
  rw [sgn_p h]
  rcases tri p1 with h1 | h1 | h1 <;> rcases tri p2 with h2 | h2 | h2
  · rw [sgn_n h1, sgn_n h2, if_pos (by grind)]; rfl
  · rw [sgn_n h1, sgn_0 h2, if_pos (by grind)]; rfl
  · rw [sgn_n h1, sgn_p h2, if_pos (by grind)]; rfl
  · rw [sgn_0 h1, sgn_n h2, if_pos (by grind)]; rfl
  · rw [sgn_0 h1, sgn_0 h2, if_neg (by grind)]; rfl
  · rw [sgn_0 h1, sgn_p h2, if_neg (by grind)]; rfl
  · rw [sgn_p h1, sgn_n h2, if_pos (by grind)]; rfl
  · rw [sgn_p h1, sgn_0 h2, if_neg (by grind)]; rfl
  · rw [sgn_p h1, sgn_p h2, if_neg (by grind)]; rfl
theorem alt_n {p0 p1 p2 : Rat} (h : p0 < 0) : alt [sgn p0, sgn p1, sgn p2, 1] = if 0 < p1 ∧ p2 < 0 then 3 else 1 := by
  rw [sgn_n h]
  rcases tri p1 with h1 | h1 | h1 <;> rcases tri p2 with h2 | h2 | h2
  · rw [sgn_n h1, sgn_n h2, if_neg (by grind)]; rfl
  · rw [sgn_n h1, sgn_0 h2, if_neg (by grind)]; rfl
  · rw [sgn_n h1, sgn_p h2, if_neg (by grind)]; rfl
  · rw [sgn_0 h1, sgn_n h2, if_neg (by grind)]; rfl
  · rw [sgn_0 h1, sgn_0 h2, if_neg (by grind)]; rfl
  · rw [sgn_0 h1, sgn_p h2, if_neg (by grind)]; rfl
  · rw [sgn_p h1, sgn_n h2, if_pos (by grind)]; rfl
  · rw [sgn_p h1, sgn_0 h2, if_neg (by grind)]; rfl
  · rw [sgn_p h1, sgn_p h2, if_neg (by grind)]; rfl
theorem alt_0p {p0 p1 p2 : Rat} (h : p0 = 0) (h1 : 0 < p1) : alt [sgn p0, sgn p1, sgn p2, 1] = if p2 < 0 then 2 else 0 := by
  rw [sgn_0 h, sgn_p h1]
  rcases tri p2 with h2 | h2 | h2
  · rw [sgn_n h2, if_pos (by grind)]; rfl
  · rw [sgn_0 h2, if_neg (by grind)]; rfl
  · rw [sgn_p h2, if_neg (by grind)]; rfl
theorem alt_0n {p0 p1 p2 : Rat} (h : p0 = 0) (h1 : p1 < 0) : alt [sgn p0, sgn p1, sgn p2, 1] = 1 := by
  rw [sgn_0 h, sgn_n h1]
  rcases tri p2 with h2 | h2 | h2
  · rw [sgn_n h2]; rfl
  · rw [sgn_0 h2]; rfl
  · rw [sgn_p h2]; rfl
theorem mp {a b : Rat} (h1 : 0 < a) (h2 : 0 < b) : 0 < a * b := Rat.mul_pos h1 h2
theorem mn {a b : Rat} (h1 : 0 < a) (h2 : b < 0) : a * b < 0 := by
  have := mp h1 (by grind : 0 < -b)
  grind
theorem nn {a b : Rat} (h1 : a < 0) (h2 : b < 0) : 0 < a * b := by
  have := mp (by grind : 0 < -a) (by grind : 0 < -b)
  grind
/-- beyond all three -/
theorem far3 {v al de : Rat} (hd : 0 < de) (h0 : 0 < v) (h1 : al < v) (h2 : 0 < v * v - de) : 0 < v * (3 * de + al * al) - 4 * al * de := by
  have a1 := mp hd (by grind : 0 < v - al)
  have e : v * (3 * de + al * al) - 4 * al * de = 3 * (de * (v - al)) + al * (al * v - de) := by grind
  by_cases h3 : al < 0
  · have a2 := mp h0 hd
    have a3 := sq0 al
    have a4 := Rat.mul_nonneg (Rat.le_of_lt h0) a3
    have a5 := mp (by grind : 0 < -al) hd
    grind
  · by_cases h4 : al * v - de < 0
    · have b1 : 0 < (de - al * v) * (3 * de - al * v) := mp (by grind) (by grind)
      have b2 : 0 ≤ 3 * de * (v * v - de) := Rat.mul_nonneg (by grind) (by grind)
      have b3 : 0 < v * (v * (3 * de + al * al) - 4 * al * de) := by grind
      by_cases h5 : 0 < v * (3 * de + al * al) - 4 * al * de
      · exact h5
      · have := Rat.mul_nonneg (Rat.le_of_lt h0) (by grind : 0 ≤ -(v * (3 * de + al * al) - 4 * al * de))
        grind
    · have := Rat.mul_nonneg (by grind : 0 ≤ al) (by grind : 0 ≤ al * v - de)
      grind
theorem far3n {v al de : Rat} (hd : 0 < de) (h0 : v < 0) (h1 : v < al) (h2 : 0 < v * v - de) : v * (3 * de + al * al) - 4 * al * de < 0 := by
  have := far3 (v := -v) (al := -al) hd (by grind) (by grind) (by grind)
  grind
/-- between, the slope not below nought -/
theorem btw3 {v al de : Rat} (h1 : v < al) (h2 : v * v - de < 0) (h3 : 0 ≤ 3 * (v * v) - 2 * al * v - de) : v * (3 * de + al * al) - 4 * al * de < 0 := by
  have hv : v < 0 := by
    by_cases h : v < 0
    · exact h
    · have := Rat.mul_nonneg (by grind : 0 ≤ v) (by grind : 0 ≤ al - v)
      grind
  have k1 : 0 < v * (v - al) := nn hv (by grind)
  have k2 : 0 < (v - al) * (v - al) := nn (by grind) (by grind)
  have k3 : 0 < (-v) * ((v - al) * (v - al)) := mp (by grind) k2
  by_cases h4 : 4 * al - 3 * v < 0
  · have := Rat.mul_nonneg h3 (by grind : 0 ≤ -(4 * al - 3 * v))
    grind
  · have b1 : 0 ≤ (2 * v * (v - al) - (3 * (v * v) - 2 * al * v - de)) * (4 * al - 3 * v) := Rat.mul_nonneg (by grind) (by grind)
    have b2 : v * (v - al) * (3 * v - al) < 0 := mn k1 (by grind)
    grind
theorem btw3n {v al de : Rat} (h1 : al < v) (h2 : v * v - de < 0) (h3 : 0 ≤ 3 * (v * v) - 2 * al * v - de) : 0 < v * (3 * de + al * al) - 4 * al * de := by
  have := btw3 (v := -v) (al := -al) (de := de) (by grind) (by grind) (by grind)
  grind
/-- beyond the one, before both others -/
theorem out3 {v al de : Rat} (h0 : v < 0) (h1 : al < v) (h3 : 0 ≤ 3 * (v * v) - 2 * al * v - de) : v * (3 * de + al * al) - 4 * al * de < 0 := by
  have k2 : 0 < (v - al) * (v - al) := mp (by grind) (by grind)
  have k3 : 0 < (-v) * ((v - al) * (v - al)) := mp (by grind) k2
  have := Rat.mul_nonneg h3 (by grind : 0 ≤ -(4 * al - 3 * v))
  grind
theorem out3n {v al de : Rat} (h0 : 0 < v) (h1 : v < al) (h3 : 0 ≤ 3 * (v * v) - 2 * al * v - de) : 0 < v * (3 * de + al * al) - 4 * al * de := by
  have := out3 (v := -v) (al := -al) (de := de) (by grind) (by grind) (by grind)
  grind
def cqv (v de : Rat) : Nat := if 0 < v * v - de then (if v < 0 then 2 else 0) else if v * v - de = 0 then (if v < 0 then 1 else 0) else 1
theorem cqv_in {v de : Rat} (h : v * v - de < 0) : cqv v de = 1 := by
  unfold cqv
  rw [if_neg (by grind), if_neg (by grind)]
theorem cqv_0n {v de : Rat} (h : v * v - de = 0) (hv : v < 0) : cqv v de = 1 := by
  unfold cqv
  rw [if_neg (by grind), if_pos h, if_pos hv]
theorem cqv_0p {v de : Rat} (h : v * v - de = 0) (hv : ¬ v < 0) : cqv v de = 0 := by
  unfold cqv
  rw [if_neg (by grind), if_pos h, if_neg hv]
theorem cqv_n {v de : Rat} (h : 0 < v * v - de) (hv : v < 0) : cqv v de = 2 := by
  unfold cqv
  rw [if_pos h, if_pos hv]
theorem cqv_p {v de : Rat} (h : 0 < v * v - de) (hv : ¬ v < 0) : cqv v de = 0 := by
  unfold cqv
  rw [if_pos h, if_neg hv]
theorem count3 {v al de : Rat} (hd : 0 < de) (hq : al * al - de ≠ 0) : alt [sgn ((v - al) * (v * v - de)), sgn (3 * (v * v) - 2 * al * v - de), sgn (v * (3 * de + al * al) - 4 * al * de), 1] = (if v < al then 1 else 0) + cqv v de := by
  have es : 3 * (v * v) - 2 * al * v - de = (v * v - de) + 2 * (v * (v - al)) := by grind
  have ez : v * v - de = 0 → v * (3 * de + al * al) - 4 * al * de = v * (v - al) * (3 * v - al) := by grind
  have v0 : v * v - de = 0 ∨ 0 < v * v - de → v ≠ 0 := fun h z => by
    rw [z] at h
    rcases h with h | h <;> grind
  rcases tri (v - al) with h1 | h1 | h1
  · rw [if_pos (show v < al by grind)]
    rcases tri (v * v - de) with h2 | h2 | h2
    · rw [cqv_in h2, alt_p (nn h1 h2), if_pos]
      by_cases h3 : 3 * (v * v) - 2 * al * v - de < 0
      · exact .inl h3
      · exact .inr (btw3 (by grind) h2 (by grind))
    · have hv := v0 (.inl h2)
      by_cases h3 : v < 0
      · have k := nn h3 h1
        rw [cqv_0n h2 h3, alt_0p (by rw [h2]; grind) (by grind), if_pos]
        have := mn k (by grind : 3 * v - al < 0)
        rw [ez h2]
        exact this
      · have k := mn (by grind : 0 < v) h1
        rw [cqv_0p h2 h3, alt_0n (by rw [h2]; grind) (by grind)]
    · have hv := v0 (.inr h2)
      have hf : (v - al) * (v * v - de) < 0 := by have := mn h2 h1; grind
      by_cases h3 : v < 0
      · have k := nn h3 h1
        rw [cqv_n h2 h3, alt_n hf, if_pos ⟨by grind, far3n hd h3 (by grind) h2⟩]
      · rw [cqv_p h2 h3, alt_n hf, if_neg]
        intro z
        have := out3n (v := v) (al := al) (de := de) (by grind) (by grind) (Rat.le_of_lt z.1)
        grind
  · rw [if_neg (show ¬ v < al by grind)]
    have ea : al = v := by grind
    subst ea
    have e1 : 3 * (al * al) - 2 * al * al - de = al * al - de := by grind
    have e2 : al * (3 * de + al * al) - 4 * al * de = al * (al * al - de) := by grind
    rw [e1, e2]
    have ef : (al - al) * (al * al - de) = 0 := by grind
    rcases tri (al * al - de) with h2 | h2 | h2
    · rw [alt_0n ef h2, cqv_in h2]
    · exact absurd h2 hq
    · have hv := v0 (.inr h2)
      by_cases h3 : al < 0
      · rw [alt_0p ef h2, cqv_n h2 h3, if_pos]
        have := mn h2 h3
        grind
      · have := mp (by grind : 0 < al) h2
        rw [alt_0p ef h2, cqv_p h2 h3, if_neg (by grind)]
  · rw [if_neg (show ¬ v < al by grind)]
    rcases tri (v * v - de) with h2 | h2 | h2
    · rw [cqv_in h2, alt_n (mn h1 h2), if_neg]
      intro z
      have := btw3n (v := v) (al := al) (de := de) (by grind) h2 (Rat.le_of_lt z.1)
      grind
    · have hv := v0 (.inl h2)
      by_cases h3 : v < 0
      · have k := mn h1 h3
        rw [cqv_0n h2 h3, alt_0n (by rw [h2]; grind) (by grind)]
      · have k := mp (by grind : 0 < v) h1
        rw [cqv_0p h2 h3, alt_0p (by rw [h2]; grind) (by grind), if_neg]
        have := mp k (by grind : 0 < 3 * v - al)
        rw [ez h2]
        grind
    · have hv := v0 (.inr h2)
      by_cases h3 : v < 0
      · rw [cqv_n h2 h3, alt_p (mp h1 h2), if_pos]
        by_cases h4 : 3 * (v * v) - 2 * al * v - de < 0
        · exact .inl h4
        · exact .inr (out3 h3 (by grind) (by grind))
      · have k := mp (by grind : 0 < v) h1
        have := far3 hd (by grind) (by grind : al < v) h2
        rw [cqv_p h2 h3, alt_p (mp h1 h2), if_neg]
        grind
end M66
/-! The plain law, part 21: stretches, narrowed, from counts. -/
namespace M66
/-- a chain whose changes of sign are counted by V: from d below -B to none up to B, at most one within 1 / 2^k -/
structure Cnt (ch : List (List Rat)) (B : Rat) (d k : Nat) (V : Rat → Nat) : Prop where
  at_ : ∀ x side, chg ch (some x) side = V x
  anti : ∀ x y, x ≤ y → V y ≤ V x
  lo : V (0 - B) = d
  hi : V B = 0
  sep : ∀ x y, -B ≤ x → x ≤ y → y ≤ B → y - x ≤ 1 / 2 ^ k → V x ≤ V y + 1
  sB : Sz 2000 B
  B1 : 1 ≤ B
  ok : ∀ q n, Sz n q → n ≤ 10000000 → ChOk ch (some q)
  d3 : d ≤ 3
theorem p2pos (i : Nat) : (0 : Rat) < 2 ^ i := Rat.pow_pos (by decide)
def pt (B : Rat) (i : Nat) (j : Int) : Rat := B * (j : Rat) / 2 ^ i
theorem ib_p2 : ∀ i : Nat, IB (i + 1) ((2 : Rat) ^ i)
  | 0 => ⟨1, rfl, by decide⟩
  | i + 1 => by
    obtain ⟨j, e, h⟩ := ib_p2 i
    refine ⟨j * 2, ?_, ?_⟩
    · rw [Rat.pow_succ, e, Rat.intCast_mul]
      rfl
    · rw [Int.natAbs_mul, Nat.pow_succ]
      show j.natAbs * 2 < _
      omega
theorem p2int : ∀ i : Nat, ((2 : Rat) ^ i) = (((2 : Int) ^ i : Int) : Rat)
  | 0 => rfl
  | i + 1 => by
    rw [Rat.pow_succ, p2int i, Int.pow_succ, Rat.intCast_mul]
    rfl
theorem sz_pt {B : Rat} (hB : Sz 2000 B) {i : Nat} {j : Int} (h1 : -2 ^ i ≤ j) (h2 : j ≤ 2 ^ i) : Sz (2000 + (i + 2) + (i + 1)) (pt B i j) := by
  unfold pt
  refine (hB.mul (sz_int (by omega) ?_)).div ((ib_p2 i).sz (by omega))
  have e : (2 : Nat) ^ (i + 2) = 2 ^ i * 4 := by rw [Nat.pow_add]
  have p : (0 : Nat) < 2 ^ i := Nat.pow_pos (by decide)
  have c : ((2 ^ i : Nat) : Int) = (2 : Int) ^ i := by rw [Int.natCast_pow]; rfl
  omega
theorem pt_in {B : Rat} (hB : 1 ≤ B) {i : Nat} {j : Int} (h1 : -2 ^ i ≤ j) (h2 : j ≤ 2 ^ i) : -B ≤ pt B i j ∧ pt B i j ≤ B := by
  have hp := p2pos i
  have k1 : (j : Rat) ≤ 2 ^ i := by
    rw [p2int]
    exact Rat.intCast_le_intCast.mpr h2
  have k2 : -(2 : Rat) ^ i ≤ (j : Rat) := by
    rw [p2int, ← Rat.intCast_neg]
    exact Rat.intCast_le_intCast.mpr h1
  have e : pt B i j * 2 ^ i = B * (j : Rat) := by
    unfold pt
    grind
  have a1 := Rat.mul_nonneg (by grind : 0 ≤ B) (by grind : 0 ≤ (2 : Rat) ^ i - (j : Rat))
  have a2 := Rat.mul_nonneg (by grind : 0 ≤ B) (by grind : 0 ≤ (2 : Rat) ^ i + (j : Rat))
  generalize (2 : Rat) ^ i = P at *
  generalize pt B i j = q at *
  constructor
  · have : 0 ≤ (q + B) * P := by grind
    by_cases h : -B ≤ q
    · exact h
    · have := mp (by grind : 0 < -(q + B)) hp
      grind
  · have : 0 ≤ (B - q) * P := by grind
    by_cases h : q ≤ B
    · exact h
    · have := mp (by grind : 0 < q - B) hp
      grind
theorem pt_mid (B : Rat) (i : Nat) (j : Int) : mid (pt B i j) (pt B i (j + 2)) = pt B (i + 1) (2 * j + 2) := by
  unfold mid pt
  have hp := p2pos i
  rw [Rat.pow_succ, Rat.intCast_add, Rat.intCast_add, Rat.intCast_mul]
  have e2 : ((2 : Int) : Rat) = 2 := rfl
  rw [e2]
  generalize (2 : Rat) ^ i = P at *
  generalize (j : Rat) = J
  have hP : P ≠ 0 := by grind
  have k : B * (2 * J + 2) / (P * 2) = B * (J + 1) / P := (div_of hP (by
    have : B * (2 * J + 2) / (P * 2) * (P * 2) = B * (2 * J + 2) := by grind
    generalize B * (2 * J + 2) / (P * 2) = z at *
    grind))
  rw [k]
  grind
theorem pt_same (B : Rat) (i : Nat) (j : Int) : pt B (i + 1) (2 * j) = pt B i j := by
  unfold pt
  have hp := p2pos i
  rw [Rat.pow_succ, Rat.intCast_mul]
  have e2 : ((2 : Int) : Rat) = 2 := rfl
  rw [e2]
  generalize (2 : Rat) ^ i = P at *
  generalize (j : Rat) = J
  have hP : P ≠ 0 := by grind
  refine div_of hP ?_
  have : B * (2 * J) / (P * 2) * (P * 2) = B * (2 * J) := by grind
  generalize B * (2 * J) / (P * 2) = z at *
  grind
theorem pt_wide (B : Rat) (i : Nat) (j : Int) : pt B i (j + 2) - pt B i j = 2 * B / 2 ^ i := by
  unfold pt
  have hp := p2pos i
  rw [Rat.intCast_add]
  have e2 : ((2 : Int) : Rat) = 2 := rfl
  rw [e2]
  generalize (2 : Rat) ^ i = P at *
  grind
theorem pt_le {B : Rat} (hB : 1 ≤ B) (i : Nat) (j : Int) : pt B i j ≤ pt B i (j + 2) := by
  have h := pt_wide B i j
  have : 0 < 2 * B / 2 ^ i := div_pos' (by grind) (p2pos i)
  grind
/-- stretches in their order: each lessens the count by one -/
def Il (V : Rat → Nat) : List (Rat × Rat) → Nat → Prop
  | [], _ => True
  | z :: l, v => V z.1 = v ∧ V z.2 + 1 = v ∧ Il V l (v - 1)
theorem il_app {V : Rat → Nat} : ∀ {l1 l2 : List (Rat × Rat)} {v : Nat}, Il V l1 v → Il V l2 (v - l1.length) → Il V (l1 ++ l2) v
  | [], _, _, _, h => h
  | z :: l1, l2, v, h1, h2 => ⟨h1.1, h1.2.1, il_app h1.2.2 (by
      rw [List.length_cons] at h2
      rwa [show v - 1 - l1.length = v - (l1.length + 1) by omega])⟩
/-- a stretch on the grid -/
def Grid (B : Rat) (K : Nat) (z : Rat × Rat) : Prop := ∃ (i : Nat) (j : Int), i ≤ K ∧ -2 ^ i ≤ j ∧ j + 2 ≤ 2 ^ i ∧ z.1 = pt B i j ∧ z.2 = pt B i (j + 2)
section
variable {ch : List (List Rat)} {B : Rat} {d k : Nat} {V : Rat → Nat}
theorem Cnt.btw (C : Cnt ch B d k V) (x y : Rat) : M66.btw ch (some x) (some y) = (V x : Int) - (V y : Int) := by
  unfold M66.btw
  rw [C.at_, C.at_]
theorem Cnt.okp (C : Cnt ch B d k V) {i : Nat} {j : Int} (hi : i ≤ 3000000) (h1 : -2 ^ i ≤ j) (h2 : j ≤ 2 ^ i) : ChOk ch (some (pt B i j)) := C.ok _ _ (sz_pt C.sB h1 h2) (by omega)
theorem Cnt.mid (C : Cnt ch B d k V) {i : Nat} {j : Int} (hi : i ≤ 3000000) (h1 : -2 ^ i ≤ j) (h2 : j + 2 ≤ 2 ^ i) : MidOk (pt B i j) (pt B i (j + 2)) := by
  have eB : BIG = 67000000 := rfl
  have a := sz_pt C.sB h1 (by omega : j ≤ 2 ^ i)
  have b := sz_pt C.sB (by omega : -2 ^ i ≤ j + 2) h2
  exact ⟨a.s (by omega), b.s (by omega), (a.add b).s (by omega)⟩
theorem pow_s (i : Nat) : (2 : Int) ^ (i + 1) = 2 * 2 ^ i := by rw [Int.pow_succ, Int.mul_comm]
theorem Cnt.ap (C : Cnt ch B d k V) {K : Nat} (hK : 2 * B / 2 ^ K ≤ 1 / 2 ^ k) (hK2 : K ≤ 40000) : ∀ (m i : Nat) (j : Int), i + m = K → -2 ^ i ≤ j → j + 2 ≤ 2 ^ i →
    ∃ l n, Ap ch (pt B i j) (pt B i (j + 2)) l n ∧ n ≤ 2 * m * (V (pt B i j) - V (pt B i (j + 2))) + 1 ∧ Il V l (V (pt B i j)) ∧ l.length = V (pt B i j) - V (pt B i (j + 2)) ∧ ∀ z ∈ l, Grid B K z := by
  intro m
  have small : ∀ (m i : Nat) (j : Int), i + m = K → -2 ^ i ≤ j → j + 2 ≤ 2 ^ i → V (pt B i j) ≤ V (pt B i (j + 2)) + 1 → ∃ l n, Ap ch (pt B i j) (pt B i (j + 2)) l n ∧ n ≤ 2 * m * (V (pt B i j) - V (pt B i (j + 2))) + 1 ∧ Il V l (V (pt B i j)) ∧ l.length = V (pt B i j) - V (pt B i (j + 2)) ∧ ∀ z ∈ l, Grid B K z := by
    intro m i j hm h1 h2 hs
    have ha := C.anti _ _ (pt_le C.B1 i j)
    have o1 := C.okp (i := i) (j := j) (by omega) h1 (by omega)
    have o2 := C.okp (i := i) (j := j + 2) (by omega) (by omega) h2
    by_cases h : V (pt B i j) = V (pt B i (j + 2))
    · refine ⟨[], 1, .no o1 o2 ?_, by omega, trivial, by simp; omega, fun z hz => nomatch hz⟩
      rw [C.btw]
      omega
    · refine ⟨[(pt B i j, pt B i (j + 2))], 1, .one o1 o2 ?_, by omega, ⟨rfl, by show V (pt B i (j + 2)) + 1 = _; omega, trivial⟩, by simp; omega, fun z hz => ?_⟩
      · rw [C.btw]
        omega
      · simp at hz
        subst hz
        exact ⟨i, j, by omega, h1, h2, rfl, rfl⟩
  induction m with
  | zero =>
    intro i j hm h1 h2
    refine small 0 i j hm h1 h2 ?_
    have b1 := (pt_in C.B1 h1 (by omega : j ≤ 2 ^ i)).1
    have b2 := (pt_in C.B1 (by omega : -2 ^ i ≤ j + 2) h2).2
    refine C.sep _ _ b1 (pt_le C.B1 i j) b2 ?_
    rw [pt_wide, show i = K by omega]
    exact hK
  | succ m ih =>
    intro i j hm h1 h2
    by_cases hs : V (pt B i j) ≤ V (pt B i (j + 2)) + 1
    · exact small (m + 1) i j hm h1 h2 hs
    · have e1 := pt_same B i j
      have e2 := pt_same B i (j + 2)
      have em := pt_mid B i j
      have ps := pow_s i
      have g1 := ih (i + 1) (2 * j) (by omega) (by omega) (by omega)
      have g2 := ih (i + 1) (2 * j + 2) (by omega) (by omega) (by omega)
      rw [show 2 * j + 2 + 2 = 2 * (j + 2) by omega] at g2
      have c1 := C.anti _ _ (pt_le C.B1 (i + 1) (2 * j))
      have c2 := C.anti _ _ (pt_le C.B1 (i + 1) (2 * j + 2))
      rw [show 2 * j + 2 + 2 = 2 * (j + 2) by omega] at c2
      rw [e1] at g1 c1
      rw [e2] at g2 c2
      rw [← em] at g1 g2 c1 c2
      obtain ⟨l1, n1, a1, b1, i1, k1, r1⟩ := g1
      obtain ⟨l2, n2, a2, b2, i2, k2, r2⟩ := g2
      refine ⟨l1 ++ l2, n1 + n2 + 1, .more (C.okp (by omega) h1 (by omega)) (C.okp (by omega) (by omega) h2) ?_ (C.mid (by omega) h1 h2) a1 a2, ?_, il_app i1 ?_, ?_, fun z hz => ?_⟩
      · rw [C.btw]
        omega
      · generalize V (pt B i j) = p at *
        generalize V (M66.mid (pt B i j) (pt B i (j + 2))) = q at *
        generalize V (pt B i (j + 2)) = r at *
        have t1 : 2 * (m + 1) * (p - r) = 2 * m * (p - q) + 2 * m * (q - r) + 2 * (p - r) := by
          have : p - r = (p - q) + (q - r) := by omega
          rw [this, Nat.mul_add, show 2 * (m + 1) = 2 * m + 2 by omega, Nat.add_mul, Nat.add_mul]
          omega
        omega
      · rw [k1, show V (pt B i j) - (V (pt B i j) - V (M66.mid (pt B i j) (pt B i (j + 2)))) = V (M66.mid (pt B i j) (pt B i (j + 2))) by omega]
        exact i2
      · rw [List.length_append, k1, k2]
        omega
      · rcases List.mem_append.mp hz with hz | hz
        · exact r1 z hz
        · exact r2 z hz
/-- narrowed -/
theorem Cnt.nar (C : Cnt ch B d k V) {K : Nat} {w : Rat} (hK : 2 * B / 2 ^ K ≤ w) (hK2 : K ≤ 3000000) : ∀ (m i : Nat) (j : Int), i + m = K → -2 ^ i ≤ j → j + 2 ≤ 2 ^ i → V (pt B i j) = V (pt B i (j + 2)) + 1 →
    ∃ z n, Nar ch w (pt B i j) (pt B i (j + 2)) z.1 z.2 n ∧ Grid B K z ∧ V z.1 = V (pt B i j) ∧ V z.2 = V (pt B i (j + 2)) ∧ z.2 - z.1 ≤ w := by
  intro m
  have eB : BIG = 67000000 := rfl
  have szs : ∀ (i : Nat) (j : Int), i ≤ K → -2 ^ i ≤ j → j + 2 ≤ 2 ^ i → S (pt B i j) ∧ S (pt B i (j + 2)) ∧ S (pt B i (j + 2) - pt B i j) := by
    intro i j hi h1 h2
    have a := sz_pt C.sB h1 (by omega : j ≤ 2 ^ i)
    have b := sz_pt C.sB (by omega : -2 ^ i ≤ j + 2) h2
    exact ⟨a.s (by omega), b.s (by omega), (b.sub a).s (by omega)⟩
  have stop : ∀ (i : Nat) (j : Int), i ≤ K → -2 ^ i ≤ j → j + 2 ≤ 2 ^ i → pt B i (j + 2) - pt B i j ≤ w → ∃ z n, Nar ch w (pt B i j) (pt B i (j + 2)) z.1 z.2 n ∧ Grid B K z ∧ V z.1 = V (pt B i j) ∧ V z.2 = V (pt B i (j + 2)) ∧ z.2 - z.1 ≤ w := by
    intro i j hi h1 h2 h
    obtain ⟨s1, s2, s3⟩ := szs i j hi h1 h2
    exact ⟨(pt B i j, pt B i (j + 2)), 0, .stop s1 s2 s3 (by grind), ⟨i, j, hi, h1, h2, rfl, rfl⟩, rfl, rfl, h⟩
  induction m with
  | zero =>
    intro i j hm h1 h2 _
    refine stop i j (by omega) h1 h2 ?_
    rw [pt_wide, show i = K by omega]
    exact hK
  | succ m ih =>
    intro i j hm h1 h2 hv
    by_cases hs : pt B i (j + 2) - pt B i j ≤ w
    · exact stop i j (by omega) h1 h2 hs
    · obtain ⟨s1, s2, s3⟩ := szs i j (by omega) h1 h2
      have e1 := pt_same B i j
      have e2 := pt_same B i (j + 2)
      have em := pt_mid B i j
      have ps := pow_s i
      have c1 := C.anti _ _ (pt_le C.B1 (i + 1) (2 * j))
      have c2 := C.anti _ _ (pt_le C.B1 (i + 1) (2 * j + 2))
      have hmid := C.okp (i := i + 1) (j := 2 * j + 2) (by omega) (by omega) (by omega)
      rw [show 2 * j + 2 + 2 = 2 * (j + 2) by omega, e2] at c2
      rw [e1] at c1
      rw [← em] at c1 c2 hmid
      have ho : HlvOk ch (pt B i j) (pt B i (j + 2)) := ⟨C.mid (by omega) h1 h2, C.okp (by omega) h1 (by omega), hmid⟩
      by_cases hb : V (pt B i j) = V (M66.mid (pt B i j) (pt B i (j + 2))) + 1
      · have eh : hlv ch (pt B i j) (pt B i (j + 2)) = (pt B i j, M66.mid (pt B i j) (pt B i (j + 2))) := by
          unfold hlv
          rw [if_pos]
          rw [C.btw]
          omega
        have g := ih (i + 1) (2 * j) (by omega) (by omega) (by omega) (by rw [e1, ← em]; exact hb)
        rw [e1, ← em] at g
        obtain ⟨z, n, a, b, v1, v2, v3⟩ := g
        exact ⟨z, n + 1, .go s1 s2 s3 (by grind) ho (by rw [eh]; exact a), b, v1, by omega, v3⟩
      · have eh : hlv ch (pt B i j) (pt B i (j + 2)) = (M66.mid (pt B i j) (pt B i (j + 2)), pt B i (j + 2)) := by
          unfold hlv
          rw [if_neg]
          rw [C.btw]
          omega
        have g := ih (i + 1) (2 * j + 2) (by omega) (by omega) (by omega) (by
          rw [show 2 * j + 2 + 2 = 2 * (j + 2) by omega, e2, ← em]
          omega)
        rw [show 2 * j + 2 + 2 = 2 * (j + 2) by omega, e2, ← em] at g
        obtain ⟨z, n, a, b, v1, v2, v3⟩ := g
        exact ⟨z, n + 1, .go s1 s2 s3 (by grind) ho (by rw [eh]; exact a), b, by omega, v2, v3⟩
end
end M66
/-! The plain law, part 22: the counts of degree two and three. -/
namespace M66
theorem num_eq (q : Rat) : (q.num : Rat) = q * (q.den : Rat) := by
  have h := Rat.num_divInt_den q
  rw [Rat.divInt_eq_div] at h
  have hd : ((q.den : Int) : Rat) ≠ 0 := by
    have := q.den_nz
    intro z
    exact this (by simpa using z)
  have e : ((q.den : Int) : Rat) = (q.den : Rat) := rfl
  rw [e] at h hd
  generalize (q.den : Rat) = d at *
  generalize (q.num : Rat) = m at *
  subst h
  grind
theorem den_pos (q : Rat) : (1 : Rat) ≤ (q.den : Rat) := by
  have h := q.den_nz
  have : ((1 : Nat) : Rat) ≤ (q.den : Rat) := Rat.natCast_le_natCast.mpr (by omega)
  simpa using this
theorem p2nat (n : Nat) : (2 : Rat) ^ n = ((2 ^ n : Nat) : Rat) := by
  induction n with
  | zero => rfl
  | succ n ih => rw [Rat.pow_succ, ih, Nat.pow_succ, Rat.natCast_mul]; rfl
theorem sz_lo {n : Nat} {q : Rat} (h : Sz n q) (hp : 0 < q) : 1 / 2 ^ n < q := by
  have h1 := num_eq q
  have h2 := den_pos q
  have h3 : (q.den : Rat) < 2 ^ n := by
    rw [p2nat]
    have := h.2.2
    have k : ((q.den + 1 : Nat) : Rat) ≤ ((2 ^ n : Nat) : Rat) := Rat.natCast_le_natCast.mpr (by omega)
    rw [Rat.natCast_add] at k
    have : ((1 : Nat) : Rat) = 1 := rfl
    grind
  have h4 : (1 : Rat) ≤ (q.num : Rat) := by
    have k0 : 0 < q * (q.den : Rat) := mp hp (by grind)
    have : 0 < q.num := by
      rw [← h1] at k0
      exact Rat.intCast_lt_intCast.mp (by simpa using k0)
    have : ((1 : Int) : Rat) ≤ (q.num : Rat) := Rat.intCast_le_intCast.mpr (by omega)
    simpa using this
  have hP := p2pos n
  have e : 1 / (2 : Rat) ^ n * 2 ^ n = 1 := by grind
  generalize (2 : Rat) ^ n = P at *
  generalize (q.den : Rat) = d at *
  by_cases hc : 1 / P < q
  · exact hc
  · have k1 : 0 ≤ (1 / P - q) * P := Rat.mul_nonneg (by grind) (by grind)
    have k2 : 0 < q * (P - d) := mp hp (by grind)
    grind
theorem sz_hi {n : Nat} {q : Rat} (h : Sz n q) : q < 2 ^ n := by
  have h1 := num_eq q
  have h2 := den_pos q
  have h3 : (q.num : Rat) < 2 ^ n := by
    rw [p2nat]
    have := h.2.1
    have k : ((q.num + 1 : Int) : Rat) ≤ (((2 ^ n : Nat) : Int) : Rat) := Rat.intCast_le_intCast.mpr (by omega)
    rw [Rat.intCast_add] at k
    have e : ((1 : Int) : Rat) = 1 := rfl
    have e2 : (((2 ^ n : Nat) : Int) : Rat) = ((2 ^ n : Nat) : Rat) := rfl
    grind
  have hP := p2pos n
  by_cases hq : 0 < q
  · have := Rat.mul_nonneg (Rat.le_of_lt hq) (by grind : 0 ≤ (q.den : Rat) - 1)
    grind
  · grind
theorem p2add (n m : Nat) : (2 : Rat) ^ (n + m) = 2 ^ n * 2 ^ m := by
  induction m with
  | zero => rw [Nat.add_zero, Rat.pow_zero, Rat.mul_one]
  | succ m ih => rw [← Nat.add_assoc, Rat.pow_succ, ih, Rat.pow_succ, Rat.mul_assoc]
theorem inv_mono {n m : Nat} (h : n ≤ m) : 1 / (2 : Rat) ^ m ≤ 1 / 2 ^ n := by
  obtain ⟨k, rfl⟩ := Nat.le.dest h
  rw [p2add]
  have h1 := p2pos n
  have h2 : (1 : Rat) ≤ 2 ^ k := by
    rw [p2nat]
    have := Nat.pow_pos (n := k) (show 0 < 2 by decide)
    have : ((1 : Nat) : Rat) ≤ ((2 ^ k : Nat) : Rat) := Rat.natCast_le_natCast.mpr (by omega)
    simpa using this
  generalize (2 : Rat) ^ n = P at *
  generalize (2 : Rat) ^ k = Q at *
  have e1 : 1 / (P * Q) * (P * Q) = 1 := by
    have : P * Q ≠ 0 := by
      have := mp h1 (by grind : 0 < Q)
      grind
    grind
  have e2 : 1 / P * P = 1 := by grind
  have h3 : 0 < 1 / P := div_pos' (by decide) h1
  have hPQ := mp h1 (by grind : 0 < Q)
  generalize 1 / (P * Q) = u at *
  generalize 1 / P = v at *
  by_cases hc : u ≤ v
  · exact hc
  · have k1 : 0 < (u - v) * (P * Q) := mp (by grind) hPQ
    have k2 : v * (P * Q) = Q := by rw [← Rat.mul_assoc, e2, Rat.one_mul]
    grind
theorem K_of {B w : Rat} {n : Nat} (hB : Sz 2000 B) (hw : 1 / 2 ^ n ≤ w) : 2 * B / 2 ^ (2001 + n) ≤ w := by
  have h1 := sz_hi hB
  have hp := p2pos n
  have hq := p2pos 2000
  have e : (2 : Rat) ^ (2001 + n) = 2 * 2 ^ 2000 * 2 ^ n := by
    rw [p2add, show 2001 = 2000 + 1 by rfl, Rat.pow_succ]
    grind
  rw [e]
  generalize (2 : Rat) ^ 2000 = Q at *
  generalize (2 : Rat) ^ n = P at *
  have hpp := mp hq hp
  have e1 : 2 * B / (2 * Q * P) * (2 * Q * P) = 2 * B := by grind
  have e2 : 1 / P * P = 1 := by grind
  clear e
  generalize 2 * B / (2 * Q * P) = u at *
  generalize 1 / P = v at *
  have k : u ≤ v := by
    by_cases hc : u ≤ v
    · exact hc
    · have k1 := mp (by grind : 0 < u - v) (by grind : 0 < 2 * Q * P)
      have k2 : v * (2 * Q * P) = 2 * Q := by
        have : v * (2 * Q * P) = (v * P) * (2 * Q) := by grind
        rw [this, e2, Rat.one_mul]
      grind
  grind
/-! absolute values -/
theorem abs_ge (q : Rat) : q ≤ absR q ∧ -q ≤ absR q ∧ 0 ≤ absR q := by
  unfold absR
  split <;> grind
theorem sz_abs {n : Nat} {q : Rat} (h : Sz n q) : Sz n (absR q) := by
  unfold absR
  split
  · exact h.neg
  · exact h
theorem abs_one : absR 1 = 1 := rfl
theorem bnd_ok {f : List Rat} (hf : SzL 200 f) (lf : f.length ≤ 4) (hl : lst f = 1) (hne : f ≠ []) : BndOk f ∧ Sz 2000 (bnd f) := by
  have eB : BIG = 67000000 := rfl
  have h1 : SzL 202 (parts f) := fun c hc => by
    obtain ⟨x, hx, rfl⟩ := List.mem_map.mp hc
    rw [hl, abs_one]
    exact ((sz_abs (hf x hx)).div (Sz.one (n := 2) (by decide)))
  have lp : (parts f).length = f.length := List.length_map ..
  have key := fun i => sz_tot_take (k := 4) (by decide) h1 (by omega) i
  have kt := key (parts f).length
  rw [List.take_length] at kt
  refine ⟨⟨hf.sl (by omega), by omega, hne, by rw [hl]; decide, h1.sl (by omega), fun i _ => (key i).s (by omega), kt.s (by omega)⟩, ?_⟩
  unfold bnd
  exact ((Sz.one (n := 1) (by decide)).add kt).mono (by decide)
theorem bnd3 (r0 r1 : Rat) : bnd [r0, r1, 1] = absR r0 + absR r1 + 2 := by
  unfold bnd parts
  rw [lst3, abs_one]
  simp only [List.map_cons, List.map_nil, tot_cons, tot_nil, abs_one]
  grind
theorem bnd4 (r0 r1 r2 : Rat) : bnd [r0, r1, r2, 1] = absR r0 + absR r1 + absR r2 + 2 := by
  unfold bnd parts
  rw [lst4, abs_one]
  simp only [List.map_cons, List.map_nil, tot_cons, tot_nil, abs_one]
  grind
theorem big2 {r0 r1 x : Rat} (h : absR r0 + absR r1 + 1 ≤ x) : 0 < x * x + r1 * x + r0 := by
  obtain ⟨a1, a2, a3⟩ := abs_ge r0
  obtain ⟨b1, b2, b3⟩ := abs_ge r1
  have k1 := Rat.mul_nonneg (by grind : 0 ≤ x - (absR r0 + absR r1 + 1)) (by grind : 0 ≤ x)
  have k2 := Rat.mul_nonneg (by grind : 0 ≤ absR r1 + r1) (by grind : 0 ≤ x)
  have k3 := Rat.mul_nonneg a3 (by grind : 0 ≤ x - 1)
  grind
theorem big3 {r0 r1 r2 x : Rat} (h : absR r0 + absR r1 + absR r2 + 1 ≤ x) : 0 < x * x * x + r2 * (x * x) + r1 * x + r0 := by
  obtain ⟨a1, a2, a3⟩ := abs_ge r0
  obtain ⟨b1, b2, b3⟩ := abs_ge r1
  obtain ⟨c1, c2, c3⟩ := abs_ge r2
  have hx : 0 ≤ x - 1 := by grind
  have hxx := Rat.mul_nonneg (by grind : 0 ≤ x) hx
  have x2 : 0 < x * x := mp (by grind) (by grind)
  have k1 := Rat.mul_nonneg (by grind : 0 ≤ x - (absR r0 + absR r1 + absR r2 + 1)) (Rat.le_of_lt x2)
  have k2 := Rat.mul_nonneg (by grind : 0 ≤ absR r2 + r2) (Rat.le_of_lt x2)
  have k3 := Rat.mul_nonneg b3 hxx
  have k4 := Rat.mul_nonneg (by grind : 0 ≤ absR r1 + r1) (by grind : 0 ≤ x)
  have k5 := Rat.mul_nonneg a3 hxx
  have k6 := Rat.mul_nonneg a3 hx
  grind
theorem abs_neg (q : Rat) : absR (-q) = absR q := by
  unfold absR
  split <;> split <;> grind
/-! chains' asks -/
theorem Chn.chok {f : List Rat} {ch : List (List Rat)} (H : Chn f ch) {q : Rat} {n : Nat} (h : Sz n q) (hn : n ≤ 10000000) : ChOk ch (some q) := by
  have eB : BIG = 67000000 := rfl
  refine ⟨by have := H.len; omega, fun g hg => ?_⟩
  obtain ⟨g1, g2, g3⟩ := H.sz g hg
  refine ⟨g1, fun q' e => ?_⟩
  injection e with e
  subst e
  have hm : g.length * (6000 + n + 1) ≤ 4 * (6000 + n + 1) := Nat.mul_le_mul_right _ g3
  exact evOk (n := 6000) (m := n) (by decide) h.1 g2 h (by omega)
theorem Chn.hm {f : List Rat} {ch : List (List Rat)} (H : Chn f ch) {q : Rat} {n : Nat} (h : Sz n q) (hn : n ≤ 10000000) : HmOk f (some q) := by
  have eB : BIG = 67000000 := rfl
  have e := H.eq
  refine ⟨H.ne, H.pl, by rw [e]; exact H.ne, by rw [e]; exact H.sf.sl (by omega), by rw [e]; have := H.lf; omega, by rw [e]; exact H.ck, ?_, ?_⟩
  · rw [e, H.ce]
    exact ⟨by have := H.len; omega, fun g hg => ⟨(H.sz g hg).1, fun q' z => nomatch z⟩⟩
  · rw [e, H.ce]
    exact H.chok h hn
theorem far_odd {f : List Rat} (h : f.length % 2 = 1) (hl : 0 < lst f) : signFar f (-1) = 1 := by
  unfold signFar
  rw [if_neg (by omega), sgn_p hl]
theorem far_even {f : List Rat} (h : f.length % 2 = 0) (hl : 0 < lst f) : signFar f (-1) = -1 := by
  unfold signFar
  rw [if_pos ⟨by decide, h⟩, sgn_p hl]
  rfl
/-! degree two -/
def V2 (a b x : Rat) : Nat := (if x < a then 1 else 0) + (if x < -b then 1 else 0)
theorem count2 {p q : Rat} (h : p ≠ q) : alt [sgn (p * q), sgn (p + q), 1] = (if p < 0 then 1 else 0) + (if q < 0 then 1 else 0) := by
  rcases tri p with h1 | h1 | h1 <;> rcases tri q with h2 | h2 | h2
  · rw [sgn_p (nn h1 h2), sgn_n (by grind : p + q < 0), if_pos h1, if_pos h2]; rfl
  · rw [sgn_0 (by rw [h2]; grind : p * q = 0), sgn_n (by grind : p + q < 0), if_pos h1, if_neg (by grind : ¬ q < 0)]; rfl
  · rw [sgn_n (by have := mn h2 h1; grind : p * q < 0), if_pos h1, if_neg (by grind : ¬ q < 0)]
    rcases tri (p + q) with h3 | h3 | h3
    · rw [sgn_n h3]; rfl
    · rw [sgn_0 h3]; rfl
    · rw [sgn_p h3]; rfl
  · rw [sgn_0 (by rw [h1]; grind : p * q = 0), sgn_n (by grind : p + q < 0), if_neg (by grind : ¬ p < 0), if_pos h2]; rfl
  · exact absurd (h1.trans h2.symm) h
  · rw [sgn_0 (by rw [h1]; grind : p * q = 0), sgn_p (by grind : 0 < p + q), if_neg (by grind : ¬ p < 0), if_neg (by grind : ¬ q < 0)]; rfl
  · rw [sgn_n (mn h1 h2), if_neg (by grind : ¬ p < 0), if_pos h2]
    rcases tri (p + q) with h3 | h3 | h3
    · rw [sgn_n h3]; rfl
    · rw [sgn_0 h3]; rfl
    · rw [sgn_p h3]; rfl
  · rw [sgn_0 (by rw [h2]; grind : p * q = 0), sgn_p (by grind : 0 < p + q), if_neg (by grind : ¬ p < 0), if_neg (by grind : ¬ q < 0)]; rfl
  · rw [sgn_p (mp h1 h2), sgn_p (by grind : 0 < p + q), if_neg (by grind : ¬ p < 0), if_neg (by grind : ¬ q < 0)]; rfl
theorem cnt2 {a b : Rat} (ha : Sz 5 a) (hR : SzL 200 [-(a * b), b - a, 1]) (hn : a + b ≠ 0) :
    Chn [-(a * b), b - a, 1] [[-(a * b), b - a, 1], [b - a, 2], [dc2 (-(a * b)) (b - a) / 4]] ∧ Cnt [[-(a * b), b - a, 1], [b - a, 2], [dc2 (-(a * b)) (b - a) / 4]] (bnd [-(a * b), b - a, 1]) 2 5000 (V2 a b) ∧ chg [[-(a * b), b - a, 1], [b - a, 2], [dc2 (-(a * b)) (b - a) / 4]] none (-1) = 2 := by
  have hd : 0 < dc2 (-(a * b)) (b - a) := by
    have e : dc2 (-(a * b)) (b - a) = (a + b) * (a + b) := by unfold dc2; grind
    rw [e]
    have := sq0 (a + b)
    have : (a + b) * (a + b) ≠ 0 := by grind
    grind
  have H := chn2 (hR _ (by simp)) (hR _ (by simp)) hd
  obtain ⟨bk, sB⟩ := bnd_ok H.sf H.lf H.l1 H.ne
  have eb := bnd3 (-(a * b)) (b - a)
  have g1 := abs_ge (-(a * b))
  have g2 := abs_ge (b - a)
  have hk4 : 0 < dc2 (-(a * b)) (b - a) / 4 := by grind
  -- the roots lie inside
  have inn : ∀ r, r * r + (b - a) * r + -(a * b) = 0 → -(bnd [-(a * b), b - a, 1]) < r ∧ r ≤ bnd [-(a * b), b - a, 1] := by
    intro r hr
    rw [eb]
    constructor
    · by_cases hc : -(absR (-(a * b)) + absR (b - a) + 2) < r
      · exact hc
      · have := big2 (r0 := -(a * b)) (r1 := -(b - a)) (x := -r) (by rw [abs_neg (b - a)]; grind)
        grind
    · by_cases hc : r ≤ absR (-(a * b)) + absR (b - a) + 2
      · exact hc
      · have := big2 (r0 := -(a * b)) (r1 := b - a) (x := r) (by grind)
        grind
  have ia := inn a (by grind)
  have ib := inn (-b) (by grind)
  refine ⟨H, ⟨fun x side => ?_, fun x y h => ?_, ?_, ?_, fun x y _ h _ hw => ?_, sB, by grind, fun q n h hn => H.chok h hn, by decide⟩, ?_⟩
  · show alt [sgn (ev [-(a * b), b - a, 1] x), sgn (ev [b - a, 2] x), sgn (ev [dc2 (-(a * b)) (b - a) / 4] x)] = _
    rw [ev3, ev2, show ev [dc2 (-(a * b)) (b - a) / 4] x = dc2 (-(a * b)) (b - a) / 4 by rw [ev_cons, ev_nil]; grind, sgn_p hk4]
    have c := count2 (p := x - a) (q := x + b) (by grind)
    rw [show -(a * b) + (b - a) * x + 1 * x ^ 2 = (x - a) * (x + b) by grind, show b - a + 2 * x = (x - a) + (x + b) by grind, c]
    unfold V2
    congr 1
    · by_cases h : x < a
      · rw [if_pos h, if_pos (by grind : x - a < 0)]
      · rw [if_neg h, if_neg (by grind : ¬ x - a < 0)]
    · by_cases h : x < -b
      · rw [if_pos h, if_pos (by grind : x + b < 0)]
      · rw [if_neg h, if_neg (by grind : ¬ x + b < 0)]
  · unfold V2
    have t1 : (if y < a then 1 else 0) ≤ (if x < a then 1 else 0) := by
      by_cases h1 : y < a
      · rw [if_pos h1, if_pos (by grind : x < a)]; exact Nat.le_refl _
      · rw [if_neg h1]; exact Nat.zero_le _
    have t2 : (if y < -b then 1 else 0) ≤ (if x < -b then 1 else 0) := by
      by_cases h1 : y < -b
      · rw [if_pos h1, if_pos (by grind : x < -b)]; exact Nat.le_refl _
      · rw [if_neg h1]; exact Nat.zero_le _
    exact Nat.add_le_add t1 t2
  · unfold V2
    rw [if_pos (by grind : 0 - bnd [-(a * b), b - a, 1] < a), if_pos (by grind : 0 - bnd [-(a * b), b - a, 1] < -b)]
  · unfold V2
    rw [if_neg (by grind : ¬ bnd [-(a * b), b - a, 1] < a), if_neg (by grind : ¬ bnd [-(a * b), b - a, 1] < -b)]
  · have sb : Sz 206 b := by
      have := (hR (b - a) (by simp)).add ha
      rwa [show b - a + a = b by grind] at this
    have sab : Sz 5000 (absR (a + b)) := sz_abs ((ha.add sb).mono (by decide))
    have g3 := abs_ge (a + b)
    have hpos : 0 < absR (a + b) := by
      unfold absR
      split <;> grind
    have := sz_lo sab hpos
    have hab : absR (a + b) = a + b ∨ absR (a + b) = -(a + b) := by
      unfold absR
      split
      · exact .inr rfl
      · exact .inl rfl
    generalize absR (a + b) = A at *
    generalize 1 / (2 : Rat) ^ 5000 = e at *
    unfold V2
    by_cases h1 : x < a
    · by_cases h2 : x < -b
      · by_cases h3 : y < a
        · rw [if_pos h1, if_pos h2, if_pos h3]
          omega
        · by_cases h4 : y < -b
          · rw [if_pos h1, if_pos h2, if_pos h4]
            omega
          · exfalso
            rcases hab with hab | hab <;> grind
      · rw [if_neg h2]
        split <;> omega
    · rw [if_neg h1]
      split <;> omega
  · show alt [signFar [-(a * b), b - a, 1] (-1), signFar [b - a, 2] (-1), signFar [dc2 (-(a * b)) (b - a) / 4] (-1)] = 2
    rw [far_odd (f := [-(a * b), b - a, 1]) (by simp) (by rw [lst3]; decide), far_even (f := [b - a, 2]) (by simp) (by rw [lst2]; decide), far_odd (f := [dc2 (-(a * b)) (b - a) / 4]) (by simp) (by rw [lst1]; exact hk4)]
    rfl
end M66
/-! The plain law, part 23: the counts of degree three. -/
namespace M66
theorem cqv_tri {de : Rat} (hd : 0 < de) (u : Rat) : (0 < u * u - de ∧ u < 0 ∧ cqv u de = 2) ∨ ((u * u - de < 0 ∨ (u * u - de = 0 ∧ u < 0)) ∧ cqv u de = 1) ∨ (0 ≤ u * u - de ∧ 0 < u ∧ cqv u de = 0) := by
  have u0 : 0 ≤ u * u - de → u ≠ 0 := fun h z => by
    rw [z] at h
    grind
  rcases tri (u * u - de) with h | h | h
  · exact .inr (.inl ⟨.inl h, cqv_in h⟩)
  · by_cases hu : u < 0
    · exact .inr (.inl ⟨.inr ⟨h, hu⟩, cqv_0n h hu⟩)
    · have := u0 (by grind)
      exact .inr (.inr ⟨by grind, by grind, cqv_0p h hu⟩)
  · by_cases hu : u < 0
    · exact .inl ⟨h, hu, cqv_n h hu⟩
    · have := u0 (by grind)
      exact .inr (.inr ⟨by grind, by grind, cqv_p h hu⟩)
theorem cqv_anti {de u w : Rat} (hd : 0 < de) (h : u ≤ w) : cqv w de ≤ cqv u de := by
  rcases cqv_tri hd w with ⟨a1, a2, a3⟩ | ⟨a1, a3⟩ | ⟨a1, a2, a3⟩
  · rcases cqv_tri hd u with ⟨b1, b2, b3⟩ | ⟨b1, b3⟩ | ⟨b1, b2, b3⟩
    · omega
    · exfalso
      have k1 := Rat.mul_nonneg (by grind : 0 ≤ -u) (by grind : 0 ≤ w - u)
      have k2 := Rat.mul_nonneg (by grind : 0 ≤ -w) (by grind : 0 ≤ w - u)
      rcases b1 with b1 | b1 <;> grind
    · exfalso
      grind
  · rcases cqv_tri hd u with ⟨b1, b2, b3⟩ | ⟨b1, b3⟩ | ⟨b1, b2, b3⟩
    · omega
    · omega
    · exfalso
      have k1 := Rat.mul_nonneg (by grind : 0 ≤ u) (by grind : 0 ≤ w - u)
      have k2 := Rat.mul_nonneg (by grind : 0 ≤ w) (by grind : 0 ≤ w - u)
      rcases a1 with a1 | a1 <;> grind
  · omega
def V3 (a b c x : Rat) : Nat := (if x < a then 1 else 0) + cqv (x + b / 2) ((b * b - 4 * c) / 4)
theorem sgn_scale {k q : Rat} (h : 0 < k) : sgn (k * q) = sgn q := by
  rcases tri q with h1 | h1 | h1
  · rw [sgn_n (mn h h1), sgn_n h1]
  · rw [h1, Rat.mul_zero]
  · rw [sgn_p (mp h h1), sgn_p h1]
def chn3L (r0 r1 r2 : Rat) : List (List Rat) := [[r0, r1, r2, 1], [r1, 2 * r2, 3], [c30 r0 r1 r2, c31 r1 r2], [c3k r0 r1 r2]]
theorem cnt3 {a b c : Rat} (ha : Sz 5 a) (hR : SzL 200 [-(a * c), c - a * b, b - a, 1]) (hn : a ^ 2 + b * a + c ≠ 0) (hd : 0 < b * b - 4 * c) :
    Chn [-(a * c), c - a * b, b - a, 1] (chn3L (-(a * c)) (c - a * b) (b - a)) ∧ Cnt (chn3L (-(a * c)) (c - a * b) (b - a)) (bnd [-(a * c), c - a * b, b - a, 1]) 3 5000 (V3 a b c) ∧ chg (chn3L (-(a * c)) (c - a * b) (b - a)) none (-1) = 3 := by
  have hde : 0 < (b * b - 4 * c) / 4 := by grind
  have hd3 : 0 < dc3 (-(a * c)) (c - a * b) (b - a) := by
    have e : dc3 (-(a * c)) (c - a * b) (b - a) = (a ^ 2 + b * a + c) * (a ^ 2 + b * a + c) * (b * b - 4 * c) := by
      unfold dc3
      grind
    rw [e]
    have k := sq0 (a ^ 2 + b * a + c)
    have k2 : (a ^ 2 + b * a + c) * (a ^ 2 + b * a + c) ≠ 0 := by
      generalize a ^ 2 + b * a + c = q at *
      grind
    exact mp (by grind) hd
  have hp : 0 < (b - a) ^ 2 - 3 * (c - a * b) := by
    have := sq0 (a + b / 2)
    grind
  have H := chn3 (hR _ (by simp)) (hR _ (by simp)) (hR _ (by simp)) hd3 hp
  have hc1 : 0 < c31 (c - a * b) (b - a) := by unfold c31; grind
  have hkp : 0 < c3k (-(a * c)) (c - a * b) (b - a) := by
    unfold c3k
    exact div_pos' (div_pos' hd3 (by decide)) (mp hc1 hc1)
  obtain ⟨bk, sB⟩ := bnd_ok H.sf H.lf H.l1 H.ne
  have eb := bnd4 (-(a * c)) (c - a * b) (b - a)
  have g0 := abs_ge (-(a * c))
  have g1 := abs_ge (c - a * b)
  have g2 := abs_ge (b - a)
  -- signs beyond
  have ff : ∀ x : Rat, x * x * x + (b - a) * (x * x) + (c - a * b) * x + -(a * c) = (x - a) * (x * x + b * x + c) := fun x => by grind
  have up : ∀ x, bnd [-(a * c), c - a * b, b - a, 1] - 1 ≤ x → 0 < (x - a) * (x * x + b * x + c) := fun x hx => by
    rw [← ff]
    exact big3 (by grind)
  have dn : ∀ x, x ≤ -(bnd [-(a * c), c - a * b, b - a, 1] - 1) → (x - a) * (x * x + b * x + c) < 0 := fun x hx => by
    have := big3 (r0 := -(-(a * c))) (r1 := c - a * b) (r2 := -(b - a)) (x := -x) (by rw [abs_neg (-(a * c)), abs_neg (b - a)]; grind)
    rw [← ff]
    grind
  generalize hBd : bnd [-(a * c), c - a * b, b - a, 1] = B at *
  have B2 : 2 ≤ B := by grind
  have a1 : a < B - 1 := by
    by_cases h : a < B - 1
    · exact h
    · have := up a (by grind)
      grind
  have a2 : -(B - 1) < a := by
    by_cases h : -(B - 1) < a
    · exact h
    · have := dn a (by grind)
      grind
  have qu : ∀ x, B - 1 ≤ x → 0 < x * x + b * x + c := fun x hx => by
    by_cases h : 0 < x * x + b * x + c
    · exact h
    · have h1 := up x hx
      have h2 := Rat.mul_nonneg (by grind : 0 ≤ x - a) (by grind : 0 ≤ -(x * x + b * x + c))
      grind
  have qd : ∀ x, x ≤ -(B - 1) → 0 < x * x + b * x + c := fun x hx => by
    by_cases h : 0 < x * x + b * x + c
    · exact h
    · have h1 := dn x hx
      have h2 := Rat.mul_nonneg (by grind : 0 ≤ -(x - a)) (by grind : 0 ≤ -(x * x + b * x + c))
      grind
  have vq : ∀ x : Rat, (x + b / 2) * (x + b / 2) - (b * b - 4 * c) / 4 = x * x + b * x + c := fun x => by grind
  have vert : -(B - 1) < -(b / 2) ∧ -(b / 2) < B - 1 := by
    have e : -(b / 2) * -(b / 2) + b * -(b / 2) + c = -((b * b - 4 * c) / 4) := by grind
    constructor
    · by_cases h : -(B - 1) < -(b / 2)
      · exact h
      · have := qd (-(b / 2)) (by grind)
        grind
    · by_cases h : -(b / 2) < B - 1
      · exact h
      · have := qu (-(b / 2)) (by grind)
        grind
  refine ⟨H, ⟨fun x side => ?_, fun x y h => ?_, ?_, ?_, fun x y hx h hy hw => ?_, sB, by grind, fun q n h hn => H.chok h hn, by decide⟩, ?_⟩
  · show alt [sgn (ev [-(a * c), c - a * b, b - a, 1] x), sgn (ev [c - a * b, 2 * (b - a), 3] x), sgn (ev [c30 (-(a * c)) (c - a * b) (b - a), c31 (c - a * b) (b - a)] x), sgn (ev [c3k (-(a * c)) (c - a * b) (b - a)] x)] = _
    have e3 : ev [c3k (-(a * c)) (c - a * b) (b - a)] x = c3k (-(a * c)) (c - a * b) (b - a) := by rw [ev_cons, ev_nil]; grind
    rw [e3, sgn_p hkp, ev4, ev3, ev2]
    have ct := count3 (v := x + b / 2) (al := a + b / 2) hde (by
      rw [vq]
      intro z
      exact hn (by grind))
    have k0 : -(a * c) + (c - a * b) * x + (b - a) * x ^ 2 + 1 * x ^ 3 = (x + b / 2 - (a + b / 2)) * ((x + b / 2) * (x + b / 2) - (b * b - 4 * c) / 4) := by grind
    have k1 : c - a * b + 2 * (b - a) * x + 3 * x ^ 2 = 3 * ((x + b / 2) * (x + b / 2)) - 2 * (a + b / 2) * (x + b / 2) - (b * b - 4 * c) / 4 := by grind
    have k2 : c30 (-(a * c)) (c - a * b) (b - a) + c31 (c - a * b) (b - a) * x = 2 / 9 * ((x + b / 2) * (3 * ((b * b - 4 * c) / 4) + (a + b / 2) * (a + b / 2)) - 4 * (a + b / 2) * ((b * b - 4 * c) / 4)) := by
      unfold c30 c31
      grind
    rw [k0, k1, k2, sgn_scale (k := 2 / 9) (by grind), ct]
    unfold V3
    congr 1
    by_cases h : x < a
    · rw [if_pos h, if_pos (by grind : x + b / 2 < a + b / 2)]
    · rw [if_neg h, if_neg (by grind : ¬ x + b / 2 < a + b / 2)]
  · unfold V3
    refine Nat.add_le_add ?_ (cqv_anti hde (by grind))
    by_cases h1 : y < a
    · rw [if_pos h1, if_pos (by grind : x < a)]; exact Nat.le_refl _
    · rw [if_neg h1]; exact Nat.zero_le _
  · unfold V3
    rw [if_pos (by grind : 0 - B < a), cqv_n (by rw [vq]; exact qd _ (by grind)) (by grind)]
  · unfold V3
    rw [if_neg (by grind : ¬ B < a), cqv_p (by rw [vq]; exact qu _ (by grind)) (by grind)]
  · have sb : Sz 206 b := by
      have := (hR (b - a) (by simp)).add ha
      rwa [show b - a + a = b by grind] at this
    have sc : Sz 412 c := by
      have := (hR (c - a * b) (by simp)).add (ha.mul sb)
      rw [show c - a * b + a * b = c by grind] at this
      exact this.mono (by decide)
    have sde : Sz 5000 ((b * b - 4 * c) / 4) := (((sb.mul sb).sub (sz4.mul sc)).div sz4).mono (by decide)
    have sqa : Sz 700 (a * a + b * a + c) := (((ha.mul ha).add (sb.mul ha)).add sc).mono (by decide)
    have gb := abs_ge b
    have hM : 0 < 2 * B + absR b := by grind
    have sM : Sz 2300 (2 * B + absR b) := ((sz2.mul sB).add (sz_abs sb)).mono (by decide)
    have gq := abs_ge (a * a + b * a + c)
    have hq0 : a * a + b * a + c ≠ 0 := fun z => hn (by grind)
    have hqa : 0 < absR (a * a + b * a + c) := by
      unfold absR
      split <;> grind
    have l1 := sz_lo sde hde
    have l2 := sz_lo (((sz_abs sqa).div sM).mono (by decide : 700 + 2300 ≤ 5000)) (div_pos' hqa hM)
    have l3 : 1 / (2 : Rat) ^ 5000 ≤ 1 := by
      have := inv_mono (Nat.zero_le 5000)
      rwa [show 1 / (2 : Rat) ^ 0 = 1 by rw [Rat.pow_zero]; grind] at this
    have habs : absR (a * a + b * a + c) = a * a + b * a + c ∨ absR (a * a + b * a + c) = -(a * a + b * a + c) := by
      unfold absR
      split
      · exact .inr rfl
      · exact .inl rfl
    generalize 1 / (2 : Rat) ^ 5000 = e at *
    have l4 : e * (2 * B + absR b) < absR (a * a + b * a + c) := by
      have t : absR (a * a + b * a + c) / (2 * B + absR b) * (2 * B + absR b) = absR (a * a + b * a + c) := by
        generalize absR (a * a + b * a + c) = A
        generalize 2 * B + absR b = M at *
        grind
      have := mp (by grind : 0 < absR (a * a + b * a + c) / (2 * B + absR b) - e) hM
      grind
    have hVc : ∀ {p q : Rat}, x ≤ p → p ≤ q → q ≤ y → (q * q + b * q + c) - (p * p + b * p + c) ≤ e * (2 * B + absR b) ∧ (p * p + b * p + c) - (q * q + b * q + c) ≤ e * (2 * B + absR b) := by
      intro p q h1 h2 h3
      have t1 := Rat.mul_nonneg (by grind : 0 ≤ q - p) (by grind : 0 ≤ (2 * B + absR b) - (q + p + b))
      have t2 := Rat.mul_nonneg (by grind : 0 ≤ q - p) (by grind : 0 ≤ (2 * B + absR b) + (q + p + b))
      have t3 := Rat.mul_nonneg (by grind : 0 ≤ e - (q - p)) (Rat.le_of_lt hM)
      generalize 2 * B + absR b = M at *
      constructor <;> grind
    have two0 : cqv (x + b / 2) ((b * b - 4 * c) / 4) = 2 → cqv (y + b / 2) ((b * b - 4 * c) / 4) = 0 → False := by
      intro h1 h2
      rcases cqv_tri hde (x + b / 2) with ⟨a1, a2, a3⟩ | ⟨a1, a3⟩ | ⟨a1, a2, a3⟩
      · rcases cqv_tri hde (y + b / 2) with ⟨b1, b2, b3⟩ | ⟨b1, b3⟩ | ⟨b1, b2, b3⟩
        · omega
        · omega
        · have t1 := mn b2 a2
          have t2 := Rat.mul_nonneg (by grind : 0 ≤ 1 - (y - x)) (by grind : 0 ≤ y - x)
          grind
      · omega
      · omega
    have cx := cqv_tri hde (x + b / 2)
    have cy := cqv_tri hde (y + b / 2)
    have an := cqv_anti hde (by grind : x + b / 2 ≤ y + b / 2)
    rw [vq] at cx cy
    unfold V3
    by_cases h1 : x < a
    · by_cases h2 : y < a
      · rw [if_pos h1, if_pos h2]
        rcases cx with ⟨c1, c2, c3⟩ | ⟨c1, c3⟩ | ⟨c1, c2, c3⟩ <;> rcases cy with ⟨d1, d2, d3⟩ | ⟨d1, d3⟩ | ⟨d1, d2, d3⟩ <;> first | omega | exact (two0 c3 d3).elim
      · rw [if_pos h1, if_neg h2]
        have w1 := hVc (p := x) (q := a) (by grind) (by grind) (by grind)
        have w2 := hVc (p := a) (q := y) (by grind) (by grind) (by grind)
        generalize e * (2 * B + absR b) = E at *
        generalize absR (a * a + b * a + c) = A at *
        rcases cx with ⟨c1, c2, c3⟩ | ⟨c1, c3⟩ | ⟨c1, c2, c3⟩ <;> rcases cy with ⟨d1, d2, d3⟩ | ⟨d1, d3⟩ | ⟨d1, d2, d3⟩
        · omega
        · exfalso
          have d1 : y * y + b * y + c ≤ 0 := by rcases d1 with d1 | d1 <;> grind
          rcases habs with habs | habs <;> grind
        · exact (two0 c3 d3).elim
        · omega
        · omega
        · exfalso
          have c1 : x * x + b * x + c ≤ 0 := by rcases c1 with c1 | c1 <;> grind
          rcases habs with habs | habs <;> grind
        · omega
        · omega
        · omega
    · rw [if_neg h1, if_neg (by grind : ¬ y < a)]
      rcases cx with ⟨c1, c2, c3⟩ | ⟨c1, c3⟩ | ⟨c1, c2, c3⟩ <;> rcases cy with ⟨d1, d2, d3⟩ | ⟨d1, d3⟩ | ⟨d1, d2, d3⟩ <;> first | omega | exact (two0 c3 d3).elim
  · show alt [signFar [-(a * c), c - a * b, b - a, 1] (-1), signFar [c - a * b, 2 * (b - a), 3] (-1), signFar [c30 (-(a * c)) (c - a * b) (b - a), c31 (c - a * b) (b - a)] (-1), signFar [c3k (-(a * c)) (c - a * b) (b - a)] (-1)] = 3
    rw [far_even (f := [-(a * c), c - a * b, b - a, 1]) (by simp) (by rw [lst4]; decide), far_odd (f := [c - a * b, 2 * (b - a), 3]) (by simp) (by rw [lst3]; decide), far_even (f := [c30 (-(a * c)) (c - a * b) (b - a), c31 (c - a * b) (b - a)]) (by simp) (by rw [lst2]; exact hc1), far_odd (f := [c3k (-(a * c)) (c - a * b) (b - a)]) (by simp) (by rw [lst1]; exact hkp)]
    rfl
end M66
/-! The plain law, part 24: numbers with a square root. -/
namespace M66
theorem sq_le {x y : Rat} (hy : 0 ≤ y) (h : x * x ≤ y * y) : x ≤ y := by
  by_cases hc : x ≤ y
  · exact hc
  · have := mp (by grind : 0 < x - y) (by grind : 0 < x + y)
    grind
/-- A + B s is not below nought, s the square root of d -/
def nng (d A B : Rat) : Prop := (0 ≤ A ∧ d * (B * B) ≤ A * A) ∨ (0 ≤ B ∧ A * A ≤ d * (B * B))
section
variable {d A B C E : Rat}
theorem nng_rat (h : 0 ≤ A) : nng d A 0 := .inl ⟨h, by
  have := sq0 A
  grind⟩
theorem nng_of0 (hd : 0 < d) (h : nng d A 0) : 0 ≤ A := by
  rcases h with h | h
  · exact h.1
  · have h2 : A * A ≤ 0 := by grind
    have h3 := sq0 A
    have h4 : A * A = 0 := by grind
    by_cases hA : A = 0
    · grind
    · grind
theorem prod_le {p q r t : Rat} (h1 : 0 ≤ p) (h2 : p ≤ q) (h3 : 0 ≤ r) (h4 : r ≤ t) : p * r ≤ q * t := by
  have a1 := Rat.mul_nonneg (by grind : 0 ≤ q - p) h3
  have a2 := Rat.mul_nonneg (by grind : 0 ≤ q) (by grind : 0 ≤ t - r)
  grind
theorem dn (hd : 0 < d) (B : Rat) : 0 ≤ d * (B * B) := Rat.mul_nonneg (Rat.le_of_lt hd) (sq0 B)
theorem nng_mul12 (hd : 0 < d) (h1 : 0 ≤ A ∧ d * (B * B) ≤ A * A) (h2 : 0 ≤ E ∧ C * C ≤ d * (E * E)) : nng d (A * C + d * (B * E)) (A * E + B * C) := by
  refine .inr ⟨?_, ?_⟩
  · have k := sq_le (x := -(B * C)) (y := A * E) (Rat.mul_nonneg h1.1 h2.1) (by
      have t1 := prod_le (dn hd B) h1.2 (sq0 C) h2.2
      have t2 : 0 ≤ d * (A * E * (A * E) - B * C * (B * C)) := by grind
      by_cases hc : -(B * C) * -(B * C) ≤ A * E * (A * E)
      · exact hc
      · have := mp hd (by grind : 0 < B * C * (B * C) - A * E * (A * E))
        grind)
    grind
  · have := Rat.mul_nonneg (by grind : 0 ≤ A * A - d * (B * B)) (by grind : 0 ≤ d * (E * E) - C * C)
    grind
theorem nng_mul (hd : 0 < d) (h1 : nng d A B) (h2 : nng d C E) : nng d (A * C + d * (B * E)) (A * E + B * C) := by
  rcases h1 with h1 | h1
  · rcases h2 with h2 | h2
    · refine .inl ⟨?_, ?_⟩
      · have k := sq_le (x := -(d * (B * E))) (y := A * C) (Rat.mul_nonneg h1.1 h2.1) (by
          have := prod_le (dn hd B) h1.2 (dn hd E) h2.2
          grind)
        grind
      · have := Rat.mul_nonneg (by grind : 0 ≤ A * A - d * (B * B)) (by grind : 0 ≤ C * C - d * (E * E))
        grind
    · exact nng_mul12 hd h1 h2
  · rcases h2 with h2 | h2
    · have := nng_mul12 hd h2 h1
      rw [show A * C + d * (B * E) = C * A + d * (E * B) by grind, show A * E + B * C = C * B + E * A by grind]
      exact this
    · refine .inl ⟨?_, ?_⟩
      · have k := sq_le (x := -(A * C)) (y := d * (B * E)) (Rat.mul_nonneg (Rat.le_of_lt hd) (Rat.mul_nonneg h1.1 h2.1)) (by
          have := prod_le (sq0 A) h1.2 (sq0 C) h2.2
          grind)
        grind
      · have := Rat.mul_nonneg (by grind : 0 ≤ d * (B * B) - A * A) (by grind : 0 ≤ d * (E * E) - C * C)
        grind
theorem nng_add12 (hd : 0 < d) (h1 : 0 ≤ A ∧ d * (B * B) ≤ A * A) (h2 : 0 ≤ E ∧ C * C ≤ d * (E * E)) : nng d (A + C) (B + E) := by
  obtain ⟨hA, hB⟩ := h1
  obtain ⟨hE, hC⟩ := h2
  by_cases hs : 0 ≤ A + C
  · by_cases hN : d * ((B + E) * (B + E)) ≤ (A + C) * (A + C)
    · exact .inl ⟨hs, hN⟩
    · refine .inr ⟨?_, by grind⟩
      by_cases hc : 0 ≤ B + E
      · exact hc
      · exfalso
        have hh : 0 < -B - E := by grind
        by_cases hC0 : 0 ≤ C
        · have t1 : 0 ≤ (-B - (-B - E)) * (-B + (-B - E)) := Rat.mul_nonneg (by grind) (by grind)
          have t2 := Rat.mul_nonneg (Rat.le_of_lt hd) t1
          have t3 := Rat.mul_nonneg hC0 (by grind : 0 ≤ A + A + C)
          grind
        · have k := sq_le (x := (A + C) * -C) (y := d * ((-B - E) * E)) (Rat.mul_nonneg (Rat.le_of_lt hd) (Rat.mul_nonneg (Rat.le_of_lt hh) hE)) (by
            have := prod_le (sq0 (A + C)) (by grind : (A + C) * (A + C) ≤ d * ((B + E) * (B + E))) (sq0 C) hC
            grind)
          grind
  · have hg : 0 < -C - A := by grind
    by_cases hB0 : 0 ≤ B
    · refine .inr ⟨by grind, ?_⟩
      have t1 := Rat.mul_nonneg (Rat.le_of_lt hd) (Rat.mul_nonneg hB0 (by grind : 0 ≤ B + E + E))
      have t2 := Rat.mul_nonneg hA (by grind : 0 ≤ -C - A + -C)
      grind
    · have kE : 0 ≤ B + E := by
        by_cases hc : 0 ≤ B + E
        · exact hc
        · exfalso
          have t1 : 0 ≤ (-B - E) * (-B + E) := Rat.mul_nonneg (by grind) (by grind)
          have t2 := Rat.mul_nonneg (Rat.le_of_lt hd) t1
          have t3 := mp hg (by grind : 0 < -C + A)
          grind
      refine .inr ⟨kE, ?_⟩
      by_cases hN : (A + C) * (A + C) ≤ d * ((B + E) * (B + E))
      · exact hN
      · exfalso
        have k := sq_le (x := d * (-B * (B + E))) (y := A * (-C - A)) (Rat.mul_nonneg hA (Rat.le_of_lt hg)) (by
          have := prod_le (dn hd B) hB (dn hd (B + E)) (by grind : d * ((B + E) * (B + E)) ≤ (A + C) * (A + C))
          grind)
        grind
theorem nng_add (hd : 0 < d) (h1 : nng d A B) (h2 : nng d C E) : nng d (A + C) (B + E) := by
  rcases h1 with h1 | h1
  · rcases h2 with h2 | h2
    · refine .inl ⟨by grind, ?_⟩
      have k := sq_le (x := d * (B * E)) (y := A * C) (Rat.mul_nonneg h1.1 h2.1) (by
        have := prod_le (dn hd B) h1.2 (dn hd E) h2.2
        grind)
      grind
    · exact nng_add12 hd h1 h2
  · rcases h2 with h2 | h2
    · have := nng_add12 hd h2 h1
      rw [show A + C = C + A by grind, show B + E = E + B by grind]
      exact this
    · refine .inr ⟨by grind, ?_⟩
      have k := sq_le (x := A * C) (y := d * (B * E)) (Rat.mul_nonneg (Rat.le_of_lt hd) (Rat.mul_nonneg h1.1 h2.1)) (by
        have := prod_le (sq0 A) h1.2 (sq0 C) h2.2
        grind)
      grind
theorem nng.cast {A' B' : Rat} (h : nng d A B) (h1 : A = A') (h2 : B = B') : nng d A' B' := by
  rw [← h1, ← h2]
  exact h
theorem nng_scale (hd : 0 < d) {k : Rat} (hk : 0 ≤ k) (h : nng d A B) : nng d (k * A) (k * B) := (nng_mul hd (nng_rat hk) h).cast (by grind) (by grind)
theorem nng_sq (hd : 0 < d) (A B : Rat) : nng d (A * A + d * (B * B)) (2 * (A * B)) := by
  refine .inl ⟨?_, ?_⟩
  · have := sq0 A
    have := dn hd B
    grind
  · have := sq0 (A * A - d * (B * B))
    grind
end
end M66
/-! The plain law, part 25: the weights of a flock of degree three beside the told root. -/
namespace M66
def sqd (b c : Rat) : Rat := (b * b - 4 * c) / 4
def wA (b c y0 y1 y2 : Rat) : Rat := y0 - y1 * (b / 2) + y2 * (b * b / 4 + sqd b c)
def wB (b y1 y2 : Rat) : Rat := y1 - y2 * b
section
variable {C : ICr} {a b c y0 y1 y2 x y z u v w : Rat} {P Q : List Rat}
/-- the sum of a square, by the flock -/
theorem exact3 (K : Fk3 C a P Q b c y0 y1 y2) (o0 : mo C 3 + (b - a) * mo C 2 + (c - a * b) * mo C 1 + -(a * c) * mo C 0 = 0) (o1 : mo C 4 + (b - a) * mo C 3 + (c - a * b) * mo C 2 + -(a * c) * mo C 1 = 0) (c0 c1 c2 : Rat) :
    LC C (fun t => (c0 + c1 * t + c2 * t ^ 2) * (c0 + c1 * t + c2 * t ^ 2)) = (y0 + y1 * a + y2 * a ^ 2) * ((c0 + c1 * a + c2 * a ^ 2) * (c0 + c1 * a + c2 * a ^ 2)) + 2 * (wA b c y0 y1 y2 * ((c0 - c1 * (b / 2) + c2 * (b * b / 4 + sqd b c)) * (c0 - c1 * (b / 2) + c2 * (b * b / 4 + sqd b c)) + sqd b c * ((c1 - c2 * b) * (c1 - c2 * b))) + 2 * (sqd b c * (wB b y1 y2 * ((c0 - c1 * (b / 2) + c2 * (b * b / 4 + sqd b c)) * (c1 - c2 * b))))) := by
  rw [LC_pe C (a := c0 * c0) (b := 2 * c0 * c1) (c := c1 * c1 + 2 * c0 * c2) (d := 2 * c1 * c2) (e := c2 * c2) (f := 0) fun t => by grind]
  have k0 := K.k0
  have k1 := K.k1
  have k2 := K.k2
  unfold wA wB sqd
  have e3 : mo C 3 = -((b - a) * mo C 2) - (c - a * b) * mo C 1 + a * c * mo C 0 := by grind
  have e4 : mo C 4 = -((b - a) * mo C 3) - (c - a * b) * mo C 2 + a * c * mo C 1 := by grind
  rw [e4, e3, ← k0, ← k1, ← k2]
  clear e3 e4 k0 k1 k2 o0 o1 K
  grind
/-- the weight at the root -/
theorem at3 (K : Fk3 C a P Q b c y0 y1 y2) : (y0 + y1 * a + y2 * a ^ 2) * (a ^ 2 + b * a + c) = mo C 2 + b * mo C 1 + c * mo C 0 := by
  rw [← K.k0, ← K.k1, ← K.k2]
  grind
theorem atsq3 (K : Fk3 C a P Q b c y0 y1 y2) (o0 : mo C 3 + (b - a) * mo C 2 + (c - a * b) * mo C 1 + -(a * c) * mo C 0 = 0) (o1 : mo C 4 + (b - a) * mo C 3 + (c - a * b) * mo C 2 + -(a * c) * mo C 1 = 0) : LC C (fun t => (c + b * t + 1 * t ^ 2) * (c + b * t + 1 * t ^ 2)) = (y0 + y1 * a + y2 * a ^ 2) * ((a ^ 2 + b * a + c) * (a ^ 2 + b * a + c)) := by
  rw [exact3 K o0 o1]
  have e1 : c - b * (b / 2) + 1 * (b * b / 4 + sqd b c) = 0 := by unfold sqd; grind
  have e2 : b - 1 * b = 0 := by grind
  rw [e1, e2]
  grind
/-- all weights -/
theorem all3 (K : Fk3 C a P Q b c y0 y1 y2) : mo C 0 = (y0 + y1 * a + y2 * a ^ 2) + 2 * wA b c y0 y1 y2 := by
  rw [← K.k0]
  unfold wA sqd
  grind
theorem LC_nonneg {C : ICr} (h : CrOk C) {φ : Rat → Rat} (h0 : ∀ x, 0 ≤ φ x) : 0 ≤ LC C φ := by
  have := LC_le (C := C) (φ := fun _ => 0 * 1) (ψ := φ) (cr_pos h) (fun z _ => by have := h0 (z.1 : Rat); grind)
  rw [LC_smul] at this
  grind
/-- the two other weights are not below nought -/
theorem form3 (h : CrOk C) (K : Fk3 C a P Q b c y0 y1 y2) (o0 : mo C 3 + (b - a) * mo C 2 + (c - a * b) * mo C 1 + -(a * c) * mo C 0 = 0) (o1 : mo C 4 + (b - a) * mo C 3 + (c - a * b) * mo C 2 + -(a * c) * mo C 1 = 0) (s0 s1 : Rat) : 0 ≤ wA b c y0 y1 y2 * (s0 * s0 + sqd b c * (s1 * s1)) + 2 * (sqd b c * (wB b y1 y2 * (s0 * s1))) := by
  have hq := K.n
  have hde : (a + b / 2) * (a + b / 2) - sqd b c = a ^ 2 + b * a + c := by unfold sqd; grind
  -- the line whose product with the root's factor is s0 + s1 s
  have ex : ∃ l0 l1 : Rat, -(a + b / 2) * l0 + sqd b c * l1 = s0 ∧ l0 - (a + b / 2) * l1 = s1 := by
    refine ⟨(-((a + b / 2) * s0) - sqd b c * s1) / (a ^ 2 + b * a + c), (-s0 - (a + b / 2) * s1) / (a ^ 2 + b * a + c), ?_, ?_⟩
    · have t1 : (-((a + b / 2) * s0) - sqd b c * s1) / (a ^ 2 + b * a + c) * (a ^ 2 + b * a + c) = -((a + b / 2) * s0) - sqd b c * s1 := by
        generalize a ^ 2 + b * a + c = q at *
        grind
      have t2 : (-s0 - (a + b / 2) * s1) / (a ^ 2 + b * a + c) * (a ^ 2 + b * a + c) = -s0 - (a + b / 2) * s1 := by
        generalize a ^ 2 + b * a + c = q at *
        grind
      generalize (-((a + b / 2) * s0) - sqd b c * s1) / (a ^ 2 + b * a + c) = l0 at *
      generalize (-s0 - (a + b / 2) * s1) / (a ^ 2 + b * a + c) = l1 at *
      generalize a ^ 2 + b * a + c = q at *
      generalize a + b / 2 = al at *
      generalize sqd b c = de at *
      have : (-al * l0 + de * l1 - s0) * q = 0 := by grind
      grind
    · have t1 : (-((a + b / 2) * s0) - sqd b c * s1) / (a ^ 2 + b * a + c) * (a ^ 2 + b * a + c) = -((a + b / 2) * s0) - sqd b c * s1 := by
        generalize a ^ 2 + b * a + c = q at *
        grind
      have t2 : (-s0 - (a + b / 2) * s1) / (a ^ 2 + b * a + c) * (a ^ 2 + b * a + c) = -s0 - (a + b / 2) * s1 := by
        generalize a ^ 2 + b * a + c = q at *
        grind
      generalize (-((a + b / 2) * s0) - sqd b c * s1) / (a ^ 2 + b * a + c) = l0 at *
      generalize (-s0 - (a + b / 2) * s1) / (a ^ 2 + b * a + c) = l1 at *
      generalize a ^ 2 + b * a + c = q at *
      generalize a + b / 2 = al at *
      generalize sqd b c = de at *
      have : (l0 - al * l1 - s1) * q = 0 := by grind
      grind
  obtain ⟨l0, l1, e1, e2⟩ := ex
  have E := exact3 K o0 o1 (-(a * (l0 + l1 * (b / 2)))) (l0 + l1 * (b / 2) - a * l1) l1
  have N := LC_nonneg h (φ := fun t => (-(a * (l0 + l1 * (b / 2))) + (l0 + l1 * (b / 2) - a * l1) * t + l1 * t ^ 2) * (-(a * (l0 + l1 * (b / 2))) + (l0 + l1 * (b / 2) - a * l1) * t + l1 * t ^ 2)) fun t => sq0 _
  rw [E] at N
  have z : -(a * (l0 + l1 * (b / 2))) + (l0 + l1 * (b / 2) - a * l1) * a + l1 * a ^ 2 = 0 := by grind
  have r1 : -(a * (l0 + l1 * (b / 2))) - (l0 + l1 * (b / 2) - a * l1) * (b / 2) + l1 * (b * b / 4 + sqd b c) = s0 := by grind
  have r2 : l0 + l1 * (b / 2) - a * l1 - l1 * b = s1 := by grind
  rw [z, r1, r2] at N
  grind
theorem pos3 {A B d : Rat} (hd : 0 < d) (h : ∀ s0 s1 : Rat, 0 ≤ A * (s0 * s0 + d * (s1 * s1)) + 2 * (d * (B * (s0 * s1)))) : 0 ≤ A ∧ d * (B * B) ≤ A * A := by
  have h1 := h 1 0
  have hA : 0 ≤ A := by grind
  refine ⟨hA, ?_⟩
  by_cases hz : A = 0
  · have h2 := h 1 1
    have h3 := h 1 (-1)
    subst hz
    have : d * B = 0 := by grind
    have : d * (B * B) = 0 := by grind
    grind
  · have h2 := h (-(d * B)) A
    have h3 : 0 ≤ (A * d) * (A * A - d * (B * B)) := by grind
    by_cases hc : d * (B * B) ≤ A * A
    · exact hc
    · have := mp (mp (by grind : 0 < A) hd) (by grind : 0 < d * (B * B) - A * A)
      grind
/-- a weight beside a, by a polynomial that is at least 1 there -/
theorem less3 (h : CrOk C) (hd : 0 < sqd b c) (K : Fk3 C a P Q b c y0 y1 y2) (o0 : mo C 3 + (b - a) * mo C 2 + (c - a * b) * mo C 1 + -(a * c) * mo C 0 = 0) (o1 : mo C 4 + (b - a) * mo C 3 + (c - a * b) * mo C 2 + -(a * c) * mo C 1 = 0) (hn : 0 ≤ y0 + y1 * a + y2 * a ^ 2) (e : Rat) (he : e = 1 ∨ e = -1) (c0 c1 c2 : Rat)
    (hS : nng (sqd b c) (c0 - c1 * (b / 2) + c2 * (b * b / 4 + sqd b c) - 1) (e * (c1 - c2 * b))) : nng (sqd b c) (LC C (fun t => (c0 + c1 * t + c2 * t ^ 2) * (c0 + c1 * t + c2 * t ^ 2)) - wA b c y0 y1 y2) (-(e * wB b y1 y2)) := by
  have hee : e * e = 1 := by rcases he with rfl | rfl <;> grind
  obtain ⟨p1, p2⟩ := pos3 hd (form3 h K o0 o1)
  have E := exact3 K o0 o1 c0 c1 c2
  rw [E]
  generalize sqd b c = d at *
  generalize c0 - c1 * (b / 2) + c2 * (b * b / 4 + d) = s0 at *
  generalize c1 - c2 * b = s1 at *
  generalize wA b c y0 y1 y2 = A at *
  generalize wB b y1 y2 = B at *
  generalize y0 + y1 * a + y2 * a ^ 2 = n at *
  have w1 : nng d A (e * B) := .inl ⟨p1, by
    have : e * B * (e * B) = B * B := by
      have : e * B * (e * B) = e * e * (B * B) := by grind
      rw [this, hee, Rat.one_mul]
    rw [this]
    exact p2⟩
  have w2 : nng d A (-(e * B)) := .inl ⟨p1, by
    have : -(e * B) * -(e * B) = B * B := by
      have : -(e * B) * -(e * B) = e * e * (B * B) := by grind
      rw [this, hee, Rat.one_mul]
    rw [this]
    exact p2⟩
  have t1 : nng d (s0 + 1) (e * s1) := (nng_add hd hS (nng_rat (show (0 : Rat) ≤ 2 by decide))).cast (by grind) (by grind)
  have t2 := nng_mul hd w1 (nng_mul hd hS t1)
  have t3 := nng_mul hd w2 (nng_sq hd s0 (-(e * s1)))
  have t4 := nng_add hd (nng_add hd t2 t3) (nng_rat (Rat.mul_nonneg hn (sq0 (c0 + c1 * a + c2 * a ^ 2))))
  have q1 : e * s1 * (e * s1) = s1 * s1 := by
    have : e * s1 * (e * s1) = e * e * (s1 * s1) := by grind
    rw [this, hee, Rat.one_mul]
  have q2 : e * B * (e * s1) = B * s1 := by
    have : e * B * (e * s1) = e * e * (B * s1) := by grind
    rw [this, hee, Rat.one_mul]
  refine t4.cast ?_ ?_
  · have r1 : A * ((s0 - 1) * (s0 + 1) + d * (e * s1 * (e * s1))) + d * (e * B * ((s0 - 1) * (e * s1) + e * s1 * (s0 + 1))) + (A * (s0 * s0 + d * (-(e * s1) * -(e * s1))) + d * (-(e * B) * (2 * (s0 * -(e * s1))))) = 2 * (A * (s0 * s0 + d * (e * s1 * (e * s1)))) - A + 4 * (d * (s0 * (e * B * (e * s1)))) := by grind
    rw [r1, q1, q2]
    grind
  · grind
end
end M66
/-! The plain law, part 26: a told root between two others. -/
namespace M66
section
variable {C : ICr} {a b c y0 y1 y2 x y z u v w : Rat} {P Q : List Rat}
/-- what the middle case has at hand -/
structure Mid (C : ICr) (a b c y0 y1 y2 x y z u v w : Rat) (P Q : List Rat) : Prop where
  h : CrOk C
  hC : Thr C x y z u v w
  hL : ∀ φ : Rat → Rat, LC C φ = u * φ x + v * φ y + w * φ z
  K : Fk3 C a P Q b c y0 y1 y2
  o0 : mo C 3 + (b - a) * mo C 2 + (c - a * b) * mo C 1 + -(a * c) * mo C 0 = 0
  o1 : mo C 4 + (b - a) * mo C 3 + (c - a * b) * mo C 2 + -(a * c) * mo C 1 = 0
  hn : 0 ≤ y0 + y1 * a + y2 * a ^ 2
theorem Mid.hd (M : Mid C a b c y0 y1 y2 x y z u v w P Q) : 0 < sqd b c := by
  have := M.K.d
  unfold sqd
  grind
/-- above the lesser root, below the greater -/
theorem in_lo {t : Rat} (h : t * t + b * t + c ≤ 0) : nng (sqd b c) (t + b / 2) 1 := .inr ⟨by decide, by unfold sqd; grind⟩
theorem in_hi {t : Rat} (h : t * t + b * t + c ≤ 0) : nng (sqd b c) (-(t + b / 2)) 1 := .inr ⟨by decide, by unfold sqd; grind⟩
theorem out_lo {t : Rat} (h : 0 ≤ t * t + b * t + c) (ht : t + b / 2 ≤ 0) : nng (sqd b c) (-(t + b / 2)) (-1) := .inl ⟨by grind, by unfold sqd; grind⟩
theorem out_hi {t : Rat} (h : 0 ≤ t * t + b * t + c) (ht : 0 ≤ t + b / 2) : nng (sqd b c) (t + b / 2) (-1) := .inl ⟨by grind, by unfold sqd; grind⟩
/-- the crowd's polynomials -/
theorem el_x (h1 : x < y) (h2 : y < z) : ∃ k : Rat, 0 < k ∧ k * ((y - x) * (z - x)) = 1 := by
  have hp := mp (by grind : 0 < y - x) (by grind : 0 < z - x)
  refine ⟨1 / ((y - x) * (z - x)), div_pos' (by decide) hp, ?_⟩
  generalize (y - x) * (z - x) = p at *
  grind
theorem el_z (h1 : x < y) (h2 : y < z) : ∃ k : Rat, 0 < k ∧ k * ((z - x) * (z - y)) = 1 := by
  have hp := mp (by grind : 0 < z - x) (by grind : 0 < z - y)
  refine ⟨1 / ((z - x) * (z - y)), div_pos' (by decide) hp, ?_⟩
  generalize (z - x) * (z - y) = p at *
  grind
theorem Mid.a1 (M : Mid C a b c y0 y1 y2 x y z u v w P Q) (hx : x * x + b * x + c ≤ 0) : nng (sqd b c) (u - wA b c y0 y1 y2) (wB b y1 y2) := by
  have hd := M.hd
  have l1 := M.hC.lt1
  have l2 := M.hC.lt2
  obtain ⟨k, hk, ek⟩ := el_x l1 l2
  have t1 := in_lo hx
  have t2 := nng_scale hd (Rat.le_of_lt hk) (nng_mul hd t1 (nng_add hd t1 (nng_rat (show 0 ≤ (y - x) + (z - x) by grind))))
  have t3 := less3 M.h hd M.K M.o0 M.o1 M.hn (-1) (.inr rfl) (k * (y * z)) (-(k * (y + z))) k (t2.cast (by unfold sqd; grind) (by grind))
  have e : LC C (fun t => (k * (y * z) + -(k * (y + z)) * t + k * t ^ 2) * (k * (y * z) + -(k * (y + z)) * t + k * t ^ 2)) = u := by
    rw [M.hL]
    have e1 : k * (y * z) + -(k * (y + z)) * x + k * x ^ 2 = 1 := by grind
    have e2 : k * (y * z) + -(k * (y + z)) * y + k * y ^ 2 = 0 := by grind
    have e3 : k * (y * z) + -(k * (y + z)) * z + k * z ^ 2 = 0 := by grind
    rw [e1, e2, e3]
    grind
  rw [e] at t3
  exact t3.cast rfl (by grind)
theorem Mid.b1 (M : Mid C a b c y0 y1 y2 x y z u v w P Q) (hy : y * y + b * y + c ≤ 0) (hz : 0 ≤ z * z + b * z + c) (hz2 : 0 ≤ z + b / 2) : nng (sqd b c) (v + w - wA b c y0 y1 y2) (-wB b y1 y2) := by
  have hd := M.hd
  have l1 := M.hC.lt1
  have l2 := M.hC.lt2
  obtain ⟨k, hk, ek⟩ := el_x l1 l2
  have t2 := nng_scale hd (Rat.le_of_lt hk) (nng_mul hd (in_hi hy) (out_hi hz hz2))
  have t3 := less3 M.h hd M.K M.o0 M.o1 M.hn 1 (.inl rfl) (1 - k * (y * z)) (k * (y + z)) (-k) (t2.cast (by unfold sqd; grind) (by grind))
  have e : LC C (fun t => (1 - k * (y * z) + k * (y + z) * t + -k * t ^ 2) * (1 - k * (y * z) + k * (y + z) * t + -k * t ^ 2)) = v + w := by
    rw [M.hL]
    have e1 : 1 - k * (y * z) + k * (y + z) * x + -k * x ^ 2 = 0 := by grind
    have e2 : 1 - k * (y * z) + k * (y + z) * y + -k * y ^ 2 = 1 := by grind
    have e3 : 1 - k * (y * z) + k * (y + z) * z + -k * z ^ 2 = 1 := by grind
    rw [e1, e2, e3]
    grind
  rw [e] at t3
  exact t3.cast rfl (by grind)
theorem Mid.a2 (M : Mid C a b c y0 y1 y2 x y z u v w P Q) (hy : y * y + b * y + c ≤ 0) (hx : 0 ≤ x * x + b * x + c) (hx2 : x + b / 2 ≤ 0) : nng (sqd b c) (u + v - wA b c y0 y1 y2) (wB b y1 y2) := by
  have hd := M.hd
  have l1 := M.hC.lt1
  have l2 := M.hC.lt2
  obtain ⟨k, hk, ek⟩ := el_z l1 l2
  have t2 := nng_scale hd (Rat.le_of_lt hk) (nng_mul hd (out_lo hx hx2) (in_lo hy))
  have t3 := less3 M.h hd M.K M.o0 M.o1 M.hn (-1) (.inr rfl) (1 - k * (x * y)) (k * (x + y)) (-k) (t2.cast (by unfold sqd; grind) (by grind))
  have e : LC C (fun t => (1 - k * (x * y) + k * (x + y) * t + -k * t ^ 2) * (1 - k * (x * y) + k * (x + y) * t + -k * t ^ 2)) = u + v := by
    rw [M.hL]
    have e1 : 1 - k * (x * y) + k * (x + y) * x + -k * x ^ 2 = 1 := by grind
    have e2 : 1 - k * (x * y) + k * (x + y) * y + -k * y ^ 2 = 1 := by grind
    have e3 : 1 - k * (x * y) + k * (x + y) * z + -k * z ^ 2 = 0 := by grind
    rw [e1, e2, e3]
    grind
  rw [e] at t3
  exact t3.cast rfl (by grind)
theorem Mid.b2 (M : Mid C a b c y0 y1 y2 x y z u v w P Q) (hz : z * z + b * z + c ≤ 0) : nng (sqd b c) (w - wA b c y0 y1 y2) (-wB b y1 y2) := by
  have hd := M.hd
  have l1 := M.hC.lt1
  have l2 := M.hC.lt2
  obtain ⟨k, hk, ek⟩ := el_z l1 l2
  have t1 := in_hi hz
  have t2 := nng_scale hd (Rat.le_of_lt hk) (nng_mul hd t1 (nng_add hd t1 (nng_rat (show 0 ≤ (z - x) + (z - y) by grind))))
  have t3 := less3 M.h hd M.K M.o0 M.o1 M.hn 1 (.inl rfl) (k * (x * y)) (-(k * (x + y))) k (t2.cast (by unfold sqd; grind) (by grind))
  have e : LC C (fun t => (k * (x * y) + -(k * (x + y)) * t + k * t ^ 2) * (k * (x * y) + -(k * (x + y)) * t + k * t ^ 2)) = w := by
    rw [M.hL]
    have e1 : k * (x * y) + -(k * (x + y)) * x + k * x ^ 2 = 0 := by grind
    have e2 : k * (x * y) + -(k * (x + y)) * y + k * y ^ 2 = 0 := by grind
    have e3 : k * (x * y) + -(k * (x + y)) * z + k * z ^ 2 = 1 := by grind
    rw [e1, e2, e3]
    grind
  rw [e] at t3
  exact t3.cast rfl (by grind)
/-- where the crowd's spots lie -/
theorem conv {p r s : Rat} (h1 : p < r) (h2 : r < s) (hp : p * p + b * p + c < 0) (hs : s * s + b * s + c ≤ 0) : r * r + b * r + c < 0 := by
  have t1 := mn (by grind : 0 < s - r) hp
  have t2 := Rat.mul_nonneg (by grind : 0 ≤ r - p) (by grind : 0 ≤ -(s * s + b * s + c))
  have t3 := mp (mp (by grind : 0 < s - p) (by grind : 0 < s - r)) (by grind : 0 < r - p)
  by_cases hc : r * r + b * r + c < 0
  · exact hc
  · have := Rat.mul_nonneg (by grind : 0 ≤ s - p) (by grind : 0 ≤ r * r + b * r + c)
    grind
theorem conv' {p r s : Rat} (h1 : p < r) (h2 : r < s) (hp : p * p + b * p + c ≤ 0) (hs : s * s + b * s + c < 0) : r * r + b * r + c < 0 := by
  have t1 := mn (by grind : 0 < r - p) hs
  have t2 := Rat.mul_nonneg (by grind : 0 ≤ s - r) (by grind : 0 ≤ -(p * p + b * p + c))
  have t3 := mp (mp (by grind : 0 < s - p) (by grind : 0 < s - r)) (by grind : 0 < r - p)
  by_cases hc : r * r + b * r + c < 0
  · exact hc
  · have := Rat.mul_nonneg (by grind : 0 ≤ s - p) (by grind : 0 ≤ r * r + b * r + c)
    grind
theorem pos_gt {t : Rat} (ht : a < t) (h : 0 < (t - a) * (t * t + b * t + c)) : 0 < t * t + b * t + c := by
  by_cases hc : 0 < t * t + b * t + c
  · exact hc
  · have := Rat.mul_nonneg (by grind : 0 ≤ t - a) (by grind : 0 ≤ -(t * t + b * t + c))
    grind
theorem pos_lt {t : Rat} (ht : t < a) (h : 0 < (t - a) * (t * t + b * t + c)) : t * t + b * t + c < 0 := by
  by_cases hc : t * t + b * t + c < 0
  · exact hc
  · have := Rat.mul_nonneg (by grind : 0 ≤ a - t) (by grind : 0 ≤ t * t + b * t + c)
    grind
theorem neg_gt {t : Rat} (ht : a < t) (h : (t - a) * (t * t + b * t + c) < 0) : t * t + b * t + c < 0 := by
  by_cases hc : t * t + b * t + c < 0
  · exact hc
  · have := Rat.mul_nonneg (by grind : 0 ≤ t - a) (by grind : 0 ≤ t * t + b * t + c)
    grind
theorem neg_lt {t : Rat} (ht : t < a) (h : (t - a) * (t * t + b * t + c) < 0) : 0 < t * t + b * t + c := by
  by_cases hc : 0 < t * t + b * t + c
  · exact hc
  · have := Rat.mul_nonneg (by grind : 0 ≤ a - t) (by grind : 0 ≤ -(t * t + b * t + c))
    grind
theorem pos_of {k q : Rat} (hk : 0 < k) (h : 0 < k * q) : 0 < q := by
  by_cases hc : 0 < q
  · exact hc
  · have := Rat.mul_nonneg (Rat.le_of_lt hk) (by grind : 0 ≤ -q)
    grind
theorem Mid.place (M : Mid C a b c y0 y1 y2 x y z u v w P Q) (hq : a * a + b * a + c < 0) :
    (x < a ∧ a < y ∧ x * x + b * x + c < 0 ∧ y * y + b * y + c < 0 ∧ 0 < z * z + b * z + c) ∨ (y < a ∧ a < z ∧ 0 < x * x + b * x + c ∧ y * y + b * y + c < 0 ∧ z * z + b * z + c < 0) ∨ (a = y ∧ x * x + b * x + c = 0 ∧ z * z + b * z + c = 0) := by
  have l1 := M.hC.lt1
  have l2 := M.hC.lt2
  have hu := M.hC.u0
  have hv := M.hC.v0
  have hw := M.hC.w0
  have o0 := M.o0
  have o1 := M.o1
  rw [M.hC.mo, M.hC.mo, M.hC.mo, M.hC.mo] at o0
  rw [M.hC.mo, M.hC.mo, M.hC.mo, M.hC.mo] at o1
  have s0 : u * ((x - a) * (x * x + b * x + c)) + v * ((y - a) * (y * y + b * y + c)) + w * ((z - a) * (z * z + b * z + c)) = 0 := by grind
  have s1 : x * (u * ((x - a) * (x * x + b * x + c))) + y * (v * ((y - a) * (y * y + b * y + c))) + z * (w * ((z - a) * (z * z + b * z + c))) = 0 := by grind
  clear o0 o1
  have e1 : (y - x) * (v * ((y - a) * (y * y + b * y + c))) = -((z - x) * (w * ((z - a) * (z * z + b * z + c)))) := by grind
  have e2 : (y - x) * (u * ((x - a) * (x * x + b * x + c))) = (z - y) * (w * ((z - a) * (z * z + b * z + c))) := by grind
  have p1 : 0 < y - x := by grind
  have p2 : 0 < z - x := by grind
  have p3 : 0 < z - y := by grind
  rcases tri ((z - a) * (z * z + b * z + c)) with hz | hz | hz
  · right
    left
    have hY : 0 < (y - a) * (y * y + b * y + c) := pos_of hv (pos_of p1 (by rw [e1]; have := mn p2 (mn hw hz); grind))
    have hX : (x - a) * (x * x + b * x + c) < 0 := by
      have : 0 < -((x - a) * (x * x + b * x + c)) := pos_of hu (pos_of p1 (by have := mn p3 (mn hw hz); grind))
      grind
    have hza : a < z := by
      by_cases hc : a < z
      · exact hc
      · by_cases he : z = a
        · rw [he] at hz
          grind
        · have k1 := neg_lt (by grind : z < a) hz
          have k2 := pos_lt (by grind : y < a) hY
          have := conv l2 (by grind : z < a) k2 (by grind)
          grind
    have qz := neg_gt hza hz
    have hya : y < a := by
      by_cases hc : y < a
      · exact hc
      · by_cases he : y = a
        · rw [he] at hY
          grind
        · have k1 := pos_gt (by grind : a < y) hY
          have := conv (by grind : a < y) l2 hq (by grind)
          grind
    exact ⟨hya, hza, neg_lt (by grind) hX, pos_lt hya hY, qz⟩
  · right
    right
    have hY : (y - a) * (y * y + b * y + c) = 0 := by
      have : (y - x) * (v * ((y - a) * (y * y + b * y + c))) = 0 := by rw [e1, hz]; grind
      have k := mp p1 hv
      have k2 : ((y - x) * v) * ((y - a) * (y * y + b * y + c)) = 0 := by grind
      exact mul_zero' k2 (by grind)
    have hX : (x - a) * (x * x + b * x + c) = 0 := by
      have : (y - x) * (u * ((x - a) * (x * x + b * x + c))) = 0 := by rw [e2, hz]; grind
      have k := mp p1 hu
      have k2 : ((y - x) * u) * ((x - a) * (x * x + b * x + c)) = 0 := by grind
      exact mul_zero' k2 (by grind)
    have zx : x ≠ a → x * x + b * x + c = 0 := fun h => mul_zero' hX (by grind)
    have zy : y ≠ a → y * y + b * y + c = 0 := fun h => mul_zero' hY (by grind)
    have zz : z ≠ a → z * z + b * z + c = 0 := fun h => mul_zero' hz (by grind)
    by_cases h1 : y = a
    · exact ⟨h1.symm, zx (by grind), zz (by grind)⟩
    · exfalso
      have ky := zy h1
      by_cases h2 : x = a
      · have kz := zz (by grind)
        have := conv (by grind : a < y) l2 hq (by grind)
        grind
      · have kx := zx h2
        by_cases h3 : z = a
        · have := conv' l1 (by grind : y < a) (by grind) hq
          grind
        · have kz := zz h3
          have d1 : (y - x) * (y + x + b) = 0 := by grind
          have d2 : (z - y) * (z + y + b) = 0 := by grind
          have d1 := mul_zero' d1 (by grind)
          have d2 := mul_zero' d2 (by grind)
          grind
  · left
    have hY : (y - a) * (y * y + b * y + c) < 0 := by
      have : 0 < -((y - a) * (y * y + b * y + c)) := pos_of hv (pos_of p1 (by have := mp p2 (mp hw hz); grind))
      grind
    have hX : 0 < (x - a) * (x * x + b * x + c) := pos_of hu (pos_of p1 (by rw [e2]; exact mp p3 (mp hw hz)))
    have hxa : x < a := by
      by_cases hc : x < a
      · exact hc
      · by_cases he : x = a
        · rw [he] at hX
          grind
        · have k1 := pos_gt (by grind : a < x) hX
          have k2 := neg_gt (by grind : a < y) hY
          have := conv (by grind : a < x) l1 hq (by grind)
          grind
    have qx := pos_lt hxa hX
    have hya : a < y := by
      by_cases hc : a < y
      · exact hc
      · by_cases he : y = a
        · rw [he] at hY
          grind
        · have k1 := neg_lt (by grind : y < a) hY
          have := conv l1 (by grind : y < a) qx (by grind)
          grind
    exact ⟨hxa, hya, qx, neg_gt hya hY, pos_gt (by grind) hz⟩
/-- the crowd's weight below a and up to it, held by the flock's -/
theorem Mid.held (M : Mid C a b c y0 y1 y2 x y z u v w P Q) (hq : a * a + b * a + c < 0) : nng (sqd b c) (belC C a - wA b c y0 y1 y2) (wB b y1 y2) ∧ nng (sqd b c) (mo C 0 - upC C a - wA b c y0 y1 y2) (-wB b y1 y2) := by
  have l1 := M.hC.lt1
  have l2 := M.hC.lt2
  have e0 := M.hC.mo 0
  rw [Rat.pow_zero, Rat.pow_zero, Rat.pow_zero] at e0
  have vz : ∀ {t : Rat}, a < t → 0 ≤ t * t + b * t + c → 0 ≤ t + b / 2 := fun {t} h1 h2 => by
    by_cases hc : 0 ≤ t + b / 2
    · exact hc
    · have := mn (by grind : 0 < t - a) (by grind : t + a + b < 0)
      grind
  have vx : ∀ {t : Rat}, t < a → 0 ≤ t * t + b * t + c → t + b / 2 ≤ 0 := fun {t} h1 h2 => by
    by_cases hc : t + b / 2 ≤ 0
    · exact hc
    · have := mp (by grind : 0 < a - t) (by grind : 0 < t + a + b)
      grind
  rw [belC_LC, upC_LC, M.hL, M.hL]
  rcases M.place hq with ⟨h1, h2, qx, qy, qz⟩ | ⟨h1, h2, qx, qy, qz⟩ | ⟨h1, qx, qz⟩
  · have r1 := M.a1 (Rat.le_of_lt qx)
    have r2 := M.b1 (Rat.le_of_lt qy) (Rat.le_of_lt qz) (vz (by grind) (Rat.le_of_lt qz))
    simp only [if_pos h1, if_neg (by grind : ¬ y < a), if_neg (by grind : ¬ z < a), if_neg (by grind : ¬ a < x), if_pos h2, if_pos (by grind : a < z)]
    exact ⟨r1.cast (by grind) rfl, r2.cast (by grind) rfl⟩
  · have r1 := M.a2 (Rat.le_of_lt qy) (Rat.le_of_lt qx) (vx (by grind) (Rat.le_of_lt qx))
    have r2 := M.b2 (Rat.le_of_lt qz)
    simp only [if_pos h1, if_pos (by grind : x < a), if_neg (by grind : ¬ z < a), if_neg (by grind : ¬ a < x), if_neg (by grind : ¬ a < y), if_pos h2]
    exact ⟨r1.cast (by grind) rfl, r2.cast (by grind) rfl⟩
  · have r1 := M.a1 (by grind)
    have r2 := M.b2 (by grind)
    simp only [if_pos (by grind : x < a), if_neg (by grind : ¬ y < a), if_neg (by grind : ¬ z < a), if_neg (by grind : ¬ a < x), if_neg (by grind : ¬ a < y), if_pos (by grind : a < z)]
    exact ⟨r1.cast (by grind) rfl, r2.cast (by grind) rfl⟩
end
end M66
/-! The plain law, part 27: weight_up_to from counts. -/
namespace M66
/-! polynomials of at most three numbers -/
theorem ev_3 {f : List Rat} (h : f.length ≤ 3) (x : Rat) : ev f x = cf f 0 + cf f 1 * x + cf f 2 * x ^ 2 := by
  rw [ev_evN f x 3 h]
  simp only [evN]
  grind
theorem cf_zip (f : List Rat) (g : Rat × Nat → Rat) (hg : ∀ i, g (0, i) = 0) : ∀ (k i : Nat), cf ((f.zipIdx k).map g) i = g (cf f i, i + k) := by
  induction f with
  | nil => intro k i; rw [cf_nil]; exact (cf_nil i).trans (hg _).symm
  | cons c f ih =>
    intro k i
    rw [List.zipIdx_cons, List.map_cons]
    cases i with
    | zero => rw [cf_cons_zero, cf_cons_zero, Nat.zero_add]
    | succ i =>
      rw [cf_cons_succ, cf_cons_succ, ih]
      congr 2
      omega
theorem cf_drop1 (f : List Rat) (i : Nat) : cf (f.drop 1) i = cf f (i + 1) := by
  cases f with
  | nil => rw [List.drop_nil, cf_nil, cf_nil]
  | cons c f => rw [cf_cons_succ]; rfl
theorem cf_slp (f : List Rat) (i : Nat) : cf (slp f) i = cf f (i + 1) * ((i + 1 : Nat) : Rat) := by
  unfold slp
  rw [cf_cln, cf_drop1, cf_zip f (fun z => z.1 * (z.2 : Rat)) (fun i => Rat.zero_mul _) 0 (i + 1)]
theorem slp_len (f : List Rat) : (slp f).length ≤ f.length - 1 := by
  unfold slp
  refine Nat.le_trans (cln_length _) ?_
  rw [List.length_drop, List.length_map, List.length_zipIdx]
  omega
theorem ev_absl {f : List Rat} (h : f.length ≤ 3) (x : Rat) : ev ((slp f).map absR) x = absR (cf f 1) + absR (2 * cf f 2) * x := by
  have hl := slp_len f
  have a0 : absR 0 = 0 := rfl
  rw [ev_3 (by rw [List.length_map]; omega), cf_map _ _ a0, cf_map _ _ a0, cf_map _ _ a0, cf_slp, cf_slp, cf_slp, cf_of_le (f := f) (i := 2 + 1) (by omega)]
  have e1 : cf f (0 + 1) * ((0 + 1 : Nat) : Rat) = cf f 1 := by show cf f 1 * 1 = _; grind
  have e2 : cf f (1 + 1) * ((1 + 1 : Nat) : Rat) = 2 * cf f 2 := by show cf f 2 * 2 = _; grind
  rw [e1, e2, Rat.zero_mul, a0]
  grind
theorem szl_absl {f : List Rat} (h : SzL 500000 f) (hl : f.length ≤ 3) : SzL 500010 ((slp f).map absR) := fun c hc => by
  obtain ⟨d, hd, rfl⟩ := List.mem_map.mp hc
  refine sz_abs ?_
  obtain ⟨i, hi, rfl⟩ := List.getElem_of_mem hd
  have e : (slp f)[i] = cf (slp f) i := (cf_lt hi).symm
  have := slp_len f
  rw [e, cf_slp]
  exact ((szl_get (by decide) h _).mul (sz_int (i := ((i + 1 : Nat) : Int)) (n := 10) (by decide) (by rw [Int.natAbs_natCast]; omega))).mono (by decide)
theorem wd_pos {width : Rat} (h : WdOk width) : 0 < width ∧ Sz 5 width := by
  rcases h with rfl | rfl | ⟨i, h1, h2, rfl⟩
  · exact ⟨by decide, Sz.one (by decide)⟩
  · exact ⟨by grind, ((Sz.one (n := 1) (by decide)).div sz4).mono (by decide)⟩
  · exact ⟨ip h1, sz_int (by decide) (by omega)⟩
/-- narrowed stretches in their order -/
theorem nar_all {ch : List (List Rat)} {B w : Rat} {d k K K2 : Nat} {V : Rat → Nat} (C : Cnt ch B d k V) (hK : 2 * B / 2 ^ K2 ≤ w) (hK2 : K2 ≤ 3000000) (hKK : K ≤ K2) : ∀ (L : List (Rat × Rat)) (v : Nat), Il V L v → (∀ z ∈ L, Grid B K z) →
    ∃ l : List ((Rat × Rat) × (Rat × Rat)), l.map (·.1) = L ∧ (∀ z ∈ l, ∃ n, Nar ch w z.1.1 z.1.2 z.2.1 z.2.2 n) ∧ Il V (l.map (·.2)) v ∧ ∀ z ∈ l, Grid B K2 z.2 ∧ z.2.2 - z.2.1 ≤ w
  | [], _, _, _ => ⟨[], rfl, (fun z hz => nomatch hz), trivial, (fun z hz => nomatch hz)⟩
  | y :: L, v, hI, hG => by
    obtain ⟨l, e, n1, i1, g1⟩ := nar_all C hK hK2 hKK L (v - 1) hI.2.2 fun z hz => hG z (List.mem_cons_of_mem _ hz)
    obtain ⟨i, j, hi, h1, h2, e1, e2⟩ := hG y List.mem_cons_self
    obtain ⟨v1, v2, _⟩ := hI
    rw [e1] at v1
    rw [e2] at v2
    obtain ⟨z, n, a, g, q1, q2, q3⟩ := C.nar hK hK2 (K2 - i) i j (by omega) h1 h2 (by omega)
    refine ⟨(y, z) :: l, by rw [List.map_cons, e], fun t ht => ?_, ⟨by show V z.1 = v; omega, by show V z.2 + 1 = v; omega, i1⟩, fun t ht => ?_⟩
    · rcases List.mem_cons.mp ht with rfl | ht
      · exact ⟨n, by show Nar ch w y.1 y.2 z.1 z.2 n; rw [e1, e2]; exact a⟩
      · exact n1 t ht
    · rcases List.mem_cons.mp ht with rfl | ht
      · exact ⟨g, q3⟩
      · exact g1 t ht
theorem fs_of {P : List Rat} {ch : List (List Rat)} {d : Nat} {V : Rat → Nat} (H : Chn P ch) (C : Cnt ch (bnd P) d 5000 V) : ∃ L, FsOk P L ∧ Il V L d ∧ L.length = d ∧ ∀ z ∈ L, Grid (bnd P) 7001 z := by
  have eB : BIG = 67000000 := rfl
  have e := H.eq
  have lf := H.lf
  have d3 := C.d3
  obtain ⟨L, n, a, hn, hi, hl, hg⟩ := C.ap (K := 7001) (K_of C.sB (n := 5000) (Rat.le_refl)) (by decide) 7001 0 (-1) (by decide) (by decide) (by decide)
  have p1 : pt (bnd P) 0 (-1) = 0 - bnd P := by
    show bnd P * (((-1 : Int)) : Rat) / 2 ^ 0 = _
    rw [Rat.pow_zero, show (((-1 : Int)) : Rat) = -1 from rfl]
    grind
  have p2 : pt (bnd P) 0 (-1 + 2) = bnd P := by
    show bnd P * (((1 : Int)) : Rat) / 2 ^ 0 = _
    rw [Rat.pow_zero, show (((1 : Int)) : Rat) = 1 from rfl]
    grind
  rw [p1, p2] at a hn hl
  rw [p1] at hi
  rw [C.lo] at hi hl hn
  rw [C.hi] at hl hn
  refine ⟨L, ⟨H.pl, by rw [e]; exact H.ne, by rw [e]; exact H.sf.sl (by omega), by rw [e]; omega, by rw [e]; exact H.ck, by rw [e]; exact (bnd_ok H.sf H.lf H.l1 H.ne).1, by rw [e]; exact C.sB.s (by omega), n, ?_, by rw [e, H.ce]; exact a⟩, hi, by omega, hg⟩
  have : 2 * 7001 * (d - 0) ≤ 2 * 7001 * 3 := Nat.mul_le_mul_left _ (by omega)
  omega
/-- what weight_up_to comes to where some roots lie above -/
theorem wu_part {P Q : List Rat} {ch : List (List Rat)} {d k : Nat} {V : Rat → Nat} {a width : Rat} (H : Chn P ch) (C : Cnt ch (bnd P) d 5000 V) (hfar : chg ch none (-1) = d) (lP : P.length = d + 1) (hQ : SzL 500000 Q) (lQ : Q.length ≤ 3) (ha : Sz 5 a) (hk : V a + k = d) (hk0 : 0 < k) (hkd : k < d) (hw : WdOk width) :
    0 < wideP (P, Q) width k ∧ 1 ≤ steepP (P, Q) ∧ ∃ l : List ((Rat × Rat) × (Rat × Rat)), l.length = d ∧ Il V (l.map (·.2)) d ∧ (∀ z ∈ l, -bnd P ≤ z.2.1 ∧ z.2.2 ≤ bnd P ∧ z.2.1 ≤ z.2.2 ∧ z.2.2 - z.2.1 ≤ wideP (P, Q) width k) ∧
      WuAt (P, Q) a width (tot (fndP (P, Q) l k) - offP (P, Q) width k) (tot (fndP (P, Q) l k) + offP (P, Q) width k) ∧ Sz 30000000 (tot (fndP (P, Q) l k) - offP (P, Q) width k) ∧ Sz 30000000 (tot (fndP (P, Q) l k) + offP (P, Q) width k) := by
  have eB : BIG = 67000000 := rfl
  have d3 := C.d3
  have e := H.eq
  obtain ⟨w1, w2⟩ := wd_pos hw
  obtain ⟨bk, sB⟩ := bnd_ok H.sf H.lf H.l1 H.ne
  have hB1 := C.B1
  have a1 := abs_ge (cf Q 1)
  have a2 := abs_ge (2 * cf Q 2)
  have est : steepP (P, Q) = 1 + (absR (cf Q 1) + absR (2 * cf Q 2) * bnd P) := by
    unfold steepP
    rw [ev_absl lQ]
  have hst : 1 ≤ steepP (P, Q) := by
    rw [est]
    have := Rat.mul_nonneg a2.2.2 (by grind : 0 ≤ bnd P)
    grind
  have s1 : Sz 500000 (cf Q 1) := szl_get (by decide) hQ 1
  have s2 : Sz 500000 (cf Q 2) := szl_get (by decide) hQ 2
  have sst : Sz 1002100 (steepP (P, Q)) := by
    rw [est]
    exact ((Sz.one (n := 1) (by decide)).add ((sz_abs s1).add ((sz_abs (sz2.mul s2)).mul sB))).mono (by decide)
  have sk : Sz 3 ((2 * k : Nat) : Rat) := sz_num (i := ((2 * k : Nat) : Int)) (by omega)
  have sk1 : Sz 3 ((k : Nat) : Rat) := sz_num (i := ((k : Nat) : Int)) (by omega)
  have hk2 : (0 : Rat) < ((2 * k : Nat) : Rat) := ip (i := ((2 * k : Nat) : Int)) (by omega)
  have sw : Sz 1002108 (wideP (P, Q) width k) := (w2.div (sk.mul sst)).mono (by decide)
  have hwp : 0 < wideP (P, Q) width k := div_pos' w1 (mp hk2 (by grind))
  have hwl := sz_lo sw hwp
  obtain ⟨L, f1, f2, f3, f4⟩ := fs_of H C
  obtain ⟨l, l1, l2, l3, l4⟩ := nar_all C (K := 7001) (K2 := 2001 + 1002108) (K_of C.sB (Rat.le_of_lt hwl)) (by decide) (by decide) L d f2 f4
  have ll : l.length = d := by rw [← f3, ← l1, List.length_map]
  have grid : ∀ z ∈ l, -bnd P ≤ z.2.1 ∧ z.2.2 ≤ bnd P ∧ z.2.1 ≤ z.2.2 ∧ z.2.2 - z.2.1 ≤ wideP (P, Q) width k ∧ Sz 2011000 z.2.2 := by
    intro z hz
    obtain ⟨⟨i, j, hi, h1, h2, e1, e2⟩, h3⟩ := l4 z hz
    have b1 := (pt_in C.B1 h1 (by omega : j ≤ 2 ^ i)).1
    have b2 := (pt_in C.B1 (by omega : -2 ^ i ≤ j + 2) h2).2
    refine ⟨by rw [e1]; exact b1, by rw [e2]; exact b2, by rw [e1, e2]; exact pt_le C.B1 i j, h3, ?_⟩
    rw [e2]
    exact (sz_pt C.sB (by omega : -2 ^ i ≤ j + 2) h2).mono (by omega)
  have hends : ∀ e ∈ endsP l k, Sz 2011000 e := fun e he => by
    obtain ⟨z, hz, rfl⟩ := List.mem_map.mp (List.mem_of_mem_take he)
    exact (grid z hz).2.2.2.2
  have hmQ : ∀ m : Nat, Q.length * (500000 + m + 1) ≤ 3 * (500000 + m + 1) := fun m => Nat.mul_le_mul_right _ lQ
  have hfn : SzL 7540000 (fndP (P, Q) l k) := fun c hc => by
    obtain ⟨x, hx, rfl⟩ := List.mem_map.mp hc
    exact (sz_ev (by decide) (by decide) hQ (hends x hx)).mono (by have := hmQ 2011000; omega)
  have lfn : (fndP (P, Q) l k).length ≤ 3 := by
    unfold fndP endsP
    rw [List.length_map, List.length_take, List.length_map]
    omega
  have key := fun i => sz_tot_take (k := 3) (by decide) hfn lfn i
  have kt := key (fndP (P, Q) l k).length
  rw [List.take_length] at kt
  have sws : Sz 2004208 (wideP (P, Q) width k * steepP (P, Q)) := sw.mul sst
  have soff : Sz 2004300 (offP (P, Q) width k) := (sk1.mul sws).mono (by decide)
  have hsl := szl_absl hQ lQ
  have lsl : ((slp Q).map absR).length ≤ 2 := by
    have := slp_len Q
    rw [List.length_map]
    omega
  have hmS : ((slp Q).map absR).length * (500010 + 2000 + 1) ≤ 2 * (500010 + 2000 + 1) := Nat.mul_le_mul_right _ lsl
  have hbtw : btw (chainP (plainP P)) none (some a) = (k : Int) := by
    rw [e, H.ce]
    unfold btw
    rw [hfar, C.at_]
    omega
  refine ⟨hwp, hst, l, ll, l3, fun z hz => ?_, ?_, (kt.sub soff).mono (by decide), (kt.add soff).mono (by decide)⟩
  · obtain ⟨g1, g2, g3, g4, _⟩ := grid z hz
    exact ⟨g1, g2, g3, g4⟩
  · refine .part (l := l) (H.hm ha (by decide)) hbtw hk0 (by show k < P.length - 1; omega) (by show P.length ≤ 100; omega) (hQ.sl (by omega)) (by show Q.length ≤ 1000; omega) bk ?_ ?_ (sst.s (by omega)) (by grind) (w2.s (by omega)) ((sk.mul sst).s (by omega)) (by rw [l1]; exact f1) (sw.s (by omega)) (by omega) ?_ ?_ (hfn.sl (by omega)) (fun i _ => (key i).s (by omega)) (kt.s (by omega)) (sws.s (by omega)) (soff.s (by omega))
    · exact evOk (n := 500010) (m := 2000) (by decide) (by decide) hsl sB (by show 1 + ((slp Q).map absR).length * _ + _ + _ ≤ _; omega)
    · exact ((sz_ev (by decide) (by decide) hsl sB).mono (by omega : _ ≤ 1100000)).s (by omega)
    · intro z hz
      obtain ⟨n, hn⟩ := l2 z hz
      exact ⟨n, by show Nar (chainP (plainP P)) _ _ _ _ _ _; rw [e, H.ce]; exact hn⟩
    · intro x hx
      exact evOk (n := 500000) (m := 2011000) (by decide) (by decide) hQ (hends x hx) (by have := hmQ 2011000; show 1 + Q.length * _ + _ + _ ≤ _; omega)
end M66
/-! The plain law, part 28: what the law asks of the flock with the told root. -/
namespace M66
/-- what the law asks of it -/
def FlRes (C : ICr) (m : Nat) (a n width : Rat) : Prop := ∃ r, FlAt (sumsC C m) a r ∧ (r = none ∨ ∃ w lo hi, r = some w ∧ EvOk w.2 a ∧ ev w.2 a = n ∧ WuAt w a width lo hi ∧ S lo ∧ S hi ∧ S (lo - n) ∧ ¬ hi < upC C a ∧ ¬ belC C a < lo - n)
theorem cf_rpL (R : List Rat) {i n : Nat} (hi : i ≤ n) (hn : n ≤ 5) : cf (rpL R n) i = cf (rpL R 5) i := by
  rw [rpL_take R 5 n hn]
  unfold cf
  rw [List.getD_eq_getElem?_getD, List.getD_eq_getElem?_getD, List.getElem?_take, if_pos (by omega)]
theorem fls_val (P : List Rat) : ∀ {Q : List Rat}, Q.length ≤ 3 → tot (flsL (P, Q)) = cf Q 0 * cf (rpL P 5) 0 + cf Q 1 * cf (rpL P 5) 1 + cf Q 2 * cf (rpL P 5) 2
  | [], _ => by
    rw [cf_nil, cf_nil, cf_nil, show flsL (P, []) = [] from rfl, tot_nil]
    grind
  | [q0], _ => by
    rw [show flsL (P, [q0]) = [q0 * cf (rpL P 1) 0] from rfl, tot_cons, tot_nil, cf_rpL P (by decide) (by decide), show cf [q0] 0 = q0 from rfl, show cf [q0] 1 = 0 from rfl, show cf [q0] 2 = 0 from rfl]
    grind
  | [q0, q1], _ => by
    rw [show flsL (P, [q0, q1]) = [q0 * cf (rpL P 2) 0, q1 * cf (rpL P 2) 1] from rfl, tot_cons, tot_cons, tot_nil, cf_rpL P (by decide) (by decide), cf_rpL P (i := 1) (by decide) (by decide), show cf [q0, q1] 0 = q0 from rfl, show cf [q0, q1] 1 = q1 from rfl, show cf [q0, q1] 2 = 0 from rfl]
    grind
  | [q0, q1, q2], _ => by
    rw [show flsL (P, [q0, q1, q2]) = [q0 * cf (rpL P 3) 0, q1 * cf (rpL P 3) 1, q2 * cf (rpL P 3) 2] from rfl, tot_cons, tot_cons, tot_cons, tot_nil, cf_rpL P (by decide) (by decide), cf_rpL P (i := 1) (by decide) (by decide), cf_rpL P (i := 2) (by decide) (by decide), show cf [q0, q1, q2] 0 = q0 from rfl, show cf [q0, q1, q2] 1 = q1 from rfl, show cf [q0, q1, q2] 2 = q2 from rfl]
    grind
  | q0 :: q1 :: q2 :: q3 :: Q, h => absurd h (by simp)
theorem wu_all {P Q : List Rat} {ch : List (List Rat)} {d : Nat} {a width : Rat} (H : Chn P ch) (hb : btw ch none (some a) = (d : Int)) (lP : P.length = d + 1) (hd : 0 < d) (hQ : SzL 500000 Q) (lQ : Q.length ≤ 3) (hR : SzL 4000 (rpL P 5)) (ha : Sz 5 a) :
    WuAt (P, Q) a width (tot (flsL (P, Q))) (tot (flsL (P, Q))) := by
  have eB : BIG = 67000000 := rfl
  have lf := H.lf
  have h1 : SzL 504000 (flsL (P, Q)) := fun c hc => by
    unfold flsL at hc
    obtain ⟨z, hz, rfl⟩ := List.mem_map.mp hc
    have hz1 : z.1 ∈ Q := by
      obtain ⟨_, _, h3⟩ := List.mem_zipIdx hz
      rw [h3]
      exact List.getElem_mem _
    have hR' : SzL 4000 (rpL P Q.length) := by
      rw [rpL_take P 5 Q.length (by omega)]
      exact szl_take hR _
    exact (hQ _ hz1).mul (szl_get (by decide) hR' _)
  have lfl : (flsL (P, Q)).length ≤ 3 := by
    unfold flsL
    rw [List.length_map, List.length_zipIdx]
    exact lQ
  have key := fun i => sz_tot_take (k := 3) (by decide) h1 lfl i
  refine .all (k := d) (H.hm ha (by decide)) (by rw [H.eq, H.ce]; exact hb) hd (by show d = P.length - 1; omega) ⟨by show Q.length ≤ 100; omega, ?_, hQ.sl (by omega), ?_, h1.sl (by omega), fun i _ => (key i).s (by omega)⟩
  · show RpOk P (1 + Q.length)
    exact rpOk_of (n := 200) (P := 4000) (by decide) (by decide) (by decide) (by omega) H.lf H.sf (by omega) hR
  · show SL (rpL P Q.length)
    rw [rpL_take P 5 Q.length (by omega)]
    exact (szl_take hR _).sl (by omega)
/-- near a root -/
theorem lipR {P Q : List Rat} {a l e wide : Rat} (lQ : Q.length ≤ 3) (hB : 1 ≤ bnd P) (h1 : l ≤ a) (h2 : a ≤ e) (h3 : -bnd P ≤ l) (h4 : e ≤ bnd P) (h5 : e - l ≤ wide) : ev Q e - ev Q a ≤ wide * steepP (P, Q) ∧ ev Q a - ev Q e ≤ wide * steepP (P, Q) := by
  have est : steepP (P, Q) = 1 + (absR (cf Q 1) + absR (2 * cf Q 2) * bnd P) := by
    unfold steepP
    rw [ev_absl lQ]
  rw [est, ev_3 lQ, ev_3 lQ]
  have a1 := abs_ge (cf Q 1)
  have a2 := abs_ge (2 * cf Q 2)
  generalize absR (cf Q 1) = A1 at *
  generalize absR (2 * cf Q 2) = A2 at *
  generalize cf Q 1 = c1 at *
  generalize cf Q 2 = c2 at *
  generalize bnd P = B at *
  have k1 := Rat.mul_nonneg (by grind : 0 ≤ A2 - 2 * c2) (by grind : 0 ≤ 2 * B + (e + a))
  have k2 := Rat.mul_nonneg (by grind : 0 ≤ A2 + 2 * c2) (by grind : 0 ≤ 2 * B - (e + a))
  have k3 := Rat.mul_nonneg (by grind : 0 ≤ A2 + 2 * c2) (by grind : 0 ≤ 2 * B + (e + a))
  have k4 := Rat.mul_nonneg (by grind : 0 ≤ A2 - 2 * c2) (by grind : 0 ≤ 2 * B - (e + a))
  have g1 : c1 + c2 * (e + a) ≤ 1 + (A1 + A2 * B) := by grind
  have g2 : -(c1 + c2 * (e + a)) ≤ 1 + (A1 + A2 * B) := by grind
  have hs : 0 ≤ 1 + (A1 + A2 * B) := by grind
  have t1 := Rat.mul_nonneg (by grind : 0 ≤ e - a) (by grind : 0 ≤ (1 + (A1 + A2 * B)) - (c1 + c2 * (e + a)))
  have t2 := Rat.mul_nonneg (by grind : 0 ≤ e - a) (by grind : 0 ≤ (1 + (A1 + A2 * B)) + (c1 + c2 * (e + a)))
  have t3 := Rat.mul_nonneg (by grind : 0 ≤ wide - (e - a)) hs
  generalize 1 + (A1 + A2 * B) = s at *
  constructor <;> grind
/-- near a root that may not be a fraction: the lesser one of the two others -/
theorem lipQ {P Q : List Rat} {b c l e wide : Rat} (hd : 0 < sqd b c) (lQ : Q.length ≤ 3) (hB : 1 ≤ bnd P) (h1 : nng (sqd b c) (-(l + b / 2)) (-1)) (h2 : nng (sqd b c) (e + b / 2) 1) (h3 : -bnd P ≤ l) (h4 : e ≤ bnd P) (h5 : e - l ≤ wide) (hw : 0 ≤ wide) (hle : l ≤ e) :
    nng (sqd b c) (wide * steepP (P, Q) - ev Q e + wA b c (cf Q 0) (cf Q 1) (cf Q 2)) (-wB b (cf Q 1) (cf Q 2)) ∧ nng (sqd b c) (wide * steepP (P, Q) + ev Q e - wA b c (cf Q 0) (cf Q 1) (cf Q 2)) (wB b (cf Q 1) (cf Q 2)) := by
  have est : steepP (P, Q) = 1 + (absR (cf Q 1) + absR (2 * cf Q 2) * bnd P) := by
    unfold steepP
    rw [ev_absl lQ]
  rw [est, ev_3 lQ]
  unfold wA wB
  have ed : sqd b c = b * b / 4 - c := by unfold sqd; grind
  have a1 := abs_ge (cf Q 1)
  have a2 : absR (2 * cf Q 2) = 2 * absR (cf Q 2) := by unfold absR; split <;> split <;> grind
  have a3 : (0 ≤ cf Q 2 ∧ absR (cf Q 2) = cf Q 2) ∨ (cf Q 2 ≤ 0 ∧ absR (cf Q 2) = -cf Q 2) := by
    unfold absR
    split
    · exact .inr ⟨by grind, rfl⟩
    · exact .inl ⟨by grind, rfl⟩
  rw [a2]
  generalize absR (cf Q 1) = A1 at *
  generalize absR (cf Q 2) = A2 at *
  generalize cf Q 0 = c0 at *
  generalize cf Q 1 = c1 at *
  generalize cf Q 2 = c2 at *
  generalize bnd P = B at *
  -- wide - (e - root)
  have w1 : nng (sqd b c) (wide - (e + b / 2)) (-1) := (nng_add hd h1 (nng_rat (show 0 ≤ wide - (e - l) by grind))).cast (by grind) (by grind)
  have w2 : nng (sqd b c) (wide + (e + b / 2)) 1 := (nng_add hd h2 (nng_rat hw)).cast (by grind) (by grind)
  -- 2 B - (e + root), 2 B + (e + root)
  have z1 : nng (sqd b c) (2 * B - (e - b / 2)) 1 := (nng_add hd h2 (nng_rat (show 0 ≤ 2 * (B - e) by grind))).cast (by grind) (by grind)
  have z2 : nng (sqd b c) (2 * B + (e - b / 2)) (-1) := (nng_add hd h1 (nng_rat (show 0 ≤ 2 * B + e + l by grind))).cast (by grind) (by grind)
  have y : nng (sqd b c) (2 * A2 * B - c2 * (e - b / 2)) c2 ∧ nng (sqd b c) (2 * A2 * B + c2 * (e - b / 2)) (-c2) := by
    rcases a3 with ⟨p, q⟩ | ⟨p, q⟩
    · exact ⟨(nng_scale hd p z1).cast (by grind) (by grind), (nng_scale hd p z2).cast (by grind) (by grind)⟩
    · exact ⟨(nng_scale hd (by grind : 0 ≤ -c2) z2).cast (by grind) (by grind), (nng_scale hd (by grind : 0 ≤ -c2) z1).cast (by grind) (by grind)⟩
  have g1 : nng (sqd b c) (1 + (A1 + 2 * A2 * B) - (c1 + c2 * (e - b / 2))) c2 := (nng_add hd y.1 (nng_rat (show 0 ≤ 1 + (A1 - c1) by grind))).cast (by grind) (by grind)
  have g2 : nng (sqd b c) (1 + (A1 + 2 * A2 * B) + (c1 + c2 * (e - b / 2))) (-c2) := (nng_add hd y.2 (nng_rat (show 0 ≤ 1 + (A1 + c1) by grind))).cast (by grind) (by grind)
  have hh : (0 : Rat) ≤ 1 / 2 := by grind
  generalize 1 + (A1 + 2 * A2 * B) = s at *
  have r1 := nng_scale hd hh (nng_add hd (nng_mul hd w1 g2) (nng_mul hd w2 g1))
  have r2 := nng_scale hd hh (nng_add hd (nng_mul hd w1 g1) (nng_mul hd w2 g2))
  generalize sqd b c = de at *
  subst ed
  exact ⟨r1.cast (by grind) (by grind), r2.cast (by grind) (by grind)⟩
end M66
/-! The plain law, part 29: the bounds at every flock. -/
namespace M66
section
variable {C : ICr} {m : Nat} {a n width : Rat}
theorem mo0_LC (C : ICr) : mo C 0 = LC C (fun _ => 1) := by
  unfold mo
  exact LC_ext fun x => Rat.pow_zero x
theorem ge_up (h : CrOk C) {φ : Rat → Rat} {k : Rat} (hk : 0 < k) (h0 : ∀ x, 0 ≤ φ x) (hL : LC C φ = n * k) (h1 : ∀ x, ¬ x < a → k ≤ φ x) : mo C 0 - belC C a ≤ n := by
  have e : mo C 0 - belC C a = LC C (fun x => if x < a then 0 else 1) := by
    rw [mo0_LC, belC_LC, ← LC_sub]
    exact LC_ext fun x => by split <;> grind
  have l := LC_le (C := C) (φ := fun x => k * (if x < a then 0 else 1)) (ψ := φ) (cr_pos h) fun z _ => by
    by_cases hz : (z.1 : Rat) < a
    · rw [if_pos hz]
      have := h0 (z.1 : Rat)
      grind
    · rw [if_neg hz]
      have := h1 _ hz
      grind
  rw [LC_smul, ← e, hL] at l
  by_cases hc : mo C 0 - belC C a ≤ n
  · exact hc
  · have := mp hk (by grind : 0 < mo C 0 - belC C a - n)
    grind
theorem ge_dn (h : CrOk C) {φ : Rat → Rat} {k : Rat} (hk : 0 < k) (h0 : ∀ x, 0 ≤ φ x) (hL : LC C φ = n * k) (h1 : ∀ x, ¬ a < x → k ≤ φ x) : upC C a ≤ n := by
  have l := LC_le (C := C) (φ := fun x => k * (if a < x then 0 else 1)) (ψ := φ) (cr_pos h) fun z _ => by
    by_cases hz : a < (z.1 : Rat)
    · rw [if_pos hz]
      have := h0 (z.1 : Rat)
      grind
    · rw [if_neg hz]
      have := h1 _ hz
      grind
  rw [LC_smul, ← upC_LC, hL] at l
  by_cases hc : upC C a ≤ n
  · exact hc
  · have := mp hk (by grind : 0 < upC C a - n)
    grind
theorem up_le (h : CrOk C) : upC C a ≤ mo C 0 := by
  rw [upC_LC, mo0_LC]
  refine LC_le (cr_pos h) fun z _ => ?_
  split <;> decide
theorem bel_ge (h : CrOk C) : 0 ≤ belC C a := by
  rw [belC_LC]
  exact LC_nonneg h fun x => by split <;> decide
theorem evOkQ {Q : List Rat} (hQ : SzL 500000 Q) (lQ : Q.length ≤ 3) (ha : Sz 5 a) : EvOk Q a := by
  have eB : BIG = 67000000 := rfl
  have hm : Q.length * (500000 + 5 + 1) ≤ 3 * (500000 + 5 + 1) := Nat.mul_le_mul_right _ lQ
  exact evOk (n := 500000) (m := 5) (by decide) (by decide) hQ ha (by omega)
/-- all weights at or below the told root -/
theorem fr_all {P Q : List Rat} (h : CrOk C) (hfl : FlAt (sumsC C m) a (some (P, Q))) (hQ : SzL 500000 Q) (lQ : Q.length ≤ 3) (ha : Sz 5 a) (hn : ev Q a = n) (sn : Sz 4001 n) (hv : tot (flsL (P, Q)) = mo C 0) (hwu : WuAt (P, Q) a width (tot (flsL (P, Q))) (tot (flsL (P, Q)))) (hg : mo C 0 - belC C a ≤ n) : FlRes C m a n width := by
  have eB : BIG = 67000000 := rfl
  rw [hv] at hwu
  have s0 : Sz 6 (mo C 0) := (ib0 h).sz (by decide)
  have hu := up_le (a := a) h
  exact ⟨_, hfl, .inr ⟨_, _, _, rfl, evOkQ hQ lQ ha, hn, hwu, s0.s (by omega), s0.s (by omega), (s0.sub sn).s (by omega), by grind, by grind⟩⟩
theorem fr1 (h : CrOk C) (ha : Spt a) (hfl : FlAt (sumsC C m) a (some ([-a, 1], cln [mo C 0]))) : FlRes C m a (mo C 0) width := by
  have s0 : Sz 6 (mo C 0) := (ib0 h).sz (by decide)
  have hQ : SzL 500000 (cln [mo C 0]) := szl_cln fun c hc => by
    simp at hc
    subst hc
    exact s0.mono (by decide)
  have lQ : (cln [mo C 0]).length ≤ 3 := Nat.le_trans (cln_length _) (by simp)
  have H := chn1 (r0 := -a) (ha.sz.neg.mono (by decide))
  have hR : SzL 4000 (rpL [-a, 1] 5) := szl_rp2 (n := 200) (by decide) (ha.sz.neg.mono (by decide))
  have hb : btw [[-a, 1], [1]] none (some a) = ((1 : Nat) : Int) := by
    have f1 : chg [[-a, 1], [1]] none (-1) = 1 := by
      show alt [signFar [-a, 1] (-1), signFar [1] (-1)] = 1
      rw [far_even (f := [-a, 1]) (by simp) (by rw [lst2]; decide), far_odd (f := [1]) (by simp) (by rw [lst1]; decide)]
      rfl
    have f2 : chg [[-a, 1], [1]] (some a) 1 = 0 := by
      show alt [sgn (ev [-a, 1] a), sgn (ev [1] a)] = 0
      rw [sgn_0 (by rw [ev2]; grind), ev1, sgn_p (by decide)]
      rfl
    unfold btw
    rw [f1, f2]
    rfl
  have hv : tot (flsL ([-a, 1], cln [mo C 0])) = mo C 0 := by
    rw [fls_val _ lQ, cf_cln, cf_cln, cf_cln, ← cf_rpL [-a, 1] (i := 0) (n := 0) (by decide) (by decide)]
    rw [show cf (rpL [-a, 1] 0) 0 = 1 from rfl, show cf [mo C 0] 0 = mo C 0 from rfl, show cf [mo C 0] 1 = 0 from rfl, show cf [mo C 0] 2 = 0 from rfl]
    grind
  refine fr_all h hfl hQ lQ ha.sz ?_ (s0.mono (by decide)) hv (wu_all H hb rfl (by decide) hQ lQ hR ha.sz) ?_
  · rw [ev_cln, ev_cons, ev_nil]
    grind
  · have := bel_ge (a := a) h
    grind
theorem fr2 {P Q : List Rat} {b y0 y1 : Rat} (h : CrOk C) (ha : Spt a) (hfl : FlAt (sumsC C m) a (some (P, Q))) (K : Fk2 C a P Q b y0 y1) (o0 : mo C 2 + (b - a) * mo C 1 + -(a * b) * mo C 0 = 0) (hn : y0 + y1 * a = n) (sn : Sz 4001 n) (hw : WdOk width) : FlRes C m a n width := by
  have eB : BIG = 67000000 := rfl
  have sR := K.sR
  have hfl' := hfl
  have hab := K.n
  have kk0 := K.k0
  have kk1 := K.k1
  have hQ : SzL 500000 Q := by
    rw [K.W]
    exact szl_cln K.sW
  have lQ2 : Q.length ≤ 2 := by
    rw [K.W]
    exact cln_length _
  have lQ : Q.length ≤ 3 := by omega
  have c0 : cf Q 0 = y0 := by rw [K.W, cf_cln]; rfl
  have c1 : cf Q 1 = y1 := by rw [K.W, cf_cln]; rfl
  have c2 : cf Q 2 = 0 := cf_of_le lQ2
  have hev : ev Q a = n := by
    rw [ev_3 lQ, c0, c1, c2, ← hn]
    grind
  have eP := K.R
  rw [eP] at sR
  obtain ⟨H, Ct, far⟩ := cnt2 ha.sz sR hab
  generalize [[-(a * b), b - a, 1], [b - a, 2], [dc2 (-(a * b)) (b - a) / 4]] = ch at H Ct far
  rw [← eP] at H Ct
  have at2 : n * (a + b) = mo C 1 + b * mo C 0 := by
    rw [← hn, ← kk0, ← kk1]
    grind
  have sq : LC C (fun t => (t + b) * (t + b)) = n * ((a + b) * (a + b)) := by
    rw [LC_pe C (a := b * b) (b := 2 * b) (c := 1) (d := 0) (e := 0) (f := 0) fun t => by grind]
    grind
  have hpos : 0 < (a + b) * (a + b) := by
    have := sq0 (a + b)
    have : (a + b) * (a + b) ≠ 0 := by grind
    grind
  by_cases hlt : a < -b
  · -- the other root lies above
    have hg : upC C a ≤ n := ge_dn h hpos (fun x => sq0 _) sq fun x hx => by
      have := Rat.mul_nonneg (by grind : 0 ≤ a - x) (by grind : 0 ≤ -(x + b) + -(a + b))
      grind
    have hVa : V2 a b a + 1 = 2 := by
      unfold V2
      rw [if_neg (by grind : ¬ a < a), if_pos hlt]
    obtain ⟨wp, st, l, ll, il, gr, wu, z1, z2⟩ := wu_part (k := 1) (width := width) H Ct far (by rw [eP]; rfl) hQ lQ ha.sz hVa (by decide) (by decide) hw
    match l, ll with
    | [p, q], _ =>
      have g := gr p (by simp)
      have i1 : V2 a b p.2.1 = 2 := il.1
      have i2 : V2 a b p.2.2 + 1 = 2 := il.2.1
      have l1 : p.2.1 < a := by
        by_cases hc : p.2.1 < a
        · exact hc
        · unfold V2 at i1
          rw [if_neg hc] at i1
          split at i1 <;> omega
      have l2 : a ≤ p.2.2 := by
        by_cases hc : p.2.2 < a
        · unfold V2 at i2
          rw [if_pos hc, if_pos (by grind : p.2.2 < -b)] at i2
          omega
        · grind
      have lp := lipR (P := P) lQ Ct.B1 (Rat.le_of_lt l1) l2 g.1 g.2.1 g.2.2.2
      have ef : tot (fndP (P, Q) [p, q] 1) = ev Q p.2.2 := by
        show tot [ev Q p.2.2] = _
        rw [tot_cons, tot_nil]
        grind
      have eo : offP (P, Q) width 1 = wideP (P, Q) width 1 * steepP (P, Q) := by
        unfold offP
        show (1 : Rat) * _ = _
        grind
      rw [hev] at lp
      have hb := bel_ge (a := a) h
      refine ⟨_, hfl, .inr ⟨_, _, _, rfl, evOkQ hQ lQ ha.sz, hev, wu, z1.s (by omega), z2.s (by omega), (z1.sub sn).s (by omega), ?_, ?_⟩⟩
      · rw [ef, eo]
        grind
      · rw [ef, eo]
        grind
  · have hgt : 0 < a + b := by grind
    have hg : mo C 0 - belC C a ≤ n := ge_up h hpos (fun x => sq0 _) sq fun x hx => by
      have := Rat.mul_nonneg (by grind : 0 ≤ x - a) (by grind : 0 ≤ (x + b) + (a + b))
      grind
    have hb : btw ch none (some a) = ((2 : Nat) : Int) := by
      unfold btw
      rw [far, Ct.at_]
      unfold V2
      rw [if_neg (by grind : ¬ a < a), if_neg hlt]
      rfl
    have hR : SzL 4000 (rpL P 5) := by
      rw [eP]
      exact szl_rp3 (n := 200) (by decide) (sR _ (by simp)) (sR _ (by simp))
    have hv : tot (flsL (P, Q)) = mo C 0 := by
      rw [fls_val _ lQ, c0, c1, c2, ← cf_rpL P (i := 0) (n := 3) (by decide) (by decide), ← cf_rpL P (i := 1) (n := 3) (by decide) (by decide), eP, rp3, ← kk0]
      show y0 * 2 + y1 * -(b - a) + 0 * _ = _
      grind
    exact fr_all h hfl hQ lQ ha.sz hev sn hv (wu_all (d := 2) H hb (by rw [eP]; rfl) (by decide) hQ lQ hR ha.sz) hg
end
end M66
/-! The plain law, part 30: the bounds at a flock of degree three. -/
namespace M66
section
variable {C : ICr} {m : Nat} {a n width : Rat}
theorem fr3 {P Q : List Rat} {b c y0 y1 y2 : Rat} (h : CrOk C) (ha : Spt a) (hfl : FlAt (sumsC C m) a (some (P, Q))) (K : Fk3 C a P Q b c y0 y1 y2) (o0 : mo C 3 + (b - a) * mo C 2 + (c - a * b) * mo C 1 + -(a * c) * mo C 0 = 0) (o1 : mo C 4 + (b - a) * mo C 3 + (c - a * b) * mo C 2 + -(a * c) * mo C 1 = 0)
    (hn : y0 + y1 * a + y2 * a ^ 2 = n) (sn : Sz 4001 n) (hw : WdOk width) (hmid : a * a + b * a + c < 0 → ∃ x y z u v w, Mid C a b c y0 y1 y2 x y z u v w P Q) : FlRes C m a n width := by
  have eB : BIG = 67000000 := rfl
  have sR := K.sR
  have hqa := K.n
  have hd := K.d
  have hQ : SzL 500000 Q := by
    rw [K.W]
    exact szl_cln K.sW
  have lQ : Q.length ≤ 3 := by
    rw [K.W]
    exact cln_length _
  have c0 : cf Q 0 = y0 := by rw [K.W, cf_cln]; rfl
  have c1 : cf Q 1 = y1 := by rw [K.W, cf_cln]; rfl
  have c2 : cf Q 2 = y2 := by rw [K.W, cf_cln]; rfl
  have hev : ev Q a = n := by rw [ev_3 lQ, c0, c1, c2, ← hn]
  have eP := K.R
  rw [eP] at sR
  obtain ⟨H, Ct, far⟩ := cnt3 ha.sz sR hqa hd
  generalize chn3L (-(a * c)) (c - a * b) (b - a) = ch at H Ct far
  rw [← eP] at H Ct
  have hde : 0 < (b * b - 4 * c) / 4 := by grind
  have hde' : 0 < sqd b c := hde
  have sq := atsq3 K o0 o1
  rw [hn] at sq
  have vq : ∀ x : Rat, (x + b / 2) * (x + b / 2) - (b * b - 4 * c) / 4 = x * x + b * x + c := fun x => by grind
  have qe : a ^ 2 + b * a + c = a * a + b * a + c := by grind
  have hpos : 0 < (a ^ 2 + b * a + c) * (a ^ 2 + b * a + c) := by
    have := sq0 (a ^ 2 + b * a + c)
    have : (a ^ 2 + b * a + c) * (a ^ 2 + b * a + c) ≠ 0 := by
      generalize a ^ 2 + b * a + c = q at *
      grind
    grind
  rcases cqv_tri hde (a + b / 2) with ⟨q1, q2, q3⟩ | ⟨q1, q3⟩ | ⟨q1, q2, q3⟩
  · -- both others above
    rw [vq] at q1
    have hg : upC C a ≤ n := ge_dn h hpos (fun x => sq0 _) sq fun x hx => by
      have t1 := Rat.mul_nonneg (by grind : 0 ≤ a - x) (by grind : 0 ≤ -(x + a + b))
      have t2 : 0 ≤ (c + b * x + 1 * x ^ 2) - (a ^ 2 + b * a + c) := by grind
      have t3 := Rat.mul_nonneg t2 (by grind : 0 ≤ (c + b * x + 1 * x ^ 2) + (a ^ 2 + b * a + c))
      grind
    have hVa : V3 a b c a + 1 = 3 := by
      unfold V3
      rw [if_neg (by grind : ¬ a < a), q3]
    obtain ⟨wp, st, l, ll, il, gr, wu, z1, z2⟩ := wu_part (k := 1) (width := width) H Ct far (by rw [eP]; rfl) hQ lQ ha.sz hVa (by decide) (by decide) hw
    match l, ll with
    | [p, q, r], _ =>
      have g := gr p (by simp)
      have i1 : V3 a b c p.2.1 = 3 := il.1
      have i2 : V3 a b c p.2.2 + 1 = 3 := il.2.1
      have l1 : p.2.1 < a := by
        by_cases hc : p.2.1 < a
        · exact hc
        · unfold V3 at i1
          rw [if_neg hc] at i1
          rcases cqv_tri hde (p.2.1 + b / 2) with ⟨_, _, t⟩ | ⟨_, t⟩ | ⟨_, _, t⟩ <;> omega
      have l2 : a ≤ p.2.2 := by
        by_cases hc : p.2.2 < a
        · have an := cqv_anti hde (by grind : p.2.2 + b / 2 ≤ a + b / 2)
          unfold V3 at i2
          rw [if_pos hc] at i2
          omega
        · grind
      have lp := lipR (P := P) lQ Ct.B1 (Rat.le_of_lt l1) l2 g.1 g.2.1 g.2.2.2
      have ef : tot (fndP (P, Q) [p, q, r] 1) = ev Q p.2.2 := by
        show tot [ev Q p.2.2] = _
        rw [tot_cons, tot_nil]
        grind
      have eo : offP (P, Q) width 1 = wideP (P, Q) width 1 * steepP (P, Q) := by
        unfold offP
        show (1 : Rat) * _ = _
        grind
      rw [hev] at lp
      have hb := bel_ge (a := a) h
      refine ⟨_, hfl, .inr ⟨_, _, _, rfl, evOkQ hQ lQ ha.sz, hev, wu, z1.s (by omega), z2.s (by omega), (z1.sub sn).s (by omega), ?_, ?_⟩⟩
      · rw [ef, eo]
        grind
      · rw [ef, eo]
        grind
  · -- between
    rw [vq] at q1
    have hq : a * a + b * a + c < 0 := by rcases q1 with q1 | q1 <;> grind
    obtain ⟨x, y, z, u, v, w, M⟩ := hmid hq
    obtain ⟨hl1, hl2⟩ := M.held hq
    have hVa : V3 a b c a + 2 = 3 := by
      unfold V3
      rw [if_neg (by grind : ¬ a < a), q3]
    obtain ⟨wp, st, l, ll, il, gr, wu, z1, z2⟩ := wu_part (k := 2) (width := width) H Ct far (by rw [eP]; rfl) hQ lQ ha.sz hVa (by decide) (by decide) hw
    match l, ll with
    | [p, q, r], _ =>
      have g := gr p (by simp)
      have g2 := gr q (by simp)
      have i1 : V3 a b c p.2.1 = 3 := il.1
      have i2 : V3 a b c p.2.2 + 1 = 3 := il.2.1
      have i3 : V3 a b c q.2.1 = 2 := il.2.2.1
      have i4 : V3 a b c q.2.2 + 1 = 2 := il.2.2.2.1
      have an : ∀ {s t : Rat}, s ≤ t → cqv (t + b / 2) ((b * b - 4 * c) / 4) ≤ cqv (s + b / 2) ((b * b - 4 * c) / 4) := fun hst => cqv_anti hde (by grind)
      -- the first stretch
      have p1 : cqv (p.2.1 + b / 2) ((b * b - 4 * c) / 4) = 2 := by
        unfold V3 at i1
        rcases cqv_tri hde (p.2.1 + b / 2) with ⟨_, _, t⟩ | ⟨_, t⟩ | ⟨_, _, t⟩
        · exact t
        · split at i1 <;> omega
        · split at i1 <;> omega
      have p2 : cqv (p.2.2 + b / 2) ((b * b - 4 * c) / 4) = 1 := by
        unfold V3 at i2
        by_cases hc : p.2.2 < a
        · rw [if_pos hc] at i2
          omega
        · rw [if_neg hc] at i2
          have := an (by grind : a ≤ p.2.2)
          omega
      have n1 : nng (sqd b c) (-(p.2.1 + b / 2)) (-1) := by
        rcases cqv_tri hde (p.2.1 + b / 2) with ⟨t1, t2, t⟩ | ⟨_, t⟩ | ⟨_, _, t⟩
        · rw [vq] at t1
          exact out_lo (Rat.le_of_lt t1) (Rat.le_of_lt t2)
        · omega
        · omega
      have n2 : nng (sqd b c) (p.2.2 + b / 2) 1 := by
        rcases cqv_tri hde (p.2.2 + b / 2) with ⟨t1, t2, t⟩ | ⟨t1, t⟩ | ⟨_, _, t⟩
        · omega
        · rw [vq] at t1
          exact in_lo (by rcases t1 with t1 | t1 <;> grind)
        · omega
      obtain ⟨w1, w2⟩ := lipQ (P := P) hde' lQ Ct.B1 n1 n2 g.1 g.2.1 g.2.2.2 (Rat.le_of_lt wp) g.2.2.1
      rw [c0, c1, c2] at w1 w2
      have f1 := nng_of0 hde' ((nng_add hde' hl1 w1).cast rfl (by grind))
      have f2 := nng_of0 hde' ((nng_add hde' hl2 w2).cast rfl (by grind))
      have al := all3 K
      rw [hn] at al
      -- the second
      have l1 : q.2.1 < a := by
        by_cases hc : q.2.1 < a
        · exact hc
        · unfold V3 at i3
          rw [if_neg hc] at i3
          have := an (by grind : a ≤ q.2.1)
          omega
      have l2 : a ≤ q.2.2 := by
        by_cases hc : q.2.2 < a
        · have := an (by grind : q.2.2 ≤ a)
          unfold V3 at i4
          rw [if_pos hc] at i4
          omega
        · grind
      have lp := lipR (P := P) lQ Ct.B1 (Rat.le_of_lt l1) l2 g2.1 g2.2.1 g2.2.2.2
      rw [hev] at lp
      have ef : tot (fndP (P, Q) [p, q, r] 2) = ev Q p.2.2 + ev Q q.2.2 := by
        show tot [ev Q p.2.2, ev Q q.2.2] = _
        rw [tot_cons, tot_cons, tot_nil]
        grind
      have eo : offP (P, Q) width 2 = 2 * (wideP (P, Q) width 2 * steepP (P, Q)) := by
        unfold offP
        rfl
      refine ⟨_, hfl, .inr ⟨_, _, _, rfl, evOkQ hQ lQ ha.sz, hev, wu, z1.s (by omega), z2.s (by omega), (z1.sub sn).s (by omega), ?_, ?_⟩⟩
      · rw [ef, eo]
        grind
      · rw [ef, eo]
        grind
  · -- both others below
    rw [vq] at q1
    have q1' : 0 < a * a + b * a + c := by grind
    have hg : mo C 0 - belC C a ≤ n := ge_up h hpos (fun x => sq0 _) sq fun x hx => by
      have t1 := Rat.mul_nonneg (by grind : 0 ≤ x - a) (by grind : 0 ≤ x + a + b)
      have t2 : 0 ≤ (c + b * x + 1 * x ^ 2) - (a ^ 2 + b * a + c) := by grind
      have t3 := Rat.mul_nonneg t2 (by grind : 0 ≤ (c + b * x + 1 * x ^ 2) + (a ^ 2 + b * a + c))
      grind
    have hb : btw ch none (some a) = ((3 : Nat) : Int) := by
      unfold btw
      rw [far, Ct.at_]
      unfold V3
      rw [if_neg (by grind : ¬ a < a), q3]
      rfl
    have hR : SzL 4000 (rpL P 5) := by
      rw [eP]
      exact szl_rp4 (n := 200) (by decide) (sR _ (by simp)) (sR _ (by simp)) (sR _ (by simp))
    have hv : tot (flsL (P, Q)) = mo C 0 := by
      rw [fls_val _ lQ, c0, c1, c2, eP, rp4, ← K.k0]
      show y0 * 3 + y1 * -(b - a) + y2 * ((b - a) ^ 2 - 2 * (c - a * b)) = _
      grind
    exact fr_all h hfl hQ lQ ha.sz hev sn hv (wu_all (d := 3) H hb (by rw [eP]; rfl) (by decide) hQ lQ hR ha.sz) hg
end
end M66
/-! The plain law, part 31: the bounds at every crowd. -/
namespace M66
theorem LC_ind {C : ICr} (h : ∀ z ∈ C, -6 ≤ z.1 ∧ z.1 ≤ 18 ∧ 1 ≤ z.2 ∧ z.2 ≤ 6) {φ : Rat → Rat} (h0 : ∀ x, φ x = 0 ∨ φ x = 1) : ∃ i : Int, LC C φ = (i : Rat) ∧ 0 ≤ i ∧ i ≤ 6 * C.length := by
  induction C with
  | nil => exact ⟨0, rfl, by decide, by simp⟩
  | cons z C ih =>
    obtain ⟨i, e, h1, h2⟩ := ih fun y hy => h y (List.mem_cons_of_mem _ hy)
    obtain ⟨_, _, h3, h4⟩ := h z List.mem_cons_self
    rcases h0 (z.1 : Rat) with hz | hz
    · refine ⟨i, ?_, h1, by rw [List.length_cons]; omega⟩
      rw [show LC (z :: C) φ = (z.2 : Rat) * φ (z.1 : Rat) + LC C φ from rfl, hz, e]
      grind
    · refine ⟨z.2 + i, ?_, by omega, by rw [List.length_cons]; omega⟩
      rw [show LC (z :: C) φ = (z.2 : Rat) * φ (z.1 : Rat) + LC C φ from rfl, hz, e, Rat.intCast_add]
      grind
section
variable {C : ICr} {m : Nat} {a n width : Rat}
theorem wg_ok (h : CrOk C) (ha : Spt a) : WgOk C a ∧ Sz 10 (belC C a) ∧ Sz 10 (upC C a) := by
  have eB : BIG = 67000000 := rfl
  obtain ⟨h1, h2⟩ := cr_each h
  have key : ∀ i, Sz 10 (belC (C.take i) a) ∧ Sz 10 (upC (C.take i) a) := by
    intro i
    have hl : (C.take i).length ≤ 3 := by rw [List.length_take]; omega
    have he : ∀ z ∈ C.take i, -6 ≤ z.1 ∧ z.1 ≤ 18 ∧ 1 ≤ z.2 ∧ z.2 ≤ 6 := fun z hz => h2 z (List.mem_of_mem_take hz)
    rw [belC_LC, upC_LC]
    obtain ⟨i1, e1, p1, p2⟩ := LC_ind he (φ := fun x => if x < a then 1 else 0) fun x => by
      by_cases hx : x < a
      · exact .inr (if_pos hx)
      · exact .inl (if_neg hx)
    obtain ⟨i2, e2, q1, q2⟩ := LC_ind he (φ := fun x => if a < x then 0 else 1) fun x => by
      by_cases hx : a < x
      · exact .inl (if_pos hx)
      · exact .inr (if_neg hx)
    rw [e1, e2]
    exact ⟨sz_int (by decide) (by omega), sz_int (by decide) (by omega)⟩
  have kt := key C.length
  rw [List.take_length] at kt
  refine ⟨⟨by omega, ha.sz.s (by omega), fun z hz => ?_, fun i _ => ⟨(key i).1.s (by omega), (key i).2.s (by omega)⟩⟩, kt⟩
  obtain ⟨q1, q2, q3, q4⟩ := h2 z hz
  exact ⟨(sz_int (n := 6) (by decide) (by omega)).s (by omega), (sz_int (n := 6) (by decide) (by omega)).s (by omega)⟩
theorem bd_of (h : CrOk C) (ha : Spt a) {f : List Rat} (L : LsRes C m a n f) (F : FlRes C m a n width) : BdOk C (sumsC C m) a width := by
  have eB : BIG = 67000000 := rfl
  obtain ⟨l1, l2, l3, l4, l5, l6, _⟩ := L
  obtain ⟨w1, w2, w3⟩ := wg_ok h ha
  exact ⟨w1, n, f, l1, l2.s (by omega), (w3.sub w2).s (by omega), l6, l3, l4, l5, F⟩
theorem fr_none (h : FlAt (sumsC C m) a none) : FlRes C m a n width := ⟨none, h, .inl rfl⟩
theorem LsRes.nn {f : List Rat} (h : CrOk C) (L : LsRes C m a n f) : 0 ≤ n := by
  rw [← L.2.2.2.2.2.2.1]
  exact LC_nonneg h fun x => sq0 _
variable {x y z u v w : Rat}
theorem bd_o1 (h : CrOk C) (h0 : 0 < mo C 0) (ha : Spt a) : BdOk C (sumsC C 1) a width := by
  have F := fr1 (width := width) h ha (fl_o1 h h0 ha)
  rw [root1 (a := a) (by grind : mo C 0 ≠ 0)] at F
  exact bd_of h ha (ls_o1 h h0 ha) F
theorem bd_t1 (h : CrOk C) (hC : One C x w) (hL : ∀ φ : Rat → Rat, LC C φ = w * φ x) (hm3 : 3 ≤ m) (hm : m ≤ 11) (hodd : m % 2 = 1) (ha : Spt a) : BdOk C (sumsC C m) a width := by
  have h0 := hC.m0
  rcases fl_t1 h hC hL hm3 hm hodd ha with ⟨e, F⟩ | ⟨e, F⟩
  · rcases ls_t1 h hC hL hm3 hm ha with ⟨_, L⟩ | ⟨e2, _⟩
    · have F := fr1 (width := width) h ha F
      rw [root1 (a := a) (by grind : mo C 0 ≠ 0)] at F
      exact bd_of h ha L F
    · exact absurd e e2
  · rcases ls_t1 h hC hL hm3 hm ha with ⟨e2, _⟩ | ⟨_, f, L⟩
    · exact absurd e2 e
    · exact bd_of h ha L (fr_none F)
theorem root2' (h0 : 0 < mo C 0) (h2 : 0 < De2 C) {P Q : List Rat} {b y0 y1 : Rat} (K : Fk2 C a P Q b y0 y1) (o0 : mo C 2 + (b - a) * mo C 1 + -(a * b) * mo C 0 = 0) : y0 + y1 * a = lsN a (L2 C) := by
  have h1 : 0 < hh1 C := div_pos' h2 h0
  have kp := (ker2 (a := a) h0 h1).pos
  exact root2 (by grind) (by grind) rfl rfl o0 K.k0 K.k1 K.n (by grind)
theorem bd_o2 (h : CrOk C) (h0 : 0 < mo C 0) (h2 : 0 < De2 C) (ha : Spt a) (hw : WdOk width) : BdOk C (sumsC C 3) a width := by
  have L := ls_o2 h h0 h2 ha
  rcases fl_o2 h h0 h2 ha with F | ⟨P, Q, b, y0, y1, F, K, o0⟩
  · exact bd_of h ha L (fr_none F)
  · exact bd_of h ha L (fr2 h ha F K o0 (root2' h0 h2 K o0) L.2.1 hw)
theorem bd_t2 (h : CrOk C) (hC : Two C x y v w) (hL : ∀ φ : Rat → Rat, LC C φ = v * φ x + w * φ y) (hm5 : 5 ≤ m) (hm : m ≤ 11) (hodd : m % 2 = 1) (ha : Spt a) (hw : WdOk width) : BdOk C (sumsC C m) a width := by
  have h0 := hC.m0
  have h2 := hC.d2
  rcases fl_t2 h hC hL hm5 hm hodd ha with ⟨e, P, Q, b, y0, y1, F, K, eP⟩ | ⟨e1, e2, F⟩
  · rcases ls_t2 h hC hL hm5 hm ha with ⟨_, L⟩ | ⟨e1, e2, _⟩
    · have o0 : mo C 2 + (b - a) * mo C 1 + -(a * b) * mo C 0 = 0 := by
        rw [K.R] at eP
        injection eP with p1 p2
        injection p2 with p2 _
        rw [p1, p2, hC.mo, hC.mo, hC.mo]
        grind
      exact bd_of h ha L (fr2 h ha F K o0 (root2' h0 h2 K o0) L.2.1 hw)
    · rcases e with e | e
      · exact absurd e e1
      · exact absurd e e2
  · rcases ls_t2 h hC hL hm5 hm ha with ⟨e, _⟩ | ⟨_, _, f, L⟩
    · rcases e with e | e
      · exact absurd e e1
      · exact absurd e e2
    · exact bd_of h ha L (fr_none F)
theorem root3' (hC : Thr C x y z u v w) {P Q : List Rat} {b c y0 y1 y2 : Rat} (K : Fk3 C a P Q b c y0 y1 y2) (o0 : mo C 3 + (b - a) * mo C 2 + (c - a * b) * mo C 1 + -(a * c) * mo C 0 = 0) (o1 : mo C 4 + (b - a) * mo C 3 + (c - a * b) * mo C 2 + -(a * c) * mo C 1 = 0) : y0 + y1 * a + y2 * a ^ 2 = lsN a (L3 C) := by
  have h0 := hC.m0
  have h2 := hC.d2
  have h3 := hC.d3
  have h1 : 0 < hh1 C := div_pos' h2 h0
  have hh : 0 < hh2 C := div_pos' h3 h2
  have kp := (ker3 (a := a) h0 h1 hh (by grind)).pos
  exact root3 (by grind) (by grind) (by grind) (by grind) rfl rfl rfl o0 o1 K.k0 K.k1 K.k2 K.n (by grind)
theorem bd_3 (h : CrOk C) (hC : Thr C x y z u v w) (hL : ∀ φ : Rat → Rat, LC C φ = u * φ x + v * φ y + w * φ z) (ha : Spt a) (hw : WdOk width) {P Q : List Rat} {b c y0 y1 y2 : Rat} (K : Fk3 C a P Q b c y0 y1 y2) (o0 : mo C 3 + (b - a) * mo C 2 + (c - a * b) * mo C 1 + -(a * c) * mo C 0 = 0) (o1 : mo C 4 + (b - a) * mo C 3 + (c - a * b) * mo C 2 + -(a * c) * mo C 1 = 0)
    (F : FlAt (sumsC C m) a (some (P, Q))) {f : List Rat} (L : LsRes C m a (lsN a (L3 C)) f) : BdOk C (sumsC C m) a width := by
  have e := root3' hC K o0 o1
  exact bd_of h ha L (fr3 h ha F K o0 o1 e L.2.1 hw fun _ => ⟨x, y, z, u, v, w, h, hC, hL, K, o0, o1, by rw [e]; exact L.nn h⟩)
theorem bd_o3 (h : CrOk C) (hC : Thr C x y z u v w) (hL : ∀ φ : Rat → Rat, LC C φ = u * φ x + v * φ y + w * φ z) (ha : Spt a) (hw : WdOk width) : BdOk C (sumsC C 5) a width := by
  have h0 := hC.m0
  have h2 := hC.d2
  have h3 := hC.d3
  have h1 : 0 < hh1 C := div_pos' h2 h0
  have L := ls_o3 h h0 h2 h3 ha
  rcases fl_o3 h h0 h2 h3 ha with F | ⟨P, Q, b, c, y0, y1, y2, F, K, t, eP⟩
  · exact bd_of h ha L (fr_none F)
  · obtain ⟨r1, r2⟩ := orthR (C := C) (t := t) (by grind) (by grind) (by grind)
    rw [K.R, nst_L3] at eP
    injection eP with p1 p2
    injection p2 with p2 p3
    injection p3 with p3 _
    rw [← p1, ← p2, ← p3] at r1 r2
    exact bd_3 h hC hL ha hw K r1 r2 F L
theorem bd_t3 (h : CrOk C) (hC : Thr C x y z u v w) (hx : Spt x) (hy : Spt y) (hz : Spt z) (hL : ∀ φ : Rat → Rat, LC C φ = u * φ x + v * φ y + w * φ z) (hm7 : 7 ≤ m) (hm : m ≤ 11) (hodd : m % 2 = 1) (ha : Spt a) (hw : WdOk width) : BdOk C (sumsC C m) a width := by
  rcases fl_t3 h hC hx hy hz hL hm7 hm hodd ha with ⟨e, P, Q, b, c, y0, y1, y2, F, K, eP⟩ | ⟨e1, e2, e3, F⟩
  · rcases ls_t3 h hC hx hy hz hL hm7 hm ha with ⟨_, L⟩ | ⟨e1, e2, e3, _⟩
    · rw [K.R] at eP
      unfold pp3 at eP
      injection eP with p1 p2
      injection p2 with p2 p3
      injection p3 with p3 _
      refine bd_3 h hC hL ha hw K ?_ ?_ F L
      · rw [p1, p2, p3, hC.mo, hC.mo, hC.mo, hC.mo]
        grind
      · rw [p1, p2, p3, hC.mo, hC.mo, hC.mo, hC.mo]
        grind
    · rcases e with e | e | e
      · exact absurd e e1
      · exact absurd e e2
      · exact absurd e e3
  · rcases ls_t3 h hC hx hy hz hL hm7 hm ha with ⟨e, _⟩ | ⟨_, _, _, f, L⟩
    · rcases e with e | e | e
      · exact absurd e e1
      · exact absurd e e2
      · exact absurd e e3
    · exact bd_of h ha L (fr_none F)
/-- the bounds -/
theorem bd_all (h : CrOk C) {j : Nat} (hj : j ≤ 5) (ha : Spt a) (hw : WdOk width) : BdOk C (sumsC C (1 + 2 * j)) a width := by
  rcases h.kind with ⟨x, w, hC, hx, hL⟩ | ⟨x, y, v, w, hC, hx, hy, hL⟩ | ⟨x, y, z, u, v, w, hC, hx, hy, hz, hL⟩
  · by_cases h0 : j = 0
    · subst h0
      exact bd_o1 h hC.m0 ha
    · exact bd_t1 h hC hL (by omega) (by omega) (by omega) ha
  · by_cases h0 : j = 0
    · subst h0
      exact bd_o1 h hC.m0 ha
    · by_cases h1 : j = 1
      · subst h1
        exact bd_o2 h hC.m0 hC.d2 ha hw
      · exact bd_t2 h hC hL (by omega) (by omega) (by omega) ha hw
  · by_cases h0 : j = 0
    · subst h0
      exact bd_o1 h hC.m0 ha
    · by_cases h1 : j = 1
      · subst h1
        exact bd_o2 h hC.m0 hC.d2 ha hw
      · by_cases h2 : j = 2
        · subst h2
          exact bd_o3 h hC hL ha hw
        · exact bd_t3 h hC hx hy hz hL (by omega) (by omega) (by omega) ha hw
end
end M66
/-! The plain law, part 32: steps of any functional. -/
namespace M66
def qd2 (s : Nat → Rat) : Rat := s 0 * s 2 - s 1 * s 1
def qd3 (s : Nat → Rat) : Rat := s 0 * s 2 * s 4 + 2 * (s 1 * s 2 * s 3) - s 2 * s 2 * s 2 - s 0 * (s 3 * s 3) - s 1 * s 1 * s 4
def qt0 (s : Nat → Rat) : Rat := s 1 / s 0
def qh1 (s : Nat → Rat) : Rat := qd2 s / s 0
def qe0 (s : Nat → Rat) : Rat := (s 1 * s 3 - s 2 * s 2) / qd2 s
def qe1 (s : Nat → Rat) : Rat := (s 1 * s 2 - s 0 * s 3) / qd2 s
def qh2 (s : Nat → Rat) : Rat := qd3 s / qd2 s
def qt1 (s : Nat → Rat) : Rat := (s 3 - 2 * qt0 s * s 2 + qt0 s * qt0 s * s 1) / qh1 s
def qt2 (s : Nat → Rat) : Rat := (s 5 + 2 * qe1 s * s 4 + (qe1 s * qe1 s + 2 * qe0 s) * s 3 + 2 * qe0 s * qe1 s * s 2 + qe0 s * qe0 s * s 1) / qh2 s
def qg0 (s : Nat → Rat) : Rat := -(qt2 s * qe0 s) + qh2 s / qh1 s * qt0 s
def qg1 (s : Nat → Rat) : Rat := qe0 s - qt2 s * qe1 s - qh2 s / qh1 s
def qg2 (s : Nat → Rat) : Rat := qe1 s - qt2 s
def qh3 (s : Nat → Rat) : Rat := s 6 + qg2 s * s 5 + qg1 s * s 4 + qg0 s * s 3
def Q1 (s : Nat → Rat) : List Stp := [([1], s 0)]
def Q2 (s : Nat → Rat) : List Stp := [([1], s 0), ([-qt0 s, 1], qh1 s)]
def Q3 (s : Nat → Rat) : List Stp := [([1], s 0), ([-qt0 s, 1], qh1 s), ([qe0 s, qe1 s, 1], qh2 s)]
def Q4 (s : Nat → Rat) : List Stp := [([1], s 0), ([-qt0 s, 1], qh1 s), ([qe0 s, qe1 s, 1], qh2 s), ([qg0 s, qg1 s, qg2 s, 1], qh3 s)]
/-- sums as a functional -/
structure Fnl (S : List Rat) (m : Nat) (L : (Rat → Rat) → Rat) (s : Nat → Rat) : Prop where
  len : S.length = m
  sq : ∀ f g, (mulP f g).length ≤ m → sqs S f g = L (fun x => ev f x * ev g x)
  pe : ∀ {φ : Rat → Rat} {a b c d e f g : Rat}, (∀ x, φ x = a + b * x + c * x ^ 2 + d * x ^ 3 + e * x ^ 4 + f * x ^ 5 + g * x ^ 6) → L φ = a * s 0 + b * s 1 + c * s 2 + d * s 3 + e * s 4 + f * s 5 + g * s 6
  szl : SzL 200 S
  m11 : m ≤ 11
  s0 : 0 < m → cf S 0 = s 0
/-- one step more -/
theorem stq_go {sums : List Rat} {some res : List Stp} {p : List Rat} {g : Rat} {n : Nat} (hs : sums.length ≤ 11) (hss : SzL 200 sums) (h0 : some ≠ []) (hp : SzL 1000 (lastS some).1) (hl : (lastS some).1.length ≤ 4) (hl2 : (lastS some).1.length = some.length) (hh : Sz 1000 (lastS some).2) (hpos : 0 < (lastS some).2) (hlt : 2 * some.length < sums.length) (ht : Sz 5000 (trn sums some))
    (hq : 1 < some.length → Sz 1000 (prevS some).2 ∧ (prevS some).2 ≠ 0 ∧ SzL 1000 (prevS some).1 ∧ (prevS some).1.length ≤ 5) (e1 : nstep some (trn sums some) = p) (hp2 : SzL 10000 p) (lp : p.length = some.length + 1) (e2 : sqs sums p p = g) (r : Sts sums (some ++ [(p, g)]) res n) : Sts sums some res (n + 1) := by
  have hl0 : 0 < some.length := List.length_pos_iff.mpr h0
  have hp0 : (lastS some).1 ≠ [] := by
    intro z
    rw [z] at hl2
    have : some.length = 0 := hl2.symm
    omega
  have hz : (lastS some).2 ≠ 0 := by grind
  have T := trnOk_of (n := 1000) (sums := sums) (some := some) (by omega) (by omega) h0 hp (by omega) (by omega) hp0 hs (fun c hc => (hss c hc).mono (by decide)) hh hz
  have N := (nstOk_of (n := 5000) (some := some) (t := trn sums some) (by decide) (by decide) h0 (fun c hc => (hp c hc).mono (by decide)) (by omega) ht (hh.mono (by decide)) fun q => by
    obtain ⟨q1, q2, q3, q4⟩ := hq q
    exact ⟨q1.mono (by decide), q2, fun c hc => (q3 c hc).mono (by decide), q4⟩).1
  have hpn : p ≠ [] := by
    intro z
    rw [z] at lp
    simp at lp
  have hml := mulP_len1 hpn hpn
  have Q := (sqOk_of (n := 10000) (sums := sums) (f := p) (g := p) (by omega) (by omega) (by omega) (by omega) (by omega) hs hp2 hp2 (fun c hc => (hss c hc).mono (by decide))).1
  refine Sts.go h0 hpos hlt T N (by rw [e1]; exact Q) ?_
  rw [e1, e2]
  exact r
section
variable {S : List Rat} {m : Nat} {L : (Rat → Rat) → Rat} {s : Nat → Rat}
theorem Fnl.trn1 (F : Fnl S m L s) (hm : 3 ≤ m) : trn S (Q1 s) = qt0 s := by
  show sqs S (rai [1] 1) [1] / s 0 = _
  rw [rai_eq (q := [0, 1]) (by simp) rfl, F.sq _ _ (by have := mulP_len1 (f := [0, 1]) (g := [1]) (by simp) (by simp); simp at this; omega)]
  rw [F.pe (a := 0) (b := 1) (c := 0) (d := 0) (e := 0) (f := 0) (g := 0) fun x => by rw [ev2, ev1]; grind]
  unfold qt0
  grind
theorem q_t0 (h0 : s 0 ≠ 0) : qt0 s * s 0 = s 1 := by unfold qt0; grind
theorem q_h1 (h0 : s 0 ≠ 0) : qh1 s = s 2 - qt0 s * s 1 := by
  have k1 := q_t0 h0
  have : qh1 s * s 0 = qd2 s := by unfold qh1; grind
  have hdd : qd2 s = s 0 * s 2 - s 1 * s 1 := rfl
  have e : (qh1 s - (s 2 - qt0 s * s 1)) * s 0 = 0 := by grind
  grind
theorem Fnl.sq1 (F : Fnl S m L s) (hm : 3 ≤ m) (h0 : s 0 ≠ 0) : sqs S [-qt0 s, 1] [-qt0 s, 1] = qh1 s := by
  rw [F.sq _ _ (by have := mulP_len1 (f := [-qt0 s, 1]) (g := [-qt0 s, 1]) (by simp) (by simp); simp at this; omega)]
  rw [F.pe (a := qt0 s * qt0 s) (b := -(2 * qt0 s)) (c := 1) (d := 0) (e := 0) (f := 0) (g := 0) fun x => by rw [ev2]; grind]
  have := q_t0 h0
  rw [q_h1 h0]
  grind
theorem Fnl.trn2 (F : Fnl S m L s) (hm : 5 ≤ m) : trn S (Q2 s) = qt1 s := by
  show sqs S (rai [-qt0 s, 1] 1) [-qt0 s, 1] / qh1 s = _
  rw [rai_eq (q := [0, -qt0 s, 1]) (by simp) rfl, F.sq _ _ (by have := mulP_len1 (f := [0, -qt0 s, 1]) (g := [-qt0 s, 1]) (by simp) (by simp); simp at this; omega)]
  rw [F.pe (a := 0) (b := qt0 s * qt0 s) (c := -(2 * qt0 s)) (d := 1) (e := 0) (f := 0) (g := 0) fun x => by rw [ev2, ev3]; grind]
  unfold qt1
  grind
theorem q_nst2 (h0 : s 0 ≠ 0) (h2 : qd2 s ≠ 0) : nstep (Q2 s) (qt1 s) = [qe0 s, qe1 s, 1] := by
  have e := nstep2 (s 0) (qh1 s) (qt0 s) (qt1 s)
  rw [show nstep (Q2 s) (qt1 s) = nstep [([1], s 0), ([-qt0 s, 1], qh1 s)] (qt1 s) from rfl, e]
  have hd : qd2 s = s 0 * s 2 - s 1 * s 1 := rfl
  have k1 : qt0 s * s 0 = s 1 := q_t0 h0
  have k2 : qh1 s * s 0 = qd2 s := by unfold qh1; grind
  have k0 : qh1 s ≠ 0 := by intro z; rw [z] at k2; grind
  have k3 : qt1 s * qh1 s = s 3 - 2 * qt0 s * s 2 + qt0 s * qt0 s * s 1 := by unfold qt1; grind
  have k4 : qe0 s * qd2 s = s 1 * s 3 - s 2 * s 2 := by unfold qe0; grind
  have k5 : qe1 s * qd2 s = s 1 * s 2 - s 0 * s 3 := by unfold qe1; grind
  have k6 : qh1 s / s 0 * s 0 = qh1 s := by grind
  generalize qh1 s / s 0 = r at *
  have o1 : s 2 - (qt0 s + qt1 s) * s 1 + (qt0 s * qt1 s - r) * s 0 = 0 := by grind
  have o2 : s 3 - (qt0 s + qt1 s) * s 2 + (qt0 s * qt1 s - r) * s 1 = 0 := by grind
  have a1 : (qt0 s * qt1 s - r) * qd2 s = qe0 s * qd2 s := by grind
  have a2 : (-(qt0 s + qt1 s)) * qd2 s = qe1 s * qd2 s := by grind
  have b1 : qt0 s * qt1 s - r = qe0 s := by grind
  have b2 : -(qt0 s + qt1 s) = qe1 s := by grind
  rw [b1, b2]
theorem q_o0 (h2 : qd2 s ≠ 0) : s 2 + qe1 s * s 1 + qe0 s * s 0 = 0 := by
  unfold qe0 qe1
  have hd : qd2 s = s 0 * s 2 - s 1 * s 1 := rfl
  grind
theorem q_o1 (h2 : qd2 s ≠ 0) : s 3 + qe1 s * s 2 + qe0 s * s 1 = 0 := by
  unfold qe0 qe1
  have hd : qd2 s = s 0 * s 2 - s 1 * s 1 := rfl
  grind
theorem q_o2 (h2 : qd2 s ≠ 0) : s 4 + qe1 s * s 3 + qe0 s * s 2 = qh2 s := by
  unfold qe0 qe1 qh2 qd3
  have hd : qd2 s = s 0 * s 2 - s 1 * s 1 := rfl
  grind
theorem Fnl.sq2 (F : Fnl S m L s) (hm : 5 ≤ m) (h2 : qd2 s ≠ 0) : sqs S [qe0 s, qe1 s, 1] [qe0 s, qe1 s, 1] = qh2 s := by
  rw [F.sq _ _ (by have := mulP_len1 (f := [qe0 s, qe1 s, 1]) (g := [qe0 s, qe1 s, 1]) (by simp) (by simp); simp at this; omega)]
  rw [F.pe (a := qe0 s * qe0 s) (b := 2 * qe0 s * qe1 s) (c := qe1 s * qe1 s + 2 * qe0 s) (d := 2 * qe1 s) (e := 1) (f := 0) (g := 0) fun x => by rw [ev3]; grind]
  have := q_o0 h2
  have := q_o1 h2
  have := q_o2 h2
  grind
theorem Fnl.trn3 (F : Fnl S m L s) (hm : 7 ≤ m) : trn S (Q3 s) = qt2 s := by
  show sqs S (rai [qe0 s, qe1 s, 1] 1) [qe0 s, qe1 s, 1] / qh2 s = _
  rw [rai_eq (q := [0, qe0 s, qe1 s, 1]) (by simp) rfl, F.sq _ _ (by have := mulP_len1 (f := [0, qe0 s, qe1 s, 1]) (g := [qe0 s, qe1 s, 1]) (by simp) (by simp); simp at this; omega)]
  rw [F.pe (a := 0) (b := qe0 s * qe0 s) (c := 2 * qe0 s * qe1 s) (d := qe1 s * qe1 s + 2 * qe0 s) (e := 2 * qe1 s) (f := 1) (g := 0) fun x => by rw [ev3, ev4]; grind]
  unfold qt2
  grind
theorem q_nst3 : nstep (Q3 s) (qt2 s) = [qg0 s, qg1 s, qg2 s, 1] := nstep3 _ _ _ _ _ _ _
theorem q_o3 (h0 : s 0 ≠ 0) (h2 : qd2 s ≠ 0) (h1 : qh1 s ≠ 0) (h3 : qh2 s ≠ 0) : s 3 + qg2 s * s 2 + qg1 s * s 1 + qg0 s * s 0 = 0 ∧ s 4 + qg2 s * s 3 + qg1 s * s 2 + qg0 s * s 1 = 0 ∧ s 5 + qg2 s * s 4 + qg1 s * s 3 + qg0 s * s 2 = 0 := by
  have kr : qh2 s / qh1 s * qh1 s = qh2 s := by grind
  have kt : qt2 s * qh2 s = s 5 + 2 * qe1 s * s 4 + (qe1 s * qe1 s + 2 * qe0 s) * s 3 + 2 * qe0 s * qe1 s * s 2 + qe0 s * qe0 s * s 1 := by unfold qt2; grind
  exact orth3 (q_t0 h0) (q_h1 h0) (q_o0 h2) (q_o1 h2) (q_o2 h2) kr kt
theorem Fnl.sq3 (F : Fnl S m L s) (hm : 7 ≤ m) (h0 : s 0 ≠ 0) (h2 : qd2 s ≠ 0) (h1 : qh1 s ≠ 0) (h3 : qh2 s ≠ 0) : sqs S [qg0 s, qg1 s, qg2 s, 1] [qg0 s, qg1 s, qg2 s, 1] = qh3 s := by
  rw [F.sq _ _ (by have := mulP_len1 (f := [qg0 s, qg1 s, qg2 s, 1]) (g := [qg0 s, qg1 s, qg2 s, 1]) (by simp) (by simp); simp at this; omega)]
  rw [F.pe (a := qg0 s * qg0 s) (b := 2 * qg0 s * qg1 s) (c := qg1 s * qg1 s + 2 * qg0 s * qg2 s) (d := 2 * qg1 s * qg2 s + 2 * qg0 s) (e := qg2 s * qg2 s + 2 * qg1 s) (f := 2 * qg2 s) (g := 1) fun x => by rw [ev4]; grind]
  obtain ⟨o0, o1, o2⟩ := q_o3 h0 h2 h1 h3
  unfold qh3
  generalize qg0 s = g0 at *
  generalize qg1 s = g1 at *
  generalize qg2 s = g2 at *
  grind
end
end M66
/-! The plain law, part 33: a functional with a square below nought has no flock. -/
namespace M66
section
variable {S : List Rat} {m : Nat} {L : (Rat → Rat) → Rat} {s : Nat → Rat}
theorem z_d2 (Z : ∀ k, k ≤ 5 → Sz 40 (s k)) : Sz 161 (qd2 s) := ((Z 0 (by decide)).mul (Z 2 (by decide))).sub ((Z 1 (by decide)).mul (Z 1 (by decide)))
theorem z_t0 (Z : ∀ k, k ≤ 5 → Sz 40 (s k)) : Sz 80 (qt0 s) := (Z 1 (by decide)).div (Z 0 (by decide))
theorem z_h1 (Z : ∀ k, k ≤ 5 → Sz 40 (s k)) : Sz 201 (qh1 s) := (z_d2 Z).div (Z 0 (by decide))
theorem z_e0 (Z : ∀ k, k ≤ 5 → Sz 40 (s k)) : Sz 322 (qe0 s) := (((Z 1 (by decide)).mul (Z 3 (by decide))).sub ((Z 2 (by decide)).mul (Z 2 (by decide)))).div (z_d2 Z)
theorem z_e1 (Z : ∀ k, k ≤ 5 → Sz 40 (s k)) : Sz 322 (qe1 s) := (((Z 1 (by decide)).mul (Z 2 (by decide))).sub ((Z 0 (by decide)).mul (Z 3 (by decide)))).div (z_d2 Z)
theorem z_h2 (Z : ∀ k, k ≤ 5 → Sz 40 (s k)) : Sz 800 (qh2 s) := by
  have z0 := Z 0 (by decide)
  have z1 := Z 1 (by decide)
  have z2 := Z 2 (by decide)
  have z3 := Z 3 (by decide)
  have z4 := Z 4 (by decide)
  exact ((((((z0.mul z2).mul z4).add (sz2.mul ((z1.mul z2).mul z3))).sub ((z2.mul z2).mul z2)).sub (z0.mul (z3.mul z3))).sub ((z1.mul z1).mul z4) |>.div (z_d2 Z)).mono (by decide)
theorem z_t1 (Z : ∀ k, k ≤ 5 → Sz 40 (s k)) : Sz 5000 (qt1 s) := by
  have z1 := Z 1 (by decide)
  have z2 := Z 2 (by decide)
  have z3 := Z 3 (by decide)
  have t0 := z_t0 Z
  exact (((z3.sub ((sz2.mul t0).mul z2)).add ((t0.mul t0).mul z1)).div (z_h1 Z)).mono (by decide)
theorem z_t2 (Z : ∀ k, k ≤ 5 → Sz 40 (s k)) : Sz 4000 (qt2 s) := by
  have z1 := Z 1 (by decide)
  have z2 := Z 2 (by decide)
  have z3 := Z 3 (by decide)
  have z4 := Z 4 (by decide)
  have z5 := Z 5 (by decide)
  have e0 := z_e0 Z
  have e1 := z_e1 Z
  exact ((((((z5.add ((sz2.mul e1).mul z4)).add (((e1.mul e1).add (sz2.mul e0)).mul z3)).add (((sz2.mul e0).mul e1).mul z2)).add ((e0.mul e0).mul z1))).div (z_h2 Z)).mono (by decide)
theorem z_p1 (Z : ∀ k, k ≤ 5 → Sz 40 (s k)) : SzL 1000 [-qt0 s, 1] := szl_of2 ((z_t0 Z).neg.mono (by decide)) (Sz.one (by decide))
theorem z_p2 (Z : ∀ k, k ≤ 5 → Sz 40 (s k)) : SzL 1000 [qe0 s, qe1 s, 1] := szl_of3 ((z_e0 Z).mono (by decide)) ((z_e1 Z).mono (by decide)) (Sz.one (by decide))
theorem z_p3 (Z : ∀ k, k ≤ 5 → Sz 40 (s k)) : SzL 10000 [qg0 s, qg1 s, qg2 s, 1] := by
  have t2 := z_t2 Z
  have r := (z_h2 Z).div (z_h1 Z)
  exact szl_of4 ((((t2.mul (z_e0 Z)).neg).add (r.mul (z_t0 Z))).mono (by decide)) ((((z_e0 Z).sub (t2.mul (z_e1 Z))).sub r).mono (by decide)) (((z_e1 Z).sub t2).mono (by decide)) (Sz.one (by decide))
theorem Fnl.gq1 (F : Fnl S m L s) (Z : ∀ k, k ≤ 5 → Sz 40 (s k)) (h0 : 0 < s 0) (hm3 : 3 ≤ m) {res : List Stp} {n : Nat} (r : Sts S (Q2 s) res n) : Sts S (Q1 s) res (n + 1) := by
  have h0' : s 0 ≠ 0 := by grind
  have hl := F.len
  have hm := F.m11
  refine stq_go (p := [-qt0 s, 1]) (g := qh1 s) (by omega) F.szl (by simp [Q1]) (szl_one (by decide)) (by show 1 ≤ 4; decide) rfl ((Z 0 (by decide)).mono (by decide)) h0 (by rw [hl]; show 2 * 1 < m; omega) (by rw [F.trn1 hm3]; exact (z_t0 Z).mono (by decide)) (fun z => absurd z (by simp [Q1])) (by rw [F.trn1 hm3]; exact nstep1 _ _) (fun c hc => (z_p1 Z c hc).mono (by decide)) rfl (F.sq1 hm3 h0') r
theorem Fnl.gq2 (F : Fnl S m L s) (Z : ∀ k, k ≤ 5 → Sz 40 (s k)) (h0 : 0 < s 0) (h1 : 0 < qh1 s) (h2 : qd2 s ≠ 0) (hm5 : 5 ≤ m) {res : List Stp} {n : Nat} (r : Sts S (Q3 s) res n) : Sts S (Q2 s) res (n + 1) := by
  have h0' : s 0 ≠ 0 := by grind
  have hl := F.len
  have hm := F.m11
  refine stq_go (p := [qe0 s, qe1 s, 1]) (g := qh2 s) (by omega) F.szl (by simp [Q2]) (z_p1 Z) (by show 2 ≤ 4; decide) rfl ((z_h1 Z).mono (by decide)) h1 (by rw [hl]; show 2 * 2 < m; omega) (by rw [F.trn2 hm5]; exact z_t1 Z) (fun z => ⟨(Z 0 (by decide)).mono (by decide), h0', szl_one (by decide), by show 1 ≤ 5; decide⟩) (by rw [F.trn2 hm5]; exact q_nst2 h0' h2) (fun c hc => (z_p2 Z c hc).mono (by decide)) rfl (F.sq2 hm5 h2) r
theorem Fnl.gq3 (F : Fnl S m L s) (Z : ∀ k, k ≤ 5 → Sz 40 (s k)) (h0 : 0 < s 0) (h1 : 0 < qh1 s) (h2 : qd2 s ≠ 0) (hh : 0 < qh2 s) (hm7 : 7 ≤ m) {res : List Stp} {n : Nat} (r : Sts S (Q4 s) res n) : Sts S (Q3 s) res (n + 1) := by
  have h0' : s 0 ≠ 0 := by grind
  have h1' : qh1 s ≠ 0 := by grind
  have hh' : qh2 s ≠ 0 := by grind
  have hl := F.len
  have hm := F.m11
  refine stq_go (p := [qg0 s, qg1 s, qg2 s, 1]) (g := qh3 s) (by omega) F.szl (by simp [Q3]) (z_p2 Z) (by show 3 ≤ 4; decide) rfl ((z_h2 Z).mono (by decide)) hh (by rw [hl]; show 2 * 3 < m; omega) (by rw [F.trn3 hm7]; exact (z_t2 Z).mono (by decide)) (fun z => ⟨(z_h1 Z).mono (by decide), h1', z_p1 Z, by show 2 ≤ 5; decide⟩) (by rw [F.trn3 hm7]; exact q_nst3) (z_p3 Z) rfl (F.sq3 hm7 h0' h2 h1' hh') r
/-- the steps that end at one that is not above nought -/
theorem Fnl.sts (F : Fnl S m L s) (hm0 : 0 < m) {R : List Stp} {n : Nat} (h : Sts S (Q1 s) R n) : StsOk S R := by
  have hl := F.len
  have hm := F.m11
  refine ⟨fun z => ?_, by omega, n, ?_⟩
  · rw [z] at hl
    simp at hl
    omega
  · have e : st0 S = Q1 s := by
      unfold st0 Q1
      rw [F.s0 hm0]
    rw [e]
    exact h
theorem least {P : Nat → Prop} : ∀ N, (∃ k, k ≤ N ∧ P k) → ∃ k, k ≤ N ∧ P k ∧ ∀ j, j < k → ¬ P j
  | 0, ⟨k, h, p⟩ => ⟨k, h, p, fun j hj => by omega⟩
  | N + 1, ⟨k, h, p⟩ => by
    by_cases hc : ∃ k, k ≤ N ∧ P k
    · obtain ⟨k, h, p, q⟩ := least N hc
      exact ⟨k, by omega, p, q⟩
    · refine ⟨k, h, p, fun j hj pj => hc ⟨j, by omega, pj⟩⟩
theorem Fnl.bar (F : Fnl S m L s) {p : List Rat} (hp0 : p ≠ []) (lp : p.length ≤ 5) (hp : SzL 10000 p) (h : ¬ ∀ k, p.length + k ≤ m → sqs S p (pwr k) = 0) : ∃ k, Bar S p (some k) := by
  have hl := F.len
  have hm := F.m11
  have ex : ∃ k, k ≤ m ∧ (p.length + k ≤ m ∧ sqs S p (pwr k) ≠ 0) := by
    by_cases hc : ∃ k, k ≤ m ∧ (p.length + k ≤ m ∧ sqs S p (pwr k) ≠ 0)
    · exact hc
    · exact absurd (fun k hk => by
        by_cases h0 : sqs S p (pwr k) = 0
        · exact h0
        · exact absurd ⟨k, by omega, hk, h0⟩ hc) h
  obtain ⟨k, _, ⟨k1, k2⟩, k3⟩ := least m ex
  have ok : ∀ j, p.length + j ≤ m → SqOk S p (pwr j) := fun j hj => sqOk_pwr (n := 10000) (by decide) (by decide) hp0 lp (by omega) (by omega) hp fun c hc => (F.szl c hc).mono (by decide)
  refine ⟨k, .some (by omega) (fun j hj => ok j (by omega)) (fun j hj => ?_) k2⟩
  by_cases h0 : sqs S p (pwr j) = 0
  · exact h0
  · exact absurd ⟨by omega, h0⟩ (k3 j hj)
theorem Fnl.sqp (F : Fnl S m L s) {p : List Rat} {k : Nat} (hp0 : p ≠ []) (h : p.length + k ≤ m) : sqs S p (pwr k) = L (fun x => ev p x * x ^ k) := by
  have hml := mulP_len1 hp0 (show pwr k ≠ [] by unfold pwr; simp)
  have lp : (pwr k).length = k + 1 := by unfold pwr; rw [List.length_append, List.length_replicate]; rfl
  rw [F.sq _ _ (by omega)]
  congr 1
  funext x
  rw [ev_pwr]
/-- the sum of a square, by the steps -/
def sqN (s : Nat → Rat) (f0 f1 f2 f3 : Rat) : Rat := f0 * f0 * s 0 + 2 * f0 * f1 * s 1 + (f1 * f1 + 2 * f0 * f2) * s 2 + (2 * f0 * f3 + 2 * f1 * f2) * s 3 + (f2 * f2 + 2 * f1 * f3) * s 4 + 2 * f2 * f3 * s 5 + f3 * f3 * s 6
theorem sqN2 (h0 : s 0 ≠ 0) (h2 : qd2 s ≠ 0) (f0 f1 f2 : Rat) : sqN s f0 f1 f2 0 = s 0 * ((f0 - f2 * qe0 s + (f1 - f2 * qe1 s) * qt0 s) * (f0 - f2 * qe0 s + (f1 - f2 * qe1 s) * qt0 s)) + qh1 s * ((f1 - f2 * qe1 s) * (f1 - f2 * qe1 s)) + qh2 s * (f2 * f2) := by
  have a1 := q_t0 h0
  have a2 := q_h1 h0
  have o0 := q_o0 h2
  have o1 := q_o1 h2
  have o2 := q_o2 h2
  unfold sqN
  generalize qt0 s = t0 at *
  generalize qe0 s = e0 at *
  generalize qe1 s = e1 at *
  generalize qh1 s = g1 at *
  generalize qh2 s = g2 at *
  generalize s 0 = s0 at *
  generalize s 1 = s1 at *
  generalize s 2 = s2 at *
  generalize s 3 = s3 at *
  generalize s 4 = s4 at *
  subst a1 a2 o2
  have b2 : s2 = -(e1 * (t0 * s0)) - e0 * s0 := by grind
  subst b2
  have b3 : s3 = -(e1 * (-(e1 * (t0 * s0)) - e0 * s0)) - e0 * (t0 * s0) := by grind
  subst b3
  grind
theorem sqN3 (h0 : s 0 ≠ 0) (h2 : qd2 s ≠ 0) (h1 : qh1 s ≠ 0) (h3 : qh2 s ≠ 0) (f0 f1 f2 f3 : Rat) : sqN s f0 f1 f2 f3 = sqN s (f0 - f3 * qg0 s) (f1 - f3 * qg1 s) (f2 - f3 * qg2 s) 0 + qh3 s * (f3 * f3) := by
  obtain ⟨o0, o1, o2⟩ := q_o3 h0 h2 h1 h3
  unfold sqN qh3
  generalize qg0 s = g0 at *
  generalize qg1 s = g1 at *
  generalize qg2 s = g2 at *
  have e3 : s 3 = -(g2 * s 2) - g1 * s 1 - g0 * s 0 := by grind
  have e4 : s 4 = -(g2 * s 3) - g1 * s 2 - g0 * s 1 := by grind
  have e5 : s 5 = -(g2 * s 4) - g1 * s 3 - g0 * s 2 := by grind
  rw [e5, e4, e3]
  clear e3 e4 e5 o0 o1 o2
  grind
theorem sqN_pos (h0 : 0 < s 0) (h1 : 0 < qh1 s) (h2 : qd2 s ≠ 0) (hh : 0 ≤ qh2 s) (f0 f1 f2 : Rat) : 0 ≤ sqN s f0 f1 f2 0 := by
  rw [sqN2 (by grind) h2]
  have t1 := Rat.mul_nonneg (Rat.le_of_lt h0) (sq0 (f0 - f2 * qe0 s + (f1 - f2 * qe1 s) * qt0 s))
  have t2 := Rat.mul_nonneg (Rat.le_of_lt h1) (sq0 (f1 - f2 * qe1 s))
  have t3 := Rat.mul_nonneg hh (sq0 f2)
  grind
theorem sqN1 (h0 : s 0 ≠ 0) (f0 f1 : Rat) : sqN s f0 f1 0 0 = s 0 * ((f0 + f1 * qt0 s) * (f0 + f1 * qt0 s)) + qh1 s * (f1 * f1) := by
  have a1 := q_t0 h0
  have a2 := q_h1 h0
  unfold sqN
  rw [a2, ← a1]
  grind
/-- a step of the square nought: some worth beside it is not nought -/
theorem bar0 {f0 f1 f2 f3 : Rat} (hN : sqN s f0 f1 f2 f3 < 0) (e1 : m < 3 → f1 = 0) (e2 : m < 5 → f2 = 0) (e3 : m < 7 → f3 = 0) (hm0 : 0 < m) (hodd : m % 2 = 1) (h : ∀ k, k ≤ 6 → 1 + k ≤ m → s k = 0) : False := by
  unfold sqN at hN
  have z0 := h 0 (by omega) (by omega)
  by_cases m1 : m < 3
  · rw [e1 m1, e2 (by omega), e3 (by omega), z0] at hN
    grind
  · have z1 := h 1 (by omega) (by omega)
    have z2 := h 2 (by omega) (by omega)
    by_cases m2 : m < 5
    · rw [e2 m2, e3 (by omega), z0, z1, z2] at hN
      grind
    · have z3 := h 3 (by omega) (by omega)
      have z4 := h 4 (by omega) (by omega)
      by_cases m3 : m < 7
      · rw [e3 m3, z0, z1, z2, z3, z4] at hN
        grind
      · rw [z0, z1, z2, z3, z4, h 5 (by omega) (by omega), h 6 (by omega) (by omega)] at hN
        grind
theorem bar1 {f0 f1 f2 f3 : Rat} (hN : sqN s f0 f1 f2 f3 < 0) (e2 : m < 5 → f2 = 0) (e3 : m < 7 → f3 = 0) (h0 : 0 < s 0) (hm3 : 3 ≤ m) (hodd : m % 2 = 1) (h : ∀ k, k ≤ 5 → 2 + k ≤ m → s (k + 1) = qt0 s * s k) : False := by
  unfold sqN at hN
  have z0 := h 0 (by omega) (by omega)
  have z1 := h 1 (by omega) (by omega)
  generalize qt0 s = t at *
  have p := Rat.mul_nonneg (Rat.le_of_lt h0) (sq0 (f0 + f1 * t + f2 * (t * t) + f3 * (t * t * t)))
  by_cases m2 : m < 5
  · rw [e2 m2, e3 (by omega)] at hN p
    rw [z1, z0] at hN
    grind
  · have z2 := h 2 (by omega) (by omega)
    have z3 := h 3 (by omega) (by omega)
    by_cases m3 : m < 7
    · rw [e3 m3] at hN p
      rw [z3, z2, z1, z0] at hN
      grind
    · rw [h 5 (by omega) (by omega), h 4 (by omega) (by omega), z3, z2, z1, z0] at hN
      grind
theorem bar2 {f0 f1 f2 f3 : Rat} (hN : sqN s f0 f1 f2 f3 < 0) (e3 : m < 7 → f3 = 0) (h0 : 0 < s 0) (h1 : 0 < qh1 s) (hm5 : 5 ≤ m) (hodd : m % 2 = 1) (h : ∀ k, k ≤ 4 → 3 + k ≤ m → s (k + 2) + qe1 s * s (k + 1) + qe0 s * s k = 0) : False := by
  have z0 := h 0 (by omega) (by omega)
  have z1 := h 1 (by omega) (by omega)
  have z2 := h 2 (by omega) (by omega)
  have pq := sqN1 (s := s) (by grind) (f0 - f2 * qe0 s + f3 * (qe0 s * qe1 s)) (f1 - f2 * qe1 s + f3 * (qe1 s * qe1 s - qe0 s))
  have t1 := Rat.mul_nonneg (Rat.le_of_lt h0) (sq0 (f0 - f2 * qe0 s + f3 * (qe0 s * qe1 s) + (f1 - f2 * qe1 s + f3 * (qe1 s * qe1 s - qe0 s)) * qt0 s))
  have t2 := Rat.mul_nonneg (Rat.le_of_lt h1) (sq0 (f1 - f2 * qe1 s + f3 * (qe1 s * qe1 s - qe0 s)))
  have p : 0 ≤ sqN s (f0 - f2 * qe0 s + f3 * (qe0 s * qe1 s)) (f1 - f2 * qe1 s + f3 * (qe1 s * qe1 s - qe0 s)) 0 0 := by
    rw [pq]
    grind
  clear pq t1 t2
  unfold sqN at hN p
  generalize qe0 s = e0 at *
  generalize qe1 s = g at *
  have y2 : s 2 = -(g * s 1) - e0 * s 0 := by grind
  have y3 : s 3 = -(g * s 2) - e0 * s 1 := by grind
  have y4 : s 4 = -(g * s 3) - e0 * s 2 := by grind
  by_cases m3 : m < 7
  · rw [e3 m3] at hN p
    rw [y4, y3, y2] at hN
    rw [y2] at p
    grind
  · have z3 := h 3 (by omega) (by omega)
    have z4 := h 4 (by omega) (by omega)
    have y5 : s 5 = -(g * s 4) - e0 * s 3 := by grind
    have y6 : s 6 = -(g * s 5) - e0 * s 4 := by grind
    rw [y6, y5, y4, y3, y2] at hN
    rw [y2] at p
    clear z0 z1 z2 z3 z4 y2 y3 y4 y5 y6
    grind
end
end M66
/-! The plain law, part 34: too much weight at a spot. -/
namespace M66
section
variable {S : List Rat} {m : Nat} {L : (Rat → Rat) → Rat} {s : Nat → Rat}
theorem Fnl.pw0 (F : Fnl S m L s) : ∀ k, k ≤ 6 → L (fun x => ev [1] x * x ^ k) = s k
  | 0, _ => by rw [F.pe (a := 1) (b := 0) (c := 0) (d := 0) (e := 0) (f := 0) (g := 0) fun x => by rw [ev1]; grind]; grind
  | 1, _ => by rw [F.pe (a := 0) (b := 1) (c := 0) (d := 0) (e := 0) (f := 0) (g := 0) fun x => by rw [ev1]; grind]; grind
  | 2, _ => by rw [F.pe (a := 0) (b := 0) (c := 1) (d := 0) (e := 0) (f := 0) (g := 0) fun x => by rw [ev1]; grind]; grind
  | 3, _ => by rw [F.pe (a := 0) (b := 0) (c := 0) (d := 1) (e := 0) (f := 0) (g := 0) fun x => by rw [ev1]; grind]; grind
  | 4, _ => by rw [F.pe (a := 0) (b := 0) (c := 0) (d := 0) (e := 1) (f := 0) (g := 0) fun x => by rw [ev1]; grind]; grind
  | 5, _ => by rw [F.pe (a := 0) (b := 0) (c := 0) (d := 0) (e := 0) (f := 1) (g := 0) fun x => by rw [ev1]; grind]; grind
  | 6, _ => by rw [F.pe (a := 0) (b := 0) (c := 0) (d := 0) (e := 0) (f := 0) (g := 1) fun x => by rw [ev1]; grind]; grind
  | k + 7, h => absurd h (by omega)
theorem Fnl.pw1 (F : Fnl S m L s) (t : Rat) : ∀ k, k ≤ 5 → L (fun x => ev [-t, 1] x * x ^ k) = s (k + 1) - t * s k
  | 0, _ => by rw [F.pe (a := -t) (b := 1) (c := 0) (d := 0) (e := 0) (f := 0) (g := 0) fun x => by rw [ev2]; grind]; grind
  | 1, _ => by rw [F.pe (a := 0) (b := -t) (c := 1) (d := 0) (e := 0) (f := 0) (g := 0) fun x => by rw [ev2]; grind]; grind
  | 2, _ => by rw [F.pe (a := 0) (b := 0) (c := -t) (d := 1) (e := 0) (f := 0) (g := 0) fun x => by rw [ev2]; grind]; grind
  | 3, _ => by rw [F.pe (a := 0) (b := 0) (c := 0) (d := -t) (e := 1) (f := 0) (g := 0) fun x => by rw [ev2]; grind]; grind
  | 4, _ => by rw [F.pe (a := 0) (b := 0) (c := 0) (d := 0) (e := -t) (f := 1) (g := 0) fun x => by rw [ev2]; grind]; grind
  | 5, _ => by rw [F.pe (a := 0) (b := 0) (c := 0) (d := 0) (e := 0) (f := -t) (g := 1) fun x => by rw [ev2]; grind]; grind
  | k + 6, h => absurd h (by omega)
theorem Fnl.pw2 (F : Fnl S m L s) (t u : Rat) : ∀ k, k ≤ 4 → L (fun x => ev [t, u, 1] x * x ^ k) = s (k + 2) + u * s (k + 1) + t * s k
  | 0, _ => by rw [F.pe (a := t) (b := u) (c := 1) (d := 0) (e := 0) (f := 0) (g := 0) fun x => by rw [ev3]; grind]; grind
  | 1, _ => by rw [F.pe (a := 0) (b := t) (c := u) (d := 1) (e := 0) (f := 0) (g := 0) fun x => by rw [ev3]; grind]; grind
  | 2, _ => by rw [F.pe (a := 0) (b := 0) (c := t) (d := u) (e := 1) (f := 0) (g := 0) fun x => by rw [ev3]; grind]; grind
  | 3, _ => by rw [F.pe (a := 0) (b := 0) (c := 0) (d := t) (e := u) (f := 1) (g := 0) fun x => by rw [ev3]; grind]; grind
  | 4, _ => by rw [F.pe (a := 0) (b := 0) (c := 0) (d := 0) (e := t) (f := u) (g := 1) fun x => by rw [ev3]; grind]; grind
  | k + 5, h => absurd h (by omega)
theorem Fnl.too_much (F : Fnl S m L s) (Z : ∀ k, k ≤ 5 → Sz 40 (s k)) (hodd : m % 2 = 1) {f : List Rat} (hf : 2 * f.length ≤ m + 1) (lf : f.length ≤ 4) (hneg : L (fun x => ev f x * ev f x) < 0) : ∃ b, Back S b ∧ notFl b := by
  have hl := F.len
  have hm := F.m11
  have hm0 : 0 < m := by omega
  have e1 : m < 3 → cf f 1 = 0 := fun h => cf_of_le (by omega)
  have e2 : m < 5 → cf f 2 = 0 := fun h => cf_of_le (by omega)
  have e3 : m < 7 → cf f 3 = 0 := fun h => cf_of_le (by omega)
  have hN : sqN s (cf f 0) (cf f 1) (cf f 2) (cf f 3) < 0 := by
    have hev : ∀ x, ev f x = cf f 0 + cf f 1 * x + cf f 2 * x ^ 2 + cf f 3 * x ^ 3 := fun x => by
      rw [ev_evN f x 4 lf]
      simp only [evN]
      grind
    generalize cf f 0 = f0 at *
    generalize cf f 1 = f1 at *
    generalize cf f 2 = f2 at *
    generalize cf f 3 = f3 at *
    rw [F.pe (a := f0 * f0) (b := 2 * f0 * f1) (c := f1 * f1 + 2 * f0 * f2) (d := 2 * f0 * f3 + 2 * f1 * f2) (e := f2 * f2 + 2 * f1 * f3) (f := 2 * f2 * f3) (g := f3 * f3) fun x => by rw [hev]; grind] at hneg
    exact hneg
  generalize cf f 0 = f0 at *
  generalize cf f 1 = f1 at *
  generalize cf f 2 = f2 at *
  generalize cf f 3 = f3 at *
  rcases tri (s 0) with h0 | h0 | h0
  · exact ⟨_, .below (some := Q1 s) (F.sts hm0 (stop_of (by simp [Q1]) (.inl (by show ¬ 0 < s 0; grind)))) h0, trivial⟩
  · obtain ⟨k, hb⟩ := F.bar (p := [1]) (by simp) (by simp) (szl_one (by decide)) fun hall => bar0 hN e1 e2 e3 hm0 hodd fun k hk hkm => by
      rw [← F.pw0 k hk, ← F.sqp (by simp) (by simpa using hkm)]
      exact hall k (by simpa using hkm)
    exact ⟨_, .bar (some := Q1 s) (F.sts hm0 (stop_of (by simp [Q1]) (.inl (by show ¬ 0 < s 0; grind)))) h0 (by show 1 ≤ S.length; omega) hb, trivial⟩
  · have h0' : s 0 ≠ 0 := by grind
    by_cases m3 : m < 3
    · exfalso
      rw [e1 m3, e2 (by omega), e3 (by omega), sqN1 h0'] at hN
      have := Rat.mul_nonneg (Rat.le_of_lt h0) (sq0 (f0 + 0 * qt0 s))
      grind
    · rcases tri (qh1 s) with h1 | h1 | h1
      · exact ⟨_, .below (some := Q2 s) (F.sts hm0 (F.gq1 Z h0 (by omega) (stop_of (by simp [Q2]) (.inl (by show ¬ 0 < qh1 s; grind))))) h1, trivial⟩
      · obtain ⟨k, hb⟩ := F.bar (p := [-qt0 s, 1]) (by simp) (by simp) (fun c hc => (z_p1 Z c hc).mono (by decide)) fun hall => bar1 hN e2 e3 h0 (by omega) hodd fun k hk hkm => by
          have p1 := F.pw1 (qt0 s) k hk
          rw [← F.sqp (by simp) (by simpa using hkm), hall k (by simpa using hkm)] at p1
          grind
        exact ⟨_, .bar (some := Q2 s) (F.sts hm0 (F.gq1 Z h0 (by omega) (stop_of (by simp [Q2]) (.inl (by show ¬ 0 < qh1 s; grind))))) h1 (by show 2 ≤ S.length; omega) hb, trivial⟩
      · have hd2 : qd2 s ≠ 0 := fun z => by
          unfold qh1 at h1
          rw [z] at h1
          grind
        by_cases m5 : m < 5
        · exfalso
          rw [e2 m5, e3 (by omega), sqN1 h0'] at hN
          have t1 := Rat.mul_nonneg (Rat.le_of_lt h0) (sq0 (f0 + f1 * qt0 s))
          have t2 := Rat.mul_nonneg (Rat.le_of_lt h1) (sq0 f1)
          grind
        · rcases tri (qh2 s) with h2 | h2 | h2
          · exact ⟨_, .below (some := Q3 s) (F.sts hm0 (F.gq1 Z h0 (by omega) (F.gq2 Z h0 h1 hd2 (by omega) (stop_of (by simp [Q3]) (.inl (by show ¬ 0 < qh2 s; grind)))))) h2, trivial⟩
          · obtain ⟨k, hb⟩ := F.bar (p := [qe0 s, qe1 s, 1]) (by simp) (by simp) (fun c hc => (z_p2 Z c hc).mono (by decide)) fun hall => bar2 hN e3 h0 h1 (by omega) hodd fun k hk hkm => by
              rw [← F.pw2 (qe0 s) (qe1 s) k hk, ← F.sqp (by simp) (by simpa using hkm)]
              exact hall k (by simpa using hkm)
            exact ⟨_, .bar (some := Q3 s) (F.sts hm0 (F.gq1 Z h0 (by omega) (F.gq2 Z h0 h1 hd2 (by omega) (stop_of (by simp [Q3]) (.inl (by show ¬ 0 < qh2 s; grind)))))) h2 (by show 3 ≤ S.length; omega) hb, trivial⟩
          · by_cases m7 : m < 7
            · exfalso
              rw [e3 m7] at hN
              have := sqN_pos h0 h1 hd2 (Rat.le_of_lt h2) f0 f1 f2
              grind
            · have n3 := sqN3 h0' hd2 (by grind) (by grind) f0 f1 f2 f3
              have p3 := sqN_pos h0 h1 hd2 (Rat.le_of_lt h2) (f0 - f3 * qg0 s) (f1 - f3 * qg1 s) (f2 - f3 * qg2 s)
              by_cases h3 : qh3 s < 0
              · exact ⟨_, .below (some := Q4 s) (F.sts hm0 (F.gq1 Z h0 (by omega) (F.gq2 Z h0 h1 hd2 (by omega) (F.gq3 Z h0 h1 hd2 h2 (by omega) (stop_of (by simp [Q4]) (.inl (by show ¬ 0 < qh3 s; grind))))))) h3, trivial⟩
              · exfalso
                have := Rat.mul_nonneg (by grind : 0 ≤ qh3 s) (sq0 f3)
                grind
end
/-! the crowd's functional less a weight at a -/
def LQ (C : ICr) (c a : Rat) (φ : Rat → Rat) : Rat := LC C φ - c * φ a
def mq (C : ICr) (c a : Rat) (k : Nat) : Rat := mo C k - c * a ^ k
theorem LC_p6 (C : ICr) (a b c d e f g : Rat) : LC C (fun x => a + b * x + c * x ^ 2 + d * x ^ 3 + e * x ^ 4 + f * x ^ 5 + g * x ^ 6) = a * mo C 0 + b * mo C 1 + c * mo C 2 + d * mo C 3 + e * mo C 4 + f * mo C 5 + g * mo C 6 := by
  unfold mo
  induction C with
  | nil => simp only [LC]; grind
  | cons z C ih => simp only [LC]; rw [ih]; grind
theorem dot_sub (c a : Rat) : ∀ (f : List Rat) (g : Nat → Rat) (i : Nat), dotF f (fun k => g k - c * a ^ (k + i)) = dotF f g - c * a ^ i * ev f a
  | [], g, i => by
    show (0 : Rat) = 0 - c * a ^ i * 0
    grind
  | x :: f, g, i => by
    show x * (g 0 - c * a ^ (0 + i)) + dotF f (fun k => g (k + 1) - c * a ^ (k + 1 + i)) = x * g 0 + dotF f (fun k => g (k + 1)) - c * a ^ i * ev (x :: f) a
    have e : (fun k => g (k + 1) - c * a ^ (k + 1 + i)) = fun k => (fun k => g (k + 1)) k - c * a ^ (k + (i + 1)) := by
      funext k
      rw [show k + 1 + i = k + (i + 1) by omega]
    rw [e, dot_sub c a f (fun k => g (k + 1)) (i + 1), ev_cons, Nat.zero_add, Rat.pow_succ]
    grind
theorem tmL_mq {C : ICr} {m : Nat} {c a : Rat} : tmL (sumsC C m) c a = (List.range m).map (mq C c a) := by
  rw [sums_mo]
  unfold tmL mq tmAt
  apply List.ext_getElem
  · simp
  · intro i h1 h2
    simp
theorem worth_Q {C : ICr} {m : Nat} {c a : Rat} {f : List Rat} (h : f.length ≤ m) : tot (wor (tmL (sumsC C m) c a) f) = LQ C c a (ev f) := by
  have e1 : mq C c a = fun k => mo C k - c * a ^ (k + 0) := rfl
  rw [tmL_mq, wor_dot f m _ h, e1, dot_sub]
  have e2 := dot_LC C f 0
  have e3 : (fun k => LC C (fun x => x ^ (k + 0))) = mo C := rfl
  rw [e3] at e2
  rw [e2]
  unfold LQ
  rw [Rat.pow_zero]
  have e4 : LC C (fun x => x ^ 0 * ev f x) = LC C (ev f) := LC_ext fun x => by grind
  rw [e4]
  grind
theorem fnl_Q {C : ICr} {m : Nat} {c a : Rat} (h : CrOk C) (hm : m ≤ 11) (ha : Spt a) (hc : Sz 12 c) : Fnl (tmL (sumsC C m) c a) m (LQ C c a) (mq C c a) := by
  have hl : (tmL (sumsC C m) c a).length = m := by
    rw [tmL_mq]
    simp
  refine ⟨hl, fun f g hfg => ?_, fun {φ} {a' b c' d e f g} hφ => ?_, ?_, hm, fun h0 => ?_⟩
  · unfold sqs
    rw [worth_Q hfg]
    unfold LQ
    rw [ev_mulP]
    congr 1
    exact LC_ext fun x => ev_mulP f g x
  · unfold LQ mq
    rw [LC_ext hφ, LC_p6, hφ a]
    grind
  · intro x hx
    rw [tmL_mq] at hx
    obtain ⟨k, hk, rfl⟩ := List.mem_map.mp hx
    have hk2 := List.mem_range.mp hk
    have s1 : Sz 64 (mo C k) := szl_sums h hm _ (by
      rw [sums_mo]
      exact List.mem_map.mpr ⟨k, hk, rfl⟩)
    have s2 : Sz 60 (a ^ k) := by
      match k with
      | 0 => rw [Rat.pow_zero]; exact Sz.one (by decide)
      | k + 1 => exact (sz_pow ha.sz k).mono (by omega)
    exact (s1.sub (hc.mul s2)).mono (by decide)
  · rw [tmL_mq, cf_lt (by simpa using h0)]
    simp
/-- sizes of the first moments -/
theorem mq_sz {C : ICr} {a : Rat} (h : CrOk C) (ha : Spt a) {M : Int} (hM : M.natAbs < 2 ^ 11) : ∀ k, k ≤ 5 → Sz 40 (mq C ((M : Rat) / 64) a k) := by
  intro k hk
  have i64 : IB 7 (64 : Rat) := ⟨64, rfl, by decide⟩
  have iM : IB 11 (M : Rat) := ⟨M, rfl, hM⟩
  have ia := ha.ib
  have im : IB 27 (mo C k) := mo_ib h (by
    have : (18 : Nat) ^ k ≤ 18 ^ 5 := Nat.pow_le_pow_right (by decide) hk
    have e : 3 * (6 * 18 ^ 5) < 2 ^ 27 := by decide
    omega)
  have ip : IB 26 (a ^ k) := by
    match k, hk with
    | 0, _ => exact ⟨1, Rat.pow_zero a, by decide⟩
    | 1, _ => rw [show a ^ 1 = a by grind]; exact ia.mono (by decide)
    | 2, _ => rw [show a ^ 2 = a * a by grind]; exact (ia.mul ia).mono (by decide)
    | 3, _ => rw [show a ^ 3 = a * a * a by grind]; exact ((ia.mul ia).mul ia).mono (by decide)
    | 4, _ => rw [show a ^ 4 = a * a * a * a by grind]; exact (((ia.mul ia).mul ia).mul ia).mono (by decide)
    | 5, _ => rw [show a ^ 5 = a * a * a * a * a by grind]; exact ((((ia.mul ia).mul ia).mul ia).mul ia).mono (by decide)
    | k + 6, h => exact absurd h (by omega)
  have e : mq C ((M : Rat) / 64) a k = (64 * mo C k - (M : Rat) * a ^ k) / 64 := by
    unfold mq
    grind
  rw [e]
  exact ((((i64.mul im).mono (by decide : 7 + 27 ≤ 38)).sub ((iM.mul ip).mono (by decide))).div (i64.mono (by decide)) (by decide) (by decide)).mono (by decide)
end M66
/-! The plain law, part 35: the whole. -/
namespace M66
theorem tmN_facts {n : Rat} (h0 : 0 ≤ n) (h1 : n ≤ 18) : ∃ M : Int, tmN n 64 = (M : Rat) / 64 ∧ M.natAbs < 2 ^ 11 ∧ n < (M : Rat) / 64 := by
  have hd : (0 : Int) < (n.den : Int) := by
    have := n.den_nz
    omega
  have hnum := num_eq n
  have hdp := den_pos n
  refine ⟨(n.num * 64).fdiv n.den + 1, ?_, ?_, ?_⟩
  · unfold tmN
    rw [Rat.divInt_eq_div]
    rfl
  · rw [Int.fdiv_eq_ediv_of_nonneg _ (Int.le_of_lt hd)]
    have p0 : (0 : Int) ≤ n.num := by
      have : (0 : Rat) ≤ (n.num : Rat) := by
        rw [hnum]
        exact Rat.mul_nonneg h0 (by grind)
      exact Rat.intCast_le_intCast.mp (by simpa using this)
    have p1 : n.num * 64 ≤ 1152 * (n.den : Int) := by
      have t := Rat.mul_nonneg (by grind : 0 ≤ 18 - n) (by grind : 0 ≤ (n.den : Rat))
      have : ((n.num * 64 : Int) : Rat) ≤ ((1152 * (n.den : Int) : Int) : Rat) := by
        rw [Rat.intCast_mul, Rat.intCast_mul, hnum]
        show n * (n.den : Rat) * 64 ≤ 1152 * (n.den : Rat)
        grind
      exact Rat.intCast_le_intCast.mp this
    have q1 : n.num * 64 / (n.den : Int) ≤ 1152 := Int.ediv_le_of_le_mul hd p1
    have q0 : 0 ≤ n.num * 64 / (n.den : Int) := Int.ediv_nonneg (by omega) (Int.le_of_lt hd)
    omega
  · rw [Int.fdiv_eq_ediv_of_nonneg _ (Int.le_of_lt hd)]
    have t := Int.lt_ediv_add_one_mul_self (n.num * 64) hd
    have t2 : ((n.num * 64 : Int) : Rat) < (((n.num * 64 / (n.den : Int) + 1) * (n.den : Int) : Int) : Rat) := Rat.intCast_lt_intCast.mpr t
    rw [Rat.intCast_mul, Rat.intCast_mul, hnum] at t2
    have e : (((n.den : Int)) : Rat) = (n.den : Rat) := rfl
    have e2 : ((64 : Int) : Rat) = 64 := rfl
    rw [e, e2] at t2
    generalize ((n.num * 64 / (n.den : Int) + 1 : Int) : Rat) = M at *
    generalize (n.den : Rat) = d at *
    by_cases hc : n < M / 64
    · exact hc
    · have := Rat.mul_nonneg (by grind : 0 ≤ n * 64 - M) (by grind : 0 ≤ d)
      grind
section
variable {C : ICr} {m : Nat} {a : Rat}
theorem inv_le {s K : Rat} (hs : 0 < s) (h : 1 / s ≤ K) : 1 / K ≤ s := by
  have h1 : 0 < 1 / s := div_pos' (by decide) hs
  have hK : 0 < K := by grind
  have e1 : 1 / s * s = 1 := by grind
  have e2 : 1 / K * K = 1 := by grind
  have t := Rat.mul_nonneg (by grind : 0 ≤ K - 1 / s) (Rat.le_of_lt hs)
  generalize 1 / s = i at *
  generalize 1 / K = j at *
  by_cases hc : j ≤ s
  · exact hc
  · have := mp (by grind : 0 < j - s) hK
    grind
theorem lsN1_le (h0 : 0 < mo C 0) : lsN a (L1 C) ≤ mo C 0 := by
  rw [← root1 (a := a) (by grind : mo C 0 ≠ 0)]
  exact Rat.le_refl
theorem lsN2_le (h0 : 0 < mo C 0) (h1 : 0 < hh1 C) : lsN a (L2 C) ≤ mo C 0 := by
  unfold lsN
  refine inv_le h0 ?_
  rw [ev_lsF2]
  have k2 := Rat.mul_nonneg (sq0 (a - tt0 C)) (Rat.le_of_lt (div_pos' (a := 1) (by decide) h1))
  have e : (a - tt0 C) / hh1 C * (a - tt0 C) = (a - tt0 C) * (a - tt0 C) * (1 / hh1 C) := by grind
  rw [e]
  grind
theorem lsN3_le (h0 : 0 < mo C 0) (h1 : 0 < hh1 C) (h2 : 0 < hh2 C) : lsN a (L3 C) ≤ mo C 0 := by
  unfold lsN
  refine inv_le h0 ?_
  rw [ev_lsF3]
  have k2 := Rat.mul_nonneg (sq0 (a - tt0 C)) (Rat.le_of_lt (div_pos' (a := 1) (by decide) h1))
  have k3 := Rat.mul_nonneg (sq0 (pp2 C a)) (Rat.le_of_lt (div_pos' (a := 1) (by decide) h2))
  have e : (a - tt0 C) / hh1 C * (a - tt0 C) = (a - tt0 C) * (a - tt0 C) * (1 / hh1 C) := by grind
  have e2 : pp2 C a / hh2 C * pp2 C a = pp2 C a * pp2 C a * (1 / hh2 C) := by grind
  rw [e, e2]
  grind
/-- the least square at every crowd -/
theorem ls_all (h : CrOk C) {j : Nat} (hj : j ≤ 5) (ha : Spt a) : ∃ n f, LsRes C (1 + 2 * j) a n f ∧ n ≤ mo C 0 := by
  rcases h.kind with ⟨x, w, hC, hx, hL⟩ | ⟨x, y, v, w, hC, hx, hy, hL⟩ | ⟨x, y, z, u, v, w, hC, hx, hy, hz, hL⟩
  · have h0 := hC.m0
    by_cases j0 : j = 0
    · subst j0
      exact ⟨_, _, ls_o1 h h0 ha, lsN1_le h0⟩
    · rcases ls_t1 h hC hL (m := 1 + 2 * j) (by omega) (by omega) ha with ⟨_, k⟩ | ⟨_, f, k⟩
      · exact ⟨_, _, k, lsN1_le h0⟩
      · exact ⟨_, _, k, Rat.le_of_lt h0⟩
  · have h0 := hC.m0
    have h2 := hC.d2
    have h1 : 0 < hh1 C := div_pos' h2 h0
    by_cases j0 : j = 0
    · subst j0
      exact ⟨_, _, ls_o1 h h0 ha, lsN1_le h0⟩
    · by_cases j1 : j = 1
      · subst j1
        exact ⟨_, _, ls_o2 h h0 h2 ha, lsN2_le h0 h1⟩
      · rcases ls_t2 h hC hL (m := 1 + 2 * j) (by omega) (by omega) ha with ⟨_, k⟩ | ⟨_, _, f, k⟩
        · exact ⟨_, _, k, lsN2_le h0 h1⟩
        · exact ⟨_, _, k, Rat.le_of_lt h0⟩
  · have h0 := hC.m0
    have h2 := hC.d2
    have h3 := hC.d3
    have h1 : 0 < hh1 C := div_pos' h2 h0
    have hh : 0 < hh2 C := div_pos' h3 h2
    by_cases j0 : j = 0
    · subst j0
      exact ⟨_, _, ls_o1 h h0 ha, lsN1_le h0⟩
    · by_cases j1 : j = 1
      · subst j1
        exact ⟨_, _, ls_o2 h h0 h2 ha, lsN2_le h0 h1⟩
      · by_cases j2 : j = 2
        · subst j2
          exact ⟨_, _, ls_o3 h h0 h2 h3 ha, lsN3_le h0 h1 hh⟩
        · rcases ls_t3 h hC hx hy hz hL (m := 1 + 2 * j) (by omega) (by omega) ha with ⟨_, k⟩ | ⟨_, _, _, f, k⟩
          · exact ⟨_, _, k, lsN3_le h0 h1 hh⟩
          · exact ⟨_, _, k, Rat.le_of_lt h0⟩
theorem mo0_le (h : CrOk C) : mo C 0 ≤ 18 := by
  obtain ⟨h1, h2⟩ := cr_each h
  obtain ⟨i, e, l⟩ := mo_int h2 0
  rw [e]
  have : ((i : Int) : Rat) ≤ ((18 : Int) : Rat) := Rat.intCast_le_intCast.mpr (by omega)
  exact this
theorem tm_all (h : CrOk C) {j : Nat} (hj : j ≤ 5) (ha : Spt a) : TmOk (sumsC C (1 + 2 * j)) a 64 := by
  have eB : BIG = 67000000 := rfl
  obtain ⟨n, f, L, hn⟩ := ls_all h hj ha
  have n0 := L.nn h
  have m18 := mo0_le h
  obtain ⟨M, e, hM, hlt⟩ := tmN_facts n0 (by grind)
  obtain ⟨l1, l2, l3, l4, l5, l6, l7, l8, l9⟩ := L
  have sc : Sz 12 ((M : Rat) / 64) := by
    have i64 : IB 12 (64 : Rat) := ⟨64, rfl, by decide⟩
    have iM : IB 12 (M : Rat) := ⟨M, rfl, by omega⟩
    exact iM.div i64 (by decide) (by decide)
  have F := fnl_Q (m := 1 + 2 * j) (c := (M : Rat) / 64) h (by omega) ha sc
  have hf2 := l3.2.2.2.1
  rw [sumsC_length] at hf2
  have hneg : LQ C ((M : Rat) / 64) a (fun x => ev f x * ev f x) < 0 := by
    unfold LQ
    rw [l7]
    show n - (M : Rat) / 64 * (ev f a * ev f a) < 0
    rw [l4]
    grind
  have B := F.too_much (mq_sz h ha hM) (by omega) hf2 l8 hneg
  refine ⟨by rw [sumsC_length]; omega, (szl_sums h (by omega)).sl (by omega), ha.sz.s (by omega), by decide, by decide, n, f, l1, l2.s (by omega), fun k hk => ?_, ?_⟩
  · rw [sumsC_length] at hk
    rw [e]
    unfold tmAt
    have s2 : Sz 60 (a ^ k) := by
      match k with
      | 0 => rw [Rat.pow_zero]; exact Sz.one (by decide)
      | k + 1 => exact (sz_pow ha.sz k).mono (by omega)
    exact (sc.mul s2).s (by omega)
  · rw [e]
    exact B
theorem sums_all (h : CrOk C) {j : Nat} (hj : j ≤ 5) : SumsOk C (1 + 2 * j) := by
  have eB : BIG = 67000000 := rfl
  obtain ⟨h1, h2⟩ := cr_each h
  refine ⟨by omega, by omega, fun z hz => ?_, fun k hk => ?_⟩
  · obtain ⟨q1, q2, _⟩ := h2 z hz
    exact (sz_int (n := 6) (by decide) (by omega)).s (by omega)
  · have hs : SzL 64 (powsC C k) := fun c hc => by
      unfold powsC at hc
      obtain ⟨z, hz, rfl⟩ := List.mem_map.mp hc
      obtain ⟨q1, q2, q3, q4⟩ := h2 z hz
      obtain ⟨i, e, l⟩ := ib_term q1 q2 q3 q4 k
      rw [e]
      refine sz_int (by decide) ?_
      have : (18 : Nat) ^ k ≤ 18 ^ 10 := Nat.pow_le_pow_right (by decide) (by omega)
      have e : 6 * 18 ^ 10 < 2 ^ 64 := by decide
      omega
    have lp : (powsC C k).length ≤ 3 := by
      unfold powsC
      rw [List.length_map]
      exact h1
    exact ⟨hs.sl (by omega), fun i _ => (sz_tot_take (k := 3) (by decide) hs lp i).s (by omega)⟩
end
/-- the plain law -/
theorem plain_law : PlainLaw := by
  intro C j a width h hj ha1 ha2 hw
  have ha : Spt (a : Rat) := ⟨a, rfl, ha1, ha2⟩
  exact ⟨sums_all h hj, bd_all h hj ha hw, tm_all h hj ha⟩
end M66
open PySem PySem.W PyProof.Rows
set_option maxHeartbeats 0 in
theorem PySem.Challenge.cw_momentwright_k66_whole_how_much_weighs_holds : PySem.Challenge.rw_momentwright_k66_whole_how_much_weighs.Holds := by
  w_on; o_law; k_head; (case hw => w_witness2)
  k_fill
  refine M66.seen_walk (l := PySem.Challenge.rw_momentwright_k66_whole_how_much_weighs) rfl rfl rfl (by decide +kernel) (fun w h Y => PySem.W.kIn_of Y) ?F
  case F =>
    intro w mg h KX G base hN
    refine M66.law_at KX G ?D M66.plain_law rfl base hN
    case D =>
      refine' M66.Facts.mk ?d_divisor ?d_ratio ?d_plus ?d_minus ?d_times ?d_over ?d_is_less ?d_sign_of ?d_total ?d_clean ?d_at_place ?d_summed ?d_lessened ?d_grown ?d_raised ?d_multiplied ?d_power_of_x ?d_number_at ?d_slope ?d_led ?d_parted ?d_shared ?d_turned_about ?d_worth ?d_square_sum ?d_is_whole ?d_is_fraction ?d_is_polynomial ?d_need_polynomial ?d_plain ?d_chain ?d_sign_far ?d_changes ?d_between ?d_how_many ?d_bound ?d_halved ?d_apart ?d_first_stretches ?d_narrowed ?d_stretches ?d_root_powers ?d_next_step ?d_turn_of ?d_steps ?d_nought_bar ?d_row_less ?d_solved ?d_flock_by_roots ?d_open_roots ?d_back ?d_need_flock ?d_tight_step ?d_flock_sums ?d_flock_at ?d_shows_most ?d_steepest ?d_weight_up_to ?d_least_square ?d_law_less ?d_law_divisor ?d_law_low ?d_law_plus ?d_law_minus ?d_law_times ?d_law_cell_at ?d_law_state ?d_law_take ?d_law_small ?d_law_above ?d_law_crowd ?d_law_spot_crowd ?d_law_crowd_sums ?d_law_weights ?d_law_bounds ?d_law_too_much ?d_law ?b_abs ?b_len ?b_list ?b_max ?b_min ?b_range ?b_reversed ?b_enumerate ?b_zip ?b_int ?b_isinstance ?b_all ?b_tuple ?b_bool ?c_ZERO ?c_ONE ?c_MINUS ?c_HALF
      (case d_divisor => (refine' M66.DefIn.of ?a ?l ?c ?k; (case a => k_is); (case l => k_is); (case c => k_is); (case k => k_is)))
      (case d_ratio => (refine' M66.DefIn.of ?a ?l ?c ?k; (case a => k_is); (case l => k_is); (case c => k_is); (case k => k_is)))
      (case d_plus => (refine' M66.DefIn.of ?a ?l ?c ?k; (case a => k_is); (case l => k_is); (case c => k_is); (case k => k_is)))
      (case d_minus => (refine' M66.DefIn.of ?a ?l ?c ?k; (case a => k_is); (case l => k_is); (case c => k_is); (case k => k_is)))
      (case d_times => (refine' M66.DefIn.of ?a ?l ?c ?k; (case a => k_is); (case l => k_is); (case c => k_is); (case k => k_is)))
      (case d_over => (refine' M66.DefIn.of ?a ?l ?c ?k; (case a => k_is); (case l => k_is); (case c => k_is); (case k => k_is)))
      (case d_is_less => (refine' M66.DefIn.of ?a ?l ?c ?k; (case a => k_is); (case l => k_is); (case c => k_is); (case k => k_is)))
      (case d_sign_of => (refine' M66.DefIn.of ?a ?l ?c ?k; (case a => k_is); (case l => k_is); (case c => k_is); (case k => k_is)))
      (case d_total => (refine' M66.DefIn.of ?a ?l ?c ?k; (case a => k_is); (case l => k_is); (case c => k_is); (case k => k_is)))
      (case d_clean => (refine' M66.DefIn.of ?a ?l ?c ?k; (case a => k_is); (case l => k_is); (case c => k_is); (case k => k_is)))
      (case d_at_place => (refine' M66.DefIn.of ?a ?l ?c ?k; (case a => k_is); (case l => k_is); (case c => k_is); (case k => k_is)))
      (case d_summed => (refine' M66.DefIn.of ?a ?l ?c ?k; (case a => k_is); (case l => k_is); (case c => k_is); (case k => k_is)))
      (case d_lessened => (refine' M66.DefIn.of ?a ?l ?c ?k; (case a => k_is); (case l => k_is); (case c => k_is); (case k => k_is)))
      (case d_grown => (refine' M66.DefIn.of ?a ?l ?c ?k; (case a => k_is); (case l => k_is); (case c => k_is); (case k => k_is)))
      (case d_raised => (refine' M66.DefIn.of ?a ?l ?c ?k; (case a => k_is); (case l => k_is); (case c => k_is); (case k => k_is)))
      (case d_multiplied => (refine' M66.DefIn.of ?a ?l ?c ?k; (case a => k_is); (case l => k_is); (case c => k_is); (case k => k_is)))
      (case d_power_of_x => (refine' M66.DefIn.of ?a ?l ?c ?k; (case a => k_is); (case l => k_is); (case c => k_is); (case k => k_is)))
      (case d_number_at => (refine' M66.DefIn.of ?a ?l ?c ?k; (case a => k_is); (case l => k_is); (case c => k_is); (case k => k_is)))
      (case d_slope => (refine' M66.DefIn.of ?a ?l ?c ?k; (case a => k_is); (case l => k_is); (case c => k_is); (case k => k_is)))
      (case d_led => (refine' M66.DefIn.of ?a ?l ?c ?k; (case a => k_is); (case l => k_is); (case c => k_is); (case k => k_is)))
      (case d_parted => (refine' M66.DefIn.of ?a ?l ?c ?k; (case a => k_is); (case l => k_is); (case c => k_is); (case k => k_is)))
      (case d_shared => (refine' M66.DefIn.of ?a ?l ?c ?k; (case a => k_is); (case l => k_is); (case c => k_is); (case k => k_is)))
      (case d_turned_about => (refine' M66.DefIn.of ?a ?l ?c ?k; (case a => k_is); (case l => k_is); (case c => k_is); (case k => k_is)))
      (case d_worth => (refine' M66.DefIn.of ?a ?l ?c ?k; (case a => k_is); (case l => k_is); (case c => k_is); (case k => k_is)))
      (case d_square_sum => (refine' M66.DefIn.of ?a ?l ?c ?k; (case a => k_is); (case l => k_is); (case c => k_is); (case k => k_is)))
      (case d_is_whole => (refine' M66.DefIn.of ?a ?l ?c ?k; (case a => k_is); (case l => k_is); (case c => k_is); (case k => k_is)))
      (case d_is_fraction => (refine' M66.DefIn.of ?a ?l ?c ?k; (case a => k_is); (case l => k_is); (case c => k_is); (case k => k_is)))
      (case d_is_polynomial => (refine' M66.DefIn.of ?a ?l ?c ?k; (case a => k_is); (case l => k_is); (case c => k_is); (case k => k_is)))
      (case d_need_polynomial => (refine' M66.DefIn.of ?a ?l ?c ?k; (case a => k_is); (case l => k_is); (case c => k_is); (case k => k_is)))
      (case d_plain => (refine' M66.DefIn.of ?a ?l ?c ?k; (case a => k_is); (case l => k_is); (case c => k_is); (case k => k_is)))
      (case d_chain => (refine' M66.DefIn.of ?a ?l ?c ?k; (case a => k_is); (case l => k_is); (case c => k_is); (case k => k_is)))
      (case d_sign_far => (refine' M66.DefIn.of ?a ?l ?c ?k; (case a => k_is); (case l => k_is); (case c => k_is); (case k => k_is)))
      (case d_changes => (refine' M66.DefIn.of ?a ?l ?c ?k; (case a => k_is); (case l => k_is); (case c => k_is); (case k => k_is)))
      (case d_between => (refine' M66.DefIn.of ?a ?l ?c ?k; (case a => k_is); (case l => k_is); (case c => k_is); (case k => k_is)))
      (case d_how_many => (refine' M66.DefIn.of ?a ?l ?c ?k; (case a => k_is); (case l => k_is); (case c => k_is); (case k => k_is)))
      (case d_bound => (refine' M66.DefIn.of ?a ?l ?c ?k; (case a => k_is); (case l => k_is); (case c => k_is); (case k => k_is)))
      (case d_halved => (refine' M66.DefIn.of ?a ?l ?c ?k; (case a => k_is); (case l => k_is); (case c => k_is); (case k => k_is)))
      (case d_apart => (refine' M66.DefIn.of ?a ?l ?c ?k; (case a => k_is); (case l => k_is); (case c => k_is); (case k => k_is)))
      (case d_first_stretches => (refine' M66.DefIn.of ?a ?l ?c ?k; (case a => k_is); (case l => k_is); (case c => k_is); (case k => k_is)))
      (case d_narrowed => (refine' M66.DefIn.of ?a ?l ?c ?k; (case a => k_is); (case l => k_is); (case c => k_is); (case k => k_is)))
      (case d_stretches => (refine' M66.DefIn.of ?a ?l ?c ?k; (case a => k_is); (case l => k_is); (case c => k_is); (case k => k_is)))
      (case d_root_powers => (refine' M66.DefIn.of ?a ?l ?c ?k; (case a => k_is); (case l => k_is); (case c => k_is); (case k => k_is)))
      (case d_next_step => (refine' M66.DefIn.of ?a ?l ?c ?k; (case a => k_is); (case l => k_is); (case c => k_is); (case k => k_is)))
      (case d_turn_of => (refine' M66.DefIn.of ?a ?l ?c ?k; (case a => k_is); (case l => k_is); (case c => k_is); (case k => k_is)))
      (case d_steps => (refine' M66.DefIn.of ?a ?l ?c ?k; (case a => k_is); (case l => k_is); (case c => k_is); (case k => k_is)))
      (case d_nought_bar => (refine' M66.DefIn.of ?a ?l ?c ?k; (case a => k_is); (case l => k_is); (case c => k_is); (case k => k_is)))
      (case d_row_less => (refine' M66.DefIn.of ?a ?l ?c ?k; (case a => k_is); (case l => k_is); (case c => k_is); (case k => k_is)))
      (case d_solved => (refine' M66.DefIn.of ?a ?l ?c ?k; (case a => k_is); (case l => k_is); (case c => k_is); (case k => k_is)))
      (case d_flock_by_roots => (refine' M66.DefIn.of ?a ?l ?c ?k; (case a => k_is); (case l => k_is); (case c => k_is); (case k => k_is)))
      (case d_open_roots => (refine' M66.DefIn.of ?a ?l ?c ?k; (case a => k_is); (case l => k_is); (case c => k_is); (case k => k_is)))
      (case d_back => (refine' M66.DefIn.of ?a ?l ?c ?k; (case a => k_is); (case l => k_is); (case c => k_is); (case k => k_is)))
      (case d_need_flock => (refine' M66.DefIn.of ?a ?l ?c ?k; (case a => k_is); (case l => k_is); (case c => k_is); (case k => k_is)))
      (case d_tight_step => (refine' M66.DefIn.of ?a ?l ?c ?k; (case a => k_is); (case l => k_is); (case c => k_is); (case k => k_is)))
      (case d_flock_sums => (refine' M66.DefIn.of ?a ?l ?c ?k; (case a => k_is); (case l => k_is); (case c => k_is); (case k => k_is)))
      (case d_flock_at => (refine' M66.DefIn.of ?a ?l ?c ?k; (case a => k_is); (case l => k_is); (case c => k_is); (case k => k_is)))
      (case d_shows_most => (refine' M66.DefIn.of ?a ?l ?c ?k; (case a => k_is); (case l => k_is); (case c => k_is); (case k => k_is)))
      (case d_steepest => (refine' M66.DefIn.of ?a ?l ?c ?k; (case a => k_is); (case l => k_is); (case c => k_is); (case k => k_is)))
      (case d_weight_up_to => (refine' M66.DefIn.of ?a ?l ?c ?k; (case a => k_is); (case l => k_is); (case c => k_is); (case k => k_is)))
      (case d_least_square => (refine' M66.DefIn.of ?a ?l ?c ?k; (case a => k_is); (case l => k_is); (case c => k_is); (case k => k_is)))
      (case d_law_less => (refine' M66.DefIn.of ?a ?l ?c ?k; (case a => k_is); (case l => k_is); (case c => k_is); (case k => k_is)))
      (case d_law_divisor => (refine' M66.DefIn.of ?a ?l ?c ?k; (case a => k_is); (case l => k_is); (case c => k_is); (case k => k_is)))
      (case d_law_low => (refine' M66.DefIn.of ?a ?l ?c ?k; (case a => k_is); (case l => k_is); (case c => k_is); (case k => k_is)))
      (case d_law_plus => (refine' M66.DefIn.of ?a ?l ?c ?k; (case a => k_is); (case l => k_is); (case c => k_is); (case k => k_is)))
      (case d_law_minus => (refine' M66.DefIn.of ?a ?l ?c ?k; (case a => k_is); (case l => k_is); (case c => k_is); (case k => k_is)))
      (case d_law_times => (refine' M66.DefIn.of ?a ?l ?c ?k; (case a => k_is); (case l => k_is); (case c => k_is); (case k => k_is)))
      (case d_law_cell_at => (refine' M66.DefIn.of ?a ?l ?c ?k; (case a => k_is); (case l => k_is); (case c => k_is); (case k => k_is)))
      (case d_law_state => (refine' M66.DefIn.of ?a ?l ?c ?k; (case a => k_is); (case l => k_is); (case c => k_is); (case k => k_is)))
      (case d_law_take => (refine' M66.DefIn.of ?a ?l ?c ?k; (case a => k_is); (case l => k_is); (case c => k_is); (case k => k_is)))
      (case d_law_small => (refine' M66.DefIn.of ?a ?l ?c ?k; (case a => k_is); (case l => k_is); (case c => k_is); (case k => k_is)))
      (case d_law_above => (refine' M66.DefIn.of ?a ?l ?c ?k; (case a => k_is); (case l => k_is); (case c => k_is); (case k => k_is)))
      (case d_law_crowd => (refine' M66.DefIn.of ?a ?l ?c ?k; (case a => k_is); (case l => k_is); (case c => k_is); (case k => k_is)))
      (case d_law_spot_crowd => (refine' M66.DefIn.of ?a ?l ?c ?k; (case a => k_is); (case l => k_is); (case c => k_is); (case k => k_is)))
      (case d_law_crowd_sums => (refine' M66.DefIn.of ?a ?l ?c ?k; (case a => k_is); (case l => k_is); (case c => k_is); (case k => k_is)))
      (case d_law_weights => (refine' M66.DefIn.of ?a ?l ?c ?k; (case a => k_is); (case l => k_is); (case c => k_is); (case k => k_is)))
      (case d_law_bounds => (refine' M66.DefIn.of ?a ?l ?c ?k; (case a => k_is); (case l => k_is); (case c => k_is); (case k => k_is)))
      (case d_law_too_much => (refine' M66.DefIn.of ?a ?l ?c ?k; (case a => k_is); (case l => k_is); (case c => k_is); (case k => k_is)))
      (case d_law => (refine' M66.DefIn.of ?a ?l ?c ?k; (case a => k_is); (case l => k_is); (case c => k_is); (case k => k_is)))
      (case b_abs => k_is)
      (case b_len => k_is)
      (case b_list => k_is)
      (case b_max => k_is)
      (case b_min => k_is)
      (case b_range => k_is)
      (case b_reversed => k_is)
      (case b_enumerate => k_is)
      (case b_zip => k_is)
      (case b_int => k_is)
      (case b_isinstance => k_is)
      (case b_all => k_is)
      (case b_tuple => k_is)
      (case b_bool => k_is)
      (case c_ZERO => (refine' M66.ConIn.of ?a ?l ?s; (case a => k_is); (case l => k_is); (case s => exact ⟨rfl, rfl⟩)))
      (case c_ONE => (refine' M66.ConIn.of ?a ?l ?s; (case a => k_is); (case l => k_is); (case s => exact ⟨rfl, rfl⟩)))
      (case c_MINUS => (refine' M66.ConIn.of ?a ?l ?s; (case a => k_is); (case l => k_is); (case s => exact ⟨rfl, rfl⟩)))
      (case c_HALF => (refine' M66.ConIn.of ?a ?l ?s; (case a => k_is); (case l => k_is); (case s => exact ⟨rfl, rfl⟩)))
