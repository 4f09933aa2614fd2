import PyProof.Rows.All
import Wide.All
import OpenK.AllK
import Wide.FinOn
import KE.KPairComp
import KE.LcSums
import KE.KTurns
import KE.KSetAt
import KE.KLcTest
import KE.KTryMore
import KE.BitLaws
import KE.KBits
import KE.RegKTryMore
import PyProof.CompUse
import KE.KFind
import PyProof.StrWalks
import PySem.Challenge.RW_uf040037_04
open PySem PySem.W PyProof.Rows
set_option Elab.async false
set_option maxRecDepth 100000
set_option maxHeartbeats 8000000
open_top Mine.hd04 for PySem.Challenge.rw_uf040037_04
set_option linter.all false
set_option rowWalk.seconds 0
set_option compiler.extract_closed false

section

namespace Mine

def IsRow (r : List Int) : Prop := ∀ x ∈ r, x = 0 ∨ x = 1

theorem isRow_cons {x : Int} {r : List Int} : IsRow (x :: r) ↔ (x = 0 ∨ x = 1) ∧ IsRow r := by
  simp [IsRow]
theorem isRow_append {a b : List Int} : IsRow (a ++ b) ↔ IsRow a ∧ IsRow b := by
  simp only [IsRow, List.mem_append]
  exact ⟨fun h => ⟨fun x hx => h x (.inl hx), fun x hx => h x (.inr hx)⟩, fun h x hx => hx.elim (h.1 x) (h.2 x)⟩
theorem isRow_single {x : Int} (h : x = 0 ∨ x = 1) : IsRow [x] := by simpa [IsRow] using h
theorem isRow_replicate0 (n : Nat) : IsRow (List.replicate n 0) := fun _ hx => .inl (List.eq_of_mem_replicate hx)
theorem IsRow.take {r : List Int} (h : IsRow r) (n : Nat) : IsRow (r.take n) := fun x hx => h x (List.mem_of_mem_take hx)
theorem IsRow.drop {r : List Int} (h : IsRow r) (n : Nat) : IsRow (r.drop n) := fun x hx => h x (List.mem_of_mem_drop hx)
theorem IsRow.tail {r : List Int} (h : IsRow r) : IsRow r.tail := fun x hx => h x (List.mem_of_mem_tail hx)
theorem IsRow.getElem {r : List Int} (h : IsRow r) {i : Nat} (hi : i < r.length) : r[i] = 0 ∨ r[i] = 1 := h _ (List.getElem_mem hi)
theorem IsRow.getD {r : List Int} (h : IsRow r) (i : Nat) : r.getD i 0 = 0 ∨ r.getD i 0 = 1 := by
  rw [List.getD_eq_getElem?_getD]
  by_cases hi : i < r.length
  · rw [List.getElem?_eq_getElem hi]; exact h.getElem hi
  · rw [List.getElem?_eq_none (by omega)]; exact .inl rfl
theorem IsRow.set {r : List Int} (h : IsRow r) {x : Int} (hx : x = 0 ∨ x = 1) (i : Nat) : IsRow (r.set i x) := fun y hy => by
  rcases List.mem_or_eq_of_mem_set hy with h1 | h1
  · exact h y h1
  · exact h1 ▸ hx

/-- the number of a row -/
def val (r : List Int) : Nat := r.foldl (fun v s => 2 * v + s.toNat) 0
theorem val_nil : val [] = 0 := rfl
theorem val_snoc (r : List Int) (s : Int) : val (r ++ [s]) = 2 * val r + s.toNat := by simp [val, List.foldl_append]
theorem val_foldl (r : List Int) (v : Nat) : r.foldl (fun v s => 2 * v + s.toNat) v = v * 2 ^ r.length + val r := by
  induction r generalizing v with
  | nil => simp [val]
  | cons x r ih =>
    have e : val (x :: r) = List.foldl (fun v s => 2 * v + s.toNat) (2 * 0 + x.toNat) r := rfl
    rw [List.foldl_cons, ih, e, ih]
    simp only [List.length_cons, Nat.pow_succ, Nat.add_mul, Nat.mul_zero, Nat.zero_add]
    have : 2 * v * 2 ^ r.length = v * (2 ^ r.length * 2) := by
      rw [Nat.mul_comm 2 v, Nat.mul_assoc, Nat.mul_comm 2]
    omega
theorem val_append (a b : List Int) : val (a ++ b) = val a * 2 ^ b.length + val b := by
  rw [val, List.foldl_append, val_foldl]; rfl
theorem val_cons (x : Int) (r : List Int) : val (x :: r) = x.toNat * 2 ^ r.length + val r := by
  have := val_append [x] r
  simpa [val] using this
theorem val_lt {r : List Int} (h : IsRow r) : val r < 2 ^ r.length := by
  induction r with
  | nil => simp [val]
  | cons x r ih =>
    rw [val_cons, List.length_cons, Nat.pow_succ]
    have h1 := isRow_cons.mp h
    have := ih h1.2
    rcases h1.1 with rfl | rfl <;> simp <;> omega
theorem two_xor (a b x y : Nat) (hx : x < 2) (hy : y < 2) : (2 * a + x) ^^^ (2 * b + y) = 2 * (a ^^^ b) + (x + y) % 2 := by
  apply Nat.eq_of_testBit_eq
  intro i
  rw [Nat.testBit_xor]
  cases i with
  | zero =>
    simp only [Nat.testBit_zero]
    have h1 : x = 0 ∨ x = 1 := by omega
    have h2 : y = 0 ∨ y = 1 := by omega
    rcases h1 with rfl | rfl <;> rcases h2 with rfl | rfl <;> simp <;> omega
  | succ i =>
    simp only [Nat.testBit_succ]
    rw [show (2 * a + x) / 2 = a by omega, show (2 * b + y) / 2 = b by omega, show (2 * (a ^^^ b) + (x + y) % 2) / 2 = a ^^^ b by omega, Nat.testBit_xor]

theorem two_xor0 (a b : Nat) : 2 * (a ^^^ b) = (2 * a) ^^^ (2 * b) := by
  have := two_xor a b 0 0 (by omega) (by omega)
  simpa using this.symm

theorem eq_of_xor {a b : Nat} (h : a ^^^ b = 0) : a = b := by
  have : a ^^^ (b ^^^ b) = b := by rw [← Nat.xor_assoc, h, Nat.zero_xor]
  rwa [Nat.xor_self, Nat.xor_zero] at this

/-- the sum of two rows of one length -/
def sum2 (a b : List Int) : List Int := List.zipWith (fun x y => (x + y) % 2) a b
theorem sum2_length {a b : List Int} (h : a.length = b.length) : (sum2 a b).length = a.length := by simp [sum2, h]
theorem sum2_isRow (a b : List Int) : IsRow (sum2 a b) := by
  intro x hx
  obtain ⟨i, hi, rfl⟩ := List.mem_iff_getElem.mp hx
  simp only [sum2, List.getElem_zipWith]
  omega
theorem sum2_snoc {a b : List Int} (h : a.length = b.length) (x y : Int) : sum2 (a ++ [x]) (b ++ [y]) = sum2 a b ++ [(x + y) % 2] := by
  simp [sum2, List.zipWith_append h]
/-- bit w struck by n -/
def red (n w v : Nat) : Nat := if v.testBit w then v ^^^ n else v
def onw (n w v : Nat) : Nat := red n w (2 * v)
theorem red_xor (n w a b : Nat) : red n w (a ^^^ b) = red n w a ^^^ red n w b := by
  unfold red
  rw [Nat.testBit_xor]
  cases h1 : a.testBit w <;> cases h2 : b.testBit w
  · simp
  · simp [Nat.xor_assoc]
  · simp only [Bool.xor_false, if_true, Bool.false_eq_true, if_false]
    rw [Nat.xor_assoc, Nat.xor_assoc, Nat.xor_comm b n]
  · simp only [Bool.xor_true, Bool.not_true, Bool.false_eq_true, if_false, if_true]
    rw [Nat.xor_assoc, ← Nat.xor_assoc n b n, Nat.xor_comm n b, Nat.xor_assoc b n n, Nat.xor_self, Nat.xor_zero]
theorem onw_xor (n w a b : Nat) : onw n w (a ^^^ b) = onw n w a ^^^ onw n w b := by
  unfold onw; rw [two_xor0, red_xor]
theorem red_zero (n w : Nat) : red n w 0 = 0 := by simp [red]
theorem onw_zero (n w : Nat) : onw n w 0 = 0 := by simp [onw, red_zero]
theorem testBit_top {w v : Nat} (h1 : 2 ^ w ≤ v) (h2 : v < 2 ^ (w + 1)) : v.testBit w = true := by
  rw [Nat.testBit_eq_decide_div_mod_eq]
  have hp : 0 < 2 ^ w := Nat.two_pow_pos w
  have : v / 2 ^ w = 1 := by
    rw [Nat.pow_succ] at h2
    apply Nat.div_eq_of_lt_le <;> omega
  rw [this]; rfl
/-- the divisor's number: its highest bit is w -/
structure IsDivN (n w : Nat) : Prop where
  lo : 2 ^ w ≤ n
  hi : n < 2 ^ (w + 1)
  odd : n % 2 = 1
theorem IsDivN.bit {n w : Nat} (h : IsDivN n w) : n.testBit w = true := testBit_top h.lo h.hi
theorem lt_of_bits {w v : Nat} (h : v < 2 ^ (w + 1)) (hb : v.testBit w = false) : v < 2 ^ w := by
  rcases Nat.lt_or_ge v (2 ^ w) with h1 | h1
  · exact h1
  · rw [testBit_top h1 h] at hb; cases hb
theorem red_lt {n w v : Nat} (h : 2 ^ w ≤ n ∧ n < 2 ^ (w + 1)) (hv : v < 2 ^ (w + 1)) : red n w v < 2 ^ w := by
  unfold red
  cases hb : v.testBit w with
  | false => simpa using lt_of_bits hv hb
  | true =>
    simp only [if_true]
    refine lt_of_bits (Nat.xor_lt_two_pow hv h.2) ?_
    rw [Nat.testBit_xor, hb, testBit_top h.1 h.2]; rfl
theorem onw_lt {n w v : Nat} (h : 2 ^ w ≤ n ∧ n < 2 ^ (w + 1)) (hv : v < 2 ^ w) : onw n w v < 2 ^ w :=
  red_lt h (by rw [Nat.pow_succ]; omega)
theorem red_of_lt {n w v : Nat} (hv : v < 2 ^ w) : red n w v = v := by
  unfold red
  rw [Nat.testBit_lt_two_pow hv]; rfl
theorem onw_ne_zero {n w v : Nat} (h : IsDivN n w) (hv : v < 2 ^ w) (h0 : v ≠ 0) : onw n w v ≠ 0 := by
  unfold onw red
  split
  · intro e
    have e2 : 2 * v = n := eq_of_xor e
    have := h.odd
    omega
  · omega
theorem onw_inj {n w a b : Nat} (h : IsDivN n w) (ha : a < 2 ^ w) (hb : b < 2 ^ w) (e : onw n w a = onw n w b) : a = b := by
  have h1 : onw n w (a ^^^ b) = 0 := by rw [onw_xor, e, Nat.xor_self]
  by_cases h2 : a ^^^ b = 0
  · exact eq_of_xor h2
  · exact absurd h1 (onw_ne_zero h (Nat.xor_lt_two_pow ha hb) h2)

/-- k times onward -/
def pow (n w : Nat) : Nat → Nat → Nat
  | 0, v => v
  | k + 1, v => onw n w (pow n w k v)
theorem pow_succ' (n w k v : Nat) : pow n w (k + 1) v = pow n w k (onw n w v) := by
  induction k with
  | zero => rfl
  | succ k ih => rw [pow, ih]; rfl
theorem pow_add (n w j k v : Nat) : pow n w (j + k) v = pow n w j (pow n w k v) := by
  induction j with
  | zero => simp [pow]
  | succ j ih => rw [Nat.succ_add, pow, ih]; rfl
theorem pow_xor (n w k a b : Nat) : pow n w k (a ^^^ b) = pow n w k a ^^^ pow n w k b := by
  induction k with
  | zero => rfl
  | succ k ih => rw [pow, ih, onw_xor]; rfl
theorem pow_zero' (n w k : Nat) : pow n w k 0 = 0 := by
  induction k with
  | zero => rfl
  | succ k ih => rw [pow, ih, onw_zero]
theorem pow_lt {n w v : Nat} (h : 2 ^ w ≤ n ∧ n < 2 ^ (w + 1)) (hv : v < 2 ^ w) (k : Nat) : pow n w k v < 2 ^ w := by
  induction k with
  | zero => exact hv
  | succ k ih => exact onw_lt h ih
theorem pow_inj {n w a b : Nat} (h : IsDivN n w) (ha : a < 2 ^ w) (hb : b < 2 ^ w) {k : Nat} (e : pow n w k a = pow n w k b) : a = b := by
  induction k with
  | zero => exact e
  | succ k ih => exact ih (onw_inj h (pow_lt ⟨h.lo, h.hi⟩ ha k) (pow_lt ⟨h.lo, h.hi⟩ hb k) e)
theorem pow_ne_zero {n w v : Nat} (h : IsDivN n w) (hv : v < 2 ^ w) (h0 : v ≠ 0) (k : Nat) : pow n w k v ≠ 0 := fun e =>
  h0 (pow_inj h hv (Nat.two_pow_pos w) (k := k) (e.trans (pow_zero' n w k).symm))

/-! the reach -/
theorem php : ∀ (k : Nat) (l : List Nat), l.Nodup → (∀ x ∈ l, x < k) → l.length ≤ k
  | 0, [], _, _ => Nat.le_refl 0
  | 0, x :: _, _, h => absurd (h x (.head _)) (Nat.not_lt_zero x)
  | k + 1, l, hn, h => by
    by_cases hk : k ∈ l
    · have h1 := php k (l.erase k) (hn.erase k) (fun x hx => by
        have := (hn.mem_erase_iff).mp hx
        have := h x this.2
        omega)
      rw [List.length_erase_of_mem hk] at h1
      omega
    · have := php k l hn (fun x hx => by
        have h1 := h x hx
        have : x ≠ k := fun e => hk (e ▸ hx)
        omega)
      omega
theorem exists_least {p : Nat → Prop} : ∀ k, p k → ∃ k, p k ∧ ∀ j, j < k → ¬ p j := by
  intro k
  induction k using Nat.strongRecOn with
  | ind k ih =>
    intro hk
    by_cases h : ∃ j, j < k ∧ p j
    · obtain ⟨j, h1, h2⟩ := h
      exact ih j h1 h2
    · exact ⟨k, hk, fun j h1 h2 => h ⟨j, h1, h2⟩⟩

structure IsReach (n w P : Nat) : Prop where
  pos : 1 ≤ P
  back : pow n w P 1 = 1
  least : ∀ k, 1 ≤ k → k < P → pow n w k 1 ≠ 1
theorem one_lt_pow {w : Nat} (hw : 1 ≤ w) : 1 < 2 ^ w := Nat.one_lt_two_pow (by omega)
theorem exists_back {n w : Nat} (h : IsDivN n w) (hw : 1 ≤ w) : ∃ k, 1 ≤ k ∧ k ≤ 2 ^ w - 1 ∧ pow n w k 1 = 1 := by
  false_or_by_contra
  rename_i hno
  have hno' : ∀ k, 1 ≤ k → k ≤ 2 ^ w - 1 → pow n w k 1 ≠ 1 := fun k h1 h2 h3 => hno ⟨k, h1, h2, h3⟩
  have h1 := one_lt_pow hw
  have hlt := fun k => pow_lt (n := n) (w := w) (v := 1) ⟨h.lo, h.hi⟩ h1 k
  have hne := fun k => pow_ne_zero h h1 (by decide) k
  have hnd : ((List.range (2 ^ w)).map (fun i => pow n w i 1 - 1)).Nodup := by
    unfold List.Nodup
    rw [List.pairwise_map]
    refine List.Pairwise.imp_of_mem ?_ List.pairwise_lt_range
    intro a b ha hb hab e
    have ha' := List.mem_range.mp ha
    have hb' := List.mem_range.mp hb
    have e2 : pow n w a 1 = pow n w b 1 := by
      have := hne a; have := hne b; omega
    have e3 : pow n w a 1 = pow n w a (pow n w (b - a) 1) := by
      rw [← pow_add, show a + (b - a) = b by omega]; exact e2
    have e4 := pow_inj h h1 (hlt (b - a)) e3
    exact hno' (b - a) (by omega) (by omega) e4.symm
  have := php (2 ^ w - 1) _ hnd (fun x hx => by
    obtain ⟨i, _, rfl⟩ := List.mem_map.mp hx
    have := hlt i; have := hne i; omega)
  rw [List.length_map, List.length_range] at this
  omega
theorem exists_reach {n w : Nat} (h : IsDivN n w) (hw : 1 ≤ w) : ∃ P, IsReach n w P ∧ P ≤ 2 ^ w - 1 := by
  obtain ⟨k, h1, h2, h3⟩ := exists_back h hw
  obtain ⟨P, ⟨p1, p2, p3⟩, hl⟩ := exists_least (p := fun k => 1 ≤ k ∧ k ≤ 2 ^ w - 1 ∧ pow n w k 1 = 1) k ⟨h1, h2, h3⟩
  exact ⟨P, ⟨p1, p3, fun k q1 q2 q3 => hl k q2 ⟨q1, by omega, q3⟩⟩, p2⟩
theorem onw_two_pow {n w k : Nat} (hk : k + 1 < w) : onw n w (2 ^ k) = 2 ^ (k + 1) := by
  unfold onw
  rw [show 2 * 2 ^ k = 2 ^ (k + 1) by rw [Nat.pow_succ]; omega]
  exact red_of_lt (Nat.pow_lt_pow_right (by decide) hk)
theorem pow_one {n w k : Nat} (hk : k < w) : pow n w k 1 = 2 ^ k := by
  induction k with
  | zero => rfl
  | succ k ih => rw [pow, ih (by omega), onw_two_pow hk]
theorem IsReach.id {n w P : Nat} (h : IsReach n w P) : ∀ m, m ≤ w → ∀ v, v < 2 ^ m → pow n w P v = v := by
  intro m
  induction m with
  | zero => intro _ v hv; have : v = 0 := by simpa using hv
            rw [this, pow_zero']
  | succ m ih =>
    intro hm v hv
    rcases Nat.lt_or_ge v (2 ^ m) with h1 | h1
    · exact ih (by omega) v h1
    · have hb := testBit_top h1 hv
      have h2 : v ^^^ 2 ^ m < 2 ^ m := lt_of_bits (Nat.xor_lt_two_pow hv (by rw [Nat.pow_succ]; have := Nat.two_pow_pos m; omega)) (by
        rw [Nat.testBit_xor, hb, Nat.testBit_two_pow_self]; rfl)
      have h3 : v = (v ^^^ 2 ^ m) ^^^ 2 ^ m := by rw [Nat.xor_assoc, Nat.xor_self, Nat.xor_zero]
      have h4 : pow n w P (2 ^ m) = 2 ^ m := by
        rw [← pow_one (n := n) (show m < w by omega), ← pow_add, Nat.add_comm, pow_add, h.back]
      have h5 := pow_xor n w P (v ^^^ 2 ^ m) (2 ^ m)
      rw [ih (by omega) _ h2, h4, ← h3] at h5
      exact h5
/-! the rest of a row, by numbers -/
def RF (n w v : Nat) (row : List Int) : Nat := row.foldl (fun v s => red n w (2 * v + s.toNat)) v
def R (n w : Nat) (row : List Int) : Nat := RF n w 0 row
theorem RF_append (n w v : Nat) (a b : List Int) : RF n w v (a ++ b) = RF n w (RF n w v a) b := by simp [RF, List.foldl_append]
theorem RF_cons (n w v : Nat) (x : Int) (r : List Int) : RF n w v (x :: r) = RF n w (red n w (2 * v + x.toNat)) r := rfl
theorem R_snoc (n w : Nat) (r : List Int) (s : Int) : R n w (r ++ [s]) = red n w (2 * R n w r + s.toNat) := by simp [R, RF_append]; rfl
theorem toNat_row {x : Int} (h : x = 0 ∨ x = 1) : x.toNat < 2 := by rcases h with rfl | rfl <;> decide
theorem RF_split (n w v : Nat) {row : List Int} (h : IsRow row) : RF n w v row = pow n w row.length v ^^^ R n w row := by
  have key : ∀ (row : List Int), IsRow row → ∀ a b, RF n w (a ^^^ b) row = pow n w row.length a ^^^ RF n w b row := by
    intro row
    induction row with
    | nil => intro _ a b; rfl
    | cons x r ih =>
      intro h a b
      have h' := isRow_cons.mp h
      have e : red n w (2 * (a ^^^ b) + x.toNat) = onw n w a ^^^ red n w (2 * b + x.toNat) := by
        have := two_xor a b 0 x.toNat (by decide) (toNat_row h'.1)
        rw [Nat.add_zero, Nat.zero_add, Nat.mod_eq_of_lt (toNat_row h'.1)] at this
        rw [← this, red_xor]; rfl
      rw [RF_cons, e, ih h'.2, RF_cons, List.length_cons, pow_succ']
  have := key row h v 0
  rw [Nat.xor_zero] at this
  exact this
theorem R_append (n w : Nat) (a : List Int) {b : List Int} (hb : IsRow b) : R n w (a ++ b) = pow n w b.length (R n w a) ^^^ R n w b := by
  rw [R, RF_append, RF_split n w _ hb]; rfl
theorem R_short (n : Nat) {w : Nat} {row : List Int} (hr : IsRow row) (hl : row.length ≤ w) : R n w row = val row := by
  generalize hn : row.length = k
  induction k generalizing row with
  | zero => rw [List.length_eq_zero_iff.mp hn]; rfl
  | succ k ih =>
    obtain ⟨a, x, rfl⟩ : ∃ a x, row = a ++ [x] := ⟨row.dropLast, row.getLast (by intro e; simp [e] at hn), (List.dropLast_concat_getLast _).symm⟩
    have h' := isRow_append.mp hr
    have hn' : a.length = k := by simpa using hn
    rw [R_snoc, ih h'.1 (by omega) hn', ← val_snoc]
    refine red_of_lt (Nat.lt_of_lt_of_le (val_lt hr) (Nat.pow_le_pow_right (by decide) (by omega)))
theorem R_zeros (n w k : Nat) : R n w (List.replicate k 0) = 0 := by
  induction k with
  | zero => rfl
  | succ k ih => rw [List.replicate_succ', R_snoc, ih]; simp [red_zero]
theorem R_zeros_append (n w k : Nat) {row : List Int} (h : IsRow row) : R n w (List.replicate k 0 ++ row) = R n w row := by
  rw [R_append _ _ _ h, R_zeros, pow_zero', Nat.zero_xor]
theorem R_behind (n w k : Nat) (row : List Int) : R n w (row ++ List.replicate k 0) = pow n w k (R n w row) := by
  rw [R_append _ _ _ (isRow_replicate0 k), R_zeros, Nat.xor_zero, List.length_replicate]
theorem R_sum2 (n w : Nat) {a b : List Int} (ha : IsRow a) (hb : IsRow b) (hl : a.length = b.length) : R n w (sum2 a b) = R n w a ^^^ R n w b := by
  generalize hn : a.length = k
  induction k generalizing a b with
  | zero =>
    have : a = [] := List.length_eq_zero_iff.mp hn
    have : b = [] := List.length_eq_zero_iff.mp (hl ▸ hn)
    subst_vars; simp [sum2, R, RF]
  | succ k ih =>
    have hb' : b.length = k + 1 := by omega
    obtain ⟨a', x, rfl⟩ : ∃ a' x, a = a' ++ [x] := ⟨a.dropLast, a.getLast (by intro e; simp [e] at hn), (List.dropLast_concat_getLast _).symm⟩
    obtain ⟨b', y, rfl⟩ : ∃ b' y, b = b' ++ [y] := ⟨b.dropLast, b.getLast (by intro e; simp [e] at hb'), (List.dropLast_concat_getLast _).symm⟩
    have hl' : a'.length = b'.length := by simpa using hl
    have r1 := isRow_append.mp ha
    have r2 := isRow_append.mp hb
    have hx := r1.2 x (by simp)
    have hy := r2.2 y (by simp)
    rw [sum2_snoc hl', R_snoc, R_snoc, R_snoc, ih r1.1 r2.1 hl' (by simpa using hn), ← red_xor, two_xor _ _ _ _ (toNat_row hx) (toNat_row hy)]
    rcases hx with rfl | rfl <;> rcases hy with rfl | rfl <;> rfl
theorem R_unit (n : Nat) {w : Nat} (hw : 1 ≤ w) (k p : Nat) : R n w (List.replicate k 0 ++ 1 :: List.replicate p 0) = pow n w p 1 := by
  have e : List.replicate k (0 : Int) ++ 1 :: List.replicate p 0 = (List.replicate k 0 ++ [1]) ++ List.replicate p 0 := by simp
  rw [e, R_behind, R_zeros_append _ _ _ (isRow_single (.inr rfl)), R_short n (isRow_single (.inr rfl)) (by simpa using hw)]
  rfl

/-! the rest of a row, as a row -/
structure IsDiv1 (d : List Int) : Prop where
  row : IsRow d
  head : d.head? = some 1
theorem IsDiv1.cons {d : List Int} (h : IsDiv1 d) : ∃ t, d = 1 :: t ∧ IsRow t := by
  cases d with
  | nil => cases h.head
  | cons x t =>
    have : x = 1 := by simpa using h.head
    exact ⟨t, by rw [this], (isRow_cons.mp h.row).2⟩
theorem IsDiv1.bounds {d : List Int} (h : IsDiv1 d) : 2 ^ (d.length - 1) ≤ val d ∧ val d < 2 ^ (d.length - 1 + 1) := by
  obtain ⟨t, rfl, ht⟩ := h.cons
  have := val_lt ht
  rw [val_cons]
  simp only [List.length_cons, Nat.add_sub_cancel, Nat.pow_succ]
  simp; omega
end Mine

/-! adding a row into a list, place by place -/
namespace Mine
/-- the products whose powers meet at i, of the first n signs of q -/
def conv (q d : List Int) (n i : Nat) : Int := (((List.range n).filter (fun k => decide (k ≤ i) && decide (i - k < d.length))).map (fun k => q.getD k 0 * d.getD (i - k) 0)).sum
theorem getD_ext {a b : List Int} (hl : a.length = b.length) (h : ∀ i, i < a.length → a.getD i 0 = b.getD i 0) : a = b := by
  apply List.ext_getElem hl
  intro i h1 h2
  have := h i h1
  simpa [List.getD_eq_getElem?_getD, h1, h2] using this
end Mine

namespace Mine
/-! numbers told as rows -/
def signsOf (v : Nat) (w : Nat) : List Int := ((List.range w).map (fun t => (((v >>> t) % 2 : Nat) : Int))).reverse
theorem signsOf_succ (v w : Nat) : signsOf v (w + 1) = (((v >>> w) % 2 : Nat) : Int) :: signsOf v w := by
  simp [signsOf, List.range_succ]
theorem signsOf_isRow (v w : Nat) : IsRow (signsOf v w) := by
  intro x hx
  simp only [signsOf, List.mem_reverse, List.mem_map] at hx
  obtain ⟨t, _, rfl⟩ := hx
  omega
theorem signsOf_length (v w : Nat) : (signsOf v w).length = w := by simp [signsOf]
theorem val_signsOf (v w : Nat) : val (signsOf v w) = v % 2 ^ w := by
  induction w with
  | zero => simp [signsOf, val, Nat.mod_one]
  | succ w ih =>
    rw [signsOf_succ, val_cons, ih, signsOf_length]
    rw [Nat.shiftRight_eq_div_pow]
    have e : v % 2 ^ (w + 1) = v % 2 ^ w + 2 ^ w * (v / 2 ^ w % 2) := by rw [Nat.pow_succ, Nat.mod_mul]
    rw [Int.toNat_natCast, e, Nat.mul_comm, Nat.add_comm]

/-! a gate's divisor, and what the gate does -/
structure IsDiv (d : List Int) : Prop where
  row : IsRow d
  head : d.head? = some 1
  last : d.getLast? = some 1
  least : 2 ≤ d.length
  most : d.length ≤ 13
theorem IsDiv.one {d : List Int} (h : IsDiv d) : IsDiv1 d := ⟨h.row, h.head⟩
theorem IsDiv.n {d : List Int} (h : IsDiv d) : IsDivN (val d) (d.length - 1) := by
  refine ⟨h.one.bounds.1, h.one.bounds.2, ?_⟩
  obtain ⟨a, rfl⟩ : ∃ a, d = a ++ [1] := by
    have := h.last
    exact ⟨d.dropLast, by
      have hne : d ≠ [] := by intro e; subst e; cases this
      rw [List.getLast?_eq_some_getLast hne] at this
      have h2 := List.dropLast_concat_getLast hne
      rw [Option.some.inj this] at h2
      exact h2.symm⟩
  rw [val_snoc]
  show (2 * val a + 1) % 2 = 1
  omega
theorem IsDiv.w1 {d : List Int} (h : IsDiv d) : 1 ≤ d.length - 1 := by have := h.least; omega
theorem IsDiv.reach {d : List Int} (h : IsDiv d) : ∃ P, IsReach (val d) (d.length - 1) P ∧ P ≤ 4095 := by
  obtain ⟨P, h1, h2⟩ := exists_reach h.n h.w1
  refine ⟨P, h1, Nat.le_trans h2 ?_⟩
  have : 2 ^ (d.length - 1) ≤ 2 ^ 12 := Nat.pow_le_pow_right (by decide) (by have := h.most; omega)
  have e : 2 ^ 12 = 4096 := by decide
  omega
/-! turned signs -/
def flip (r : List Int) (i : Nat) : List Int := r.take i ++ [1 - r.getD i 0] ++ r.drop (i + 1)
theorem flip_isRow {r : List Int} (h : IsRow r) (i : Nat) : IsRow (flip r i) :=
  isRow_append.mpr ⟨isRow_append.mpr ⟨h.take i, isRow_single (by rcases h.getD i with e | e <;> rw [e] <;> simp)⟩, h.drop _⟩
theorem flip_length {r : List Int} {i : Nat} (h : i < r.length) : (flip r i).length = r.length := by simp [flip]; omega
theorem R_flip {d : List Int} (hd : IsDiv d) {r : List Int} (h : IsRow r) {i : Nat} (hi : i < r.length) :
    R (val d) (d.length - 1) (flip r i) = R (val d) (d.length - 1) r ^^^ pow (val d) (d.length - 1) (r.length - 1 - i) 1 := by
  have hu : IsRow (List.replicate i 0 ++ 1 :: List.replicate (r.length - 1 - i) 0) := isRow_append.mpr ⟨isRow_replicate0 _, isRow_cons.mpr ⟨.inr rfl, isRow_replicate0 _⟩⟩
  have hl : r.length = (List.replicate i (0 : Int) ++ 1 :: List.replicate (r.length - 1 - i) 0).length := by simp; omega
  have e : flip r i = sum2 r (List.replicate i 0 ++ 1 :: List.replicate (r.length - 1 - i) 0) := by
    refine getD_ext (by rw [flip_length hi, sum2_length hl]) fun j hj => ?_
    rw [flip_length hi] at hj
    have hjr : r[j]? = some r[j] := List.getElem?_eq_getElem hj
    have hrj := h.getElem hj
    simp only [sum2, flip, List.getD_eq_getElem?_getD]
    rw [List.getElem?_zipWith, hjr]
    rcases Nat.lt_trichotomy j i with c | c | c
    · rw [List.getElem?_append_left (by simp; omega), List.getElem?_append_left (by simp; omega), List.getElem?_append_left (by simp; omega)]
      simp [c, hjr, List.getElem?_take]
      omega
    · subst c
      rw [List.getElem?_append_left (by simp; omega), List.getElem?_append_right (by simp; omega), List.getElem?_append_right (by simp)]
      have : j - min j r.length = 0 := by omega
      simp [hjr, this]
      omega
    · rw [List.getElem?_append_right (by simp; omega), List.getElem?_append_right (by simp; omega)]
      have e1 : j - (List.replicate i (0 : Int)).length = (j - i - 1) + 1 := by simp; omega
      rw [e1, List.getElem?_cons_succ, List.getElem?_replicate, if_pos (by omega), List.getElem?_drop]
      have e2 : i + 1 + (j - (List.take i r ++ [1 - r[i]?.getD 0]).length) = j := by simp; omega
      rw [e2, hjr]
      simp
      omega
  rw [e, R_sum2 _ _ h hu hl, R_unit _ hd.w1]
/-! parity -/
end Mine

namespace Mine
/-! the program's readings, over whole numbers -/
theorem fdiv_pow (v k : Nat) : Int.fdiv (v : Int) (2 ^ k) = ((v >>> k : Nat) : Int) := by
  rw [Nat.shiftRight_eq_div_pow, Int.fdiv_eq_ediv_of_nonneg _ (by exact_mod_cast Nat.zero_le (2 ^ k))]
  simp
/-- a gate's mending -/
def Mends (d row out : List Int) : Prop :=
  (R (val d) (d.length - 1) row = 0 ∧ out = row) ∨ (R (val d) (d.length - 1) row ≠ 0 ∧ ∃ p, p < row.length ∧ pow (val d) (d.length - 1) p 1 = R (val d) (d.length - 1) row ∧ out = flip row (row.length - 1 - p))
theorem Mends.holds {d : List Int} (hd : IsDiv d) {row o : List Int} (hr : IsRow row) (h : Mends d row o) : R (val d) (d.length - 1) o = 0 ∧ IsRow o ∧ o.length = row.length := by
  rcases h with ⟨a, rfl⟩ | ⟨_, p, b, c, rfl⟩
  · exact ⟨a, hr, rfl⟩
  · refine ⟨?_, flip_isRow hr _, flip_length (by omega)⟩
    rw [R_flip hd hr (by omega), show row.length - 1 - (row.length - 1 - p) = p by omega, c, Nat.xor_self]
end Mine

namespace Mine
/-! law 01 -/
def padTo (k : Nat) (r : List Int) : List Int := List.replicate (k - r.length) 0 ++ r
def addOf (a b : List Int) : List Int := sum2 (padTo (max a.length b.length) a) (padTo (max a.length b.length) b)
theorem flatten_replicate_single (n : Nat) (x : Int) : (List.replicate n [x]).flatten = List.replicate n x := by
  induction n with
  | zero => rfl
  | succ n ih => rw [List.replicate_succ, List.flatten_cons, ih]; rfl
theorem isRow_flat {n : Nat} {x : Int} (h : x = 0 ∨ x = 1) : IsRow (List.replicate n [x]).flatten := by
  rw [flatten_replicate_single]
  intro y hy
  rw [List.eq_of_mem_replicate hy]; exact h
theorem flat_length (n : Nat) (x : Int) : (List.replicate n [x]).flatten.length = n := by rw [flatten_replicate_single, List.length_replicate]
theorem padTo_length (k : Nat) {r : List Int} (h : r.length ≤ k) : (padTo k r).length = k := by simp [padTo]; omega
theorem addOf_length (a b : List Int) : (addOf a b).length = max a.length b.length := by
  rw [addOf, sum2_length (by rw [padTo_length _ (Nat.le_max_left ..), padTo_length _ (Nat.le_max_right ..)]), padTo_length _ (Nat.le_max_left ..)]
theorem addOf_isRow (a b : List Int) : IsRow (addOf a b) := sum2_isRow _ _
theorem fm_ge (a n : Int) (h : 0 < n) : 0 ≤ a.fmod n := by rw [Int.fmod_eq_emod_of_nonneg _ (Int.le_of_lt h)]; exact Int.emod_nonneg _ (by omega)
theorem fm_le (a n k : Int) (h : 0 < n) (hk : n ≤ k + 1) : a.fmod n ≤ k := by
  rw [Int.fmod_eq_emod_of_nonneg _ (Int.le_of_lt h)]
  have := Int.emod_lt_of_pos a h
  omega
end Mine

end

section

namespace Mine
end Mine
namespace Mine
end Mine

end

section

namespace Mine
theorem IsDiv.first {ms : List Int} (h : IsDiv ms) : ms.getD 0 0 = 1 := by
  have := h.head
  cases ms with
  | nil => cases this
  | cons x t => simpa using this
end Mine
namespace Mine
end Mine
namespace Mine
end Mine

end

section

namespace Mine
/-! law 12: signs turned one after another behind a place -/
/-! law 13: a divisor with an even sum, an odd number of marks -/
/-! the rest by steps, for a loop over the row -/
end Mine

end

section

namespace Mine
abbrev IsLet (n : Nat) : Prop := 32 ≤ n ∧ n ≤ 126 ∧ n ≠ 37
def flat7 (cs : List Nat) : List Int := cs.flatMap (fun c => signsOf c 7)
theorem flat7_append (as bs : List Nat) : flat7 (as ++ bs) = flat7 as ++ flat7 bs := by simp [flat7]
theorem flat7_one (c : Nat) : flat7 [c] = signsOf c 7 := by simp [flat7]
theorem flat7_length : ∀ cs : List Nat, (flat7 cs).length = 7 * cs.length
  | [] => rfl
  | c :: r => by
    have := flat7_length r
    simp only [flat7, List.flatMap_cons, List.length_append, signsOf_length, List.length_cons] at this ⊢
    omega
theorem flat7_isRow (cs : List Nat) : IsRow (flat7 cs) := by
  intro x hx
  obtain ⟨c, _, h⟩ := List.mem_flatMap.mp hx
  exact signsOf_isRow c 7 x h
theorem flat7_take (cs : List Nat) (i : Nat) : (flat7 cs).take (7 * i) = flat7 (cs.take i) := by
  by_cases h : i ≤ cs.length
  · conv => lhs; rw [← List.take_append_drop i cs, flat7_append]
    rw [List.take_left']
    rw [flat7_length, List.length_take, Nat.min_eq_left h]
  · rw [List.take_of_length_le (by rw [flat7_length]; omega), List.take_of_length_le (by omega)]
theorem flat7_drop (cs : List Nat) (i : Nat) : (flat7 cs).drop (7 * i) = flat7 (cs.drop i) := by
  by_cases h : i ≤ cs.length
  · conv => lhs; rw [← List.take_append_drop i cs, flat7_append]
    rw [List.drop_left']
    rw [flat7_length, List.length_take, Nat.min_eq_left h]
  · rw [List.drop_eq_nil_of_le (by rw [flat7_length]; omega), List.drop_eq_nil_of_le (by omega)]; rfl
theorem flat7_cut {cs : List Nat} {i c : Nat} (h : cs[i]? = some c) : ((flat7 cs).drop (7 * i)).take 7 = signsOf c 7 := by
  obtain ⟨hi, rfl⟩ := List.getElem?_eq_some_iff.mp h
  rw [flat7_drop, List.drop_eq_getElem_cons hi]
  show (flat7 ([cs[i]] ++ cs.drop (i + 1))).take 7 = _
  rw [flat7_append, flat7_one]
  exact List.take_left' (signsOf_length _ _)
theorem val7 {c : Nat} (h : c < 128) : val (signsOf c 7) = c := by rw [val_signsOf]; omega
theorem sev_succ (n i : Nat) : signsOf n (i + 1) = [(((n / 2 ^ i : Nat) : Int)).fmod 2] ++ signsOf n i := by
  rw [signsOf_succ, Nat.shiftRight_eq_div_pow, Int.fmod_eq_emod_of_nonneg _ (by decide)]
  rfl
theorem sev_half (n i : Nat) : (((n / 2 ^ i : Nat) : Int)).fdiv 2 = ((n / 2 ^ (i + 1) : Nat) : Int) := by
  rw [Int.fdiv_eq_ediv_of_nonneg _ (by decide), Nat.pow_succ, ← Nat.div_div_eq_div_mul]
  rfl
theorem isRow_drop {r : List Int} (h : IsRow r) (n : Nat) : IsRow (r.drop n) := fun x hx => h x (List.mem_of_mem_drop hx)
theorem isRow_take {r : List Int} (h : IsRow r) (n : Nat) : IsRow (r.take n) := fun x hx => h x (List.mem_of_mem_take hx)
def Lets (cs : List Nat) : Prop := ∀ c ∈ cs, IsLet c
theorem lets_nil : Lets [] := fun _ h => nomatch h
theorem lets_snoc {cs : List Nat} {c : Nat} (h : Lets cs) (hc : IsLet c) : Lets (cs ++ [c]) := fun x hx => (List.mem_append.mp hx).elim (h x) (fun h' => (List.mem_singleton.mp h') ▸ hc)
theorem lets_take {cs : List Nat} {i c : Nat} (h : Lets (cs.take i)) (hc : cs[i]? = some c) (hl : IsLet c) : Lets (cs.take (i + 1)) := by
  rw [List.take_add_one, hc]; exact lets_snoc h hl
theorem not_lets_mid {as bs : List Nat} {c : Nat} (h : ¬ IsLet c) : ¬ Lets (as ++ [c] ++ bs) := fun H => h (H c (by simp))
theorem lets_lt {cs : List Nat} (h : Lets cs) : ∀ c ∈ cs, c < 128 := fun c hc => Nat.lt_of_le_of_lt (h c hc).2.1 (by decide)
end Mine

end

section
open PySem PySem.W PySem.Calls PyProof.Rows
namespace Mine

/-- around a frame, nothing held -/
abbrev arA (dp un : Nat) (gd : Option (List Code)) (fr : List Env) : Around := { handled := none, depth := dp, frames := some fr, guards := gd, units := un }

/-- the ground at a call: the written part, the top, the frames below -/
structure Gd (K : Frag) (p : Program) (loose : List Str) (mean : ExcName → Option Value) (mg mb : Str → Option Value) (base : Heap) (fr : List Env) (h : Heap) : Prop where
  stays : base.StaysIn h
  frames : h.FunFrames base fr
  kin : K.In h
  top : Top p loose mean mg mb h
  kbase : K.In base
  tbase : Top p loose mean mg mb base
  dicts : KtsDicts (fr.filterMap (·.frame)) h

theorem dicts_push {h₀ h : Heap} {L : Addr} {m : Str → Option Value} {env : Env} {fr : List Env} (D : KtsDicts (fr.filterMap (·.frame)) h₀) (F : Fr h₀ L h m) (he : env.frame = some L) : KtsDicts ((env :: fr).filterMap (·.frame)) h := fun b hm => by
  obtain ⟨env', he', hf⟩ := List.mem_filterMap.mp hm
  rcases List.mem_cons.mp he' with rfl | he'
  · rw [he] at hf
    obtain rfl : L = b := Option.some.inj hf
    obtain ⟨o, es, ep, ho, hd, _⟩ := F.ns
    exact ⟨o, es, ep, ho, hd⟩
  · obtain ⟨o, es, n, ho, hd⟩ := D b (List.mem_filterMap.mpr ⟨env', he', hf⟩)
    exact ⟨o, es, n, F.keep _ _ ho, hd⟩

section
variable {prog : Program} {w : World} {K : Frag} {p : Program} {loose : List Str} {mean : ExcName → Option Value} {mg mb : Str → Option Value} {base : Heap} {fr : List Env}

theorem Gd.below {h : Heap} (G : Gd K p loose mean mg mb base fr h) (dp un : Nat) (gd : Option (List Code)) : Below (arA dp un gd fr) base fr h := ⟨rfl, G.stays, G.frames⟩

theorem enter0 {dp un : Nat} {gd : Option (List Code)} {s : Shared} {Q E : Value → Shared → Prop} {name qual : Str} {params : Arguments} {body : List Stmt} {scope : Scope} {dV kV doc pm cdv ct oc : Value} {an od : Option Addr} {osl : Array (Option Value)} {f : Addr} {args : List Value} {binds : List (Str × Value)}
    (G : Gd K p loose mean mg mb base fr s.heap)
    (ho : K.lookup f = some ⟨oc, od, .func (fnOf name qual params body scope dV kV doc pm an cdv ct), osl⟩) (hcd : codeIn K cdv qual = true) (hroom : dp < recursionLimit)
    (hbind : BindsTo s (fnOf name qual params body scope dV kV doc pm an cdv ct) ⟨args, []⟩ binds) (hloc : ∀ y ∈ binds, scope.names.lookup y.1 = some .local)
    (h : ∀ L' h₁ tk, Fr s.heap L' h₁ (fun y => binds.reverse.lookup y) →
      wpAny (model prog w) (arA (dp + 1) (un + 3) gd (envOf qual scope L' f cdv :: fr)) (execs body (envOf qual scope L' f cdv))
        (fun fl s' => Q (match fl with | .ret v => v | _ => .none) s')
        (fun e s' => wpAny (model prog w) (arA (dp + 1) (un + 3) gd (envOf qual scope L' f cdv :: fr)) (leaving (envOf qual scope L' f cdv) e) (fun _ s'' => E e s'') (fun e' s'' => E e' s'') s')
        { s with heap := h₁, toks := tk })
    (hco : scope.isCoroutine = false) (hgen : scope.isGenerator = false) (hk : scope.kind = .function) (hcell : ∀ x ∈ scope.names, x.2 ≠ .cell) :
    wpAny (model prog w) (arA dp un gd fr) (call (.ref f) args) Q E s := by
  refine wpAny_call ?_
  refine codeAny_call_def (fd := fnOf name qual params body scope dV kV doc pm an cdv ct) (body := body) (binds := binds) hroom (G.kin _ _ ho) rfl G.top.nolimit (codeRec_of G.kin hcd) rfl hbind hcell hloc (fun h₁ hns hk₁ => ?_) hco hgen hk
  exact h s.heap.objs.size h₁ _ ⟨hns, hk₁, Nat.le_refl _⟩

theorem Gd.push {h₀ h : Heap} {L a : Addr} {m : Str → Option Value} {name : Str} {scope : Scope} {cd : Value} (G : Gd K p loose mean mg mb base fr h₀) (F : Fr h₀ L h m) (hk : scope.kind = .function) :
    Gd K p loose mean mg mb base (envOf name scope L a cd :: fr) h :=
  let B := (G.below 0 0 none).push (name := name) (a := a) (cd := cd) F hk
  ⟨B.stays, B.frames, G.kin.keeps F.keep, G.top.keeps F.keep, G.kbase, G.tbase, dicts_push G.dicts F rfl⟩

theorem fr_on {h₀ h h' : Heap} {L : Addr} {m : Str → Option Value} (F : Fr h₀ L h m) (k : h.StaysIn h') : Fr h₀ L h' m :=
  ⟨F.ns.at' fun o e => k _ o e, fun b o e => k b o (F.keep b o e), F.above⟩
theorem news_on {h₀ h h' : Heap} {L : Addr} {news : List (Addr × Obj)} (N : News h₀ L h news) (k : h.StaysIn h') : News h₀ L h' news :=
  fun q hq => ⟨k _ _ (N q hq).1, (N q hq).2⟩
theorem news_more {h₀ h h' : Heap} {L : Addr} {m : Str → Option Value} {news : List (Addr × Obj)} (F : Fr h₀ L h m) (N : News h₀ L h news) (k : h.StaysIn h') {r : Addr} {o : Obj} (hn : h.get? r = none) (ho : h'.get? r = some o) :
    News h₀ L h' ((r, o) :: news) := fun q hq => by
  rcases List.mem_cons.mp hq with rfl | hq
  · refine ⟨ho, ?_, ?_⟩
    · rintro rfl
      obtain ⟨oL, _, _, e, _⟩ := F.ns
      rw [hn] at e; cases e
    · cases q : h₀.get? r with
      | none => rfl
      | some o' => have := F.keep r o' q; rw [hn] at this; cases this
  · exact news_on N k q hq
theorem news_ne {h₀ h : Heap} {L : Addr} {news : List (Addr × Obj)} (N : News h₀ L h news) {r : Addr} (hn : h.get? r = none) : ∀ q ∈ news, q.1 ≠ r := fun q hq e => by
  have := (N q hq).1
  rw [e, hn] at this; cases this
end
end Mine
namespace Mine
section
variable {M : Model} {A : Around} {E : Value → Shared → Prop} {s : Shared} {env : Env} {Q : Flow → Shared → Prop}
theorem hide1 {a : Stmt} {rest : List Stmt} (h : ∀ r, r = rest → wpAny M A (execs (a :: r) env) Q E s) : wpAny M A (execs (a :: rest) env) Q E s := h rest rfl
theorem hide3 {a b c : Stmt} {rest : List Stmt} (h : ∀ r, r = rest → wpAny M A (execs (a :: b :: c :: r) env) Q E s) : wpAny M A (execs (a :: b :: c :: rest) env) Q E s := h rest rfl
end
section
variable {s : Shared} {Q : Value → Shared → Prop} {h' : Heap} {tk' : Nat}
theorem ret_val {v v' : Value} (ret : ∀ h' tk', s.heap.StaysIn h' → Q v { s with heap := h', toks := tk' }) (e : v' = v) (k : s.heap.StaysIn h') : Q v' { s with heap := h', toks := tk' } := e ▸ ret h' tk' k
end
end Mine
namespace Mine
/-- a turn's end: what the loop keeps, and the iterator's own objects -/
def TEnd (h₀ : Heap) (L : Addr) (P : (Str → Option Value) → List (Addr × Obj) → Prop) (own : List (Addr × Obj)) (adr : List Addr) (s₁ s₂ : Shared) : Prop := InvEndN h₀ L P own adr s₁ s₂
def TPost (h₀ : Heap) (L : Addr) (P : (Str → Option Value) → List (Addr × Obj) → Prop) (own : List (Addr × Obj)) (adr : List Addr) (s₁ : Shared) (Q : Flow → Shared → Prop) (f : Flow) (s₂ : Shared) : Prop :=
  match f with
  | .ret v => Q (.ret v) s₂
  | .brk => Q .next s₂
  | _ => TEnd h₀ L P own adr s₁ s₂
section
variable {prog : Program} {w : World} {A : Around} {E : Value → Shared → Prop} {s : Shared} {h₀ : Heap} {name : Str} {scope : Scope} {L a : Addr} {cd : Value} {m₀ : Str → Option Value} {news : List (Addr × Obj)} {x : Str} {px pos : Pos} {body : List Stmt} {Q : Flow → Shared → Prop}

theorem tpost_of {P : (Str → Option Value) → List (Addr × Obj) → Prop} {own : List (Addr × Obj)} {adr : List Addr} {s₁ : Shared} (f : Flow) (s₂ : Shared) (h : TPost h₀ L P own adr s₁ Q f s₂) : InvPostN h₀ L P own adr s₁ Q f s₂ := by
  cases f <;> exact h
theorem TEnd.intro {P : (Str → Option Value) → List (Addr × Obj) → Prop} {m' : Str → Option Value} {own news' nx : List (Addr × Obj)} {adr : List Addr} {s₁ : Shared} {h' : Heap} {tk : Nat} (F : Fr h₀ L h' m') (N : News h₀ L h' news')
    (hj : P m' nx) (ha : nx.map (·.1) = adr) (hn : ∀ p ∈ nx, p ∈ news') (ho : ∀ p ∈ own, p ∈ news') : TEnd h₀ L P own adr s₁ { s₁ with heap := h', toks := tk } := InvEndN.intro F N hj ha hn ho

theorem for_list {y : Str} {py : Pos} {l : Addr} {vs : List Value} {ns : List Int} (J : Nat → (Str → Option Value) → List (Addr × Obj) → Prop)
    (hh : A.handled = none) (F : Fr h₀ L s.heap m₀) (N : News h₀ L s.heap news) (hy : m₀ y = some (.ref l)) (hl : h₀.IsList l vs.toArray) (hi : IntsAre vs ns) (hj : J 0 m₀ news)
    (turn : ∀ i n t m₁ news₁ h tk own, ns[i]? = some n → news₁.map (·.1) = news.map (·.1) → OwnOff own (news.map (·.1)) → J i m₁ news₁ → Fr h₀ L h (fun y => if y = x then some (.int n t) else m₁ y) → News h₀ L h (news₁ ++ own) →
      wpAny (model prog w) A (execs body (envOf name scope L a cd)) (TPost h₀ L (J (i + 1)) own (news.map (·.1)) { s with heap := h, toks := tk } Q) E { s with heap := h, toks := tk })
    (done : ∀ m₁ news₁ h tk, J ns.length m₁ news₁ → Fr h₀ L h m₁ → News h₀ L h news₁ → Q .next { s with heap := h, toks := tk })
    (hx : scope.names.lookup x = some .local) (hy' : scope.names.lookup y = some .local) (hk : scope.kind = .function) (hd : (y == ("__debug__" : Str)) = false)
    (hE : PassesOwn (model prog w) A (envOf name scope L a cd) E) :
    wpAny (model prog w) A (exec (.For (.Name x px) (.Name y py) body [] pos) (envOf name scope L a cd)) Q E s := by
  refine For_invVF F hx (by show (scope.kind == .class || (scope.kind == .module && L != mainGlobals)) = false; rw [hk]; rfl) ?_ (fun _ => rfl) hE
  refine ld F hy ?_ hk hy' hd
  refine iter_invN J hh hl hi F N hj (fun i n t m₁ news₁ h tk own a b c d F' N' => ?_) done
  exact wpAny_mono (turn i n t m₁ news₁ h tk own a b c d F' N') (fun f s₂ q => tpost_of f s₂ q) fun _ _ e => e
end
end Mine
namespace Mine
def AllNe (d : Nat) : List (Addr × Obj) → Prop
  | [] => True
  | p :: r => (@Ne Nat p.1 d) ∧ AllNe d r
theorem allNe_of {d : Addr} : ∀ {l : List (Addr × Obj)}, (∀ p ∈ l, p.1 ≠ d) → AllNe d l
  | [], _ => trivial
  | p :: _, h => ⟨h p (.head _), allNe_of fun q hq => h q (.tail _ hq)⟩
section
variable {prog : Program} {w : World} {A : Around} {E : Value → Shared → Prop} {s : Shared} {h₀ : Heap} {L : Addr} {m : Str → Option Value} {news : List (Addr × Obj)} {Q : Value → Shared → Prop}
theorem lst_base {h : Heap} {l : Addr} {its : Array Value} (F : Fr h₀ L h m) (hl : h₀.IsList l its) : h.IsList l its := hl.at fun o e => F.keep l o e
theorem lst_led {h : Heap} {l : Addr} {its : Array Value} {n : Nat} (N : News h₀ L h news) (hm : (l, listOf its n) ∈ news) : h.IsList l its := ⟨_, (N _ hm).1, rfl, n, rfl⟩
/-- a new list of ints handed back -/
theorem ret_list {s : Shared} {Q : Value → Shared → Prop} {ns ms : List Int} {h' : Heap} {tk' : Nat} {D : Addr} {vs : List Value} {c : Nat} {L : Addr} {m : Str → Option Value} {news : List (Addr × Obj)}
    (ret : ∀ h' tk' D vs c, s.heap.StaysIn h' → s.heap.get? D = none → h'.get? D = some (listOf (List.toArray vs) c) → IntsAre vs ns → Q (.ref D) { s with heap := h', toks := tk' })
    (F : Fr s.heap L h' m) (N : News s.heap L h' news) (hm : (D, listOf vs.toArray c) ∈ news) (hi : IntsAre vs ms) (e : ms = ns) : Q (.ref D) { s with heap := h', toks := tk' } := by
  subst e
  exact ret h' tk' D vs c F.keep (N _ hm).2.2 (N _ hm).1 hi
end
end Mine
namespace Mine
section
variable {s : Shared} {Q : Value → Shared → Prop} {h' : Heap} {tk' : Nat}
theorem ret_int {x y : Int} {t : Tok} (ret : ∀ h' tk' t', s.heap.StaysIn h' → Q (.int x t') { s with heap := h', toks := tk' }) (e : y = x) (k : s.heap.StaysIn h') : Q (.int y t) { s with heap := h', toks := tk' } := e ▸ ret h' tk' t k
theorem ret_bool {x y : Bool} (ret : ∀ h' tk', s.heap.StaysIn h' → Q (.bool x) { s with heap := h', toks := tk' }) (e : y = x) (k : s.heap.StaysIn h') : Q (.bool y) { s with heap := h', toks := tk' } := e ▸ ret h' tk' k
end
end Mine
namespace Mine
/-- a place where the walk rests -/
def Stop (P : Prop) : Prop := P
theorem stop_of {P : Prop} (h : Stop P) : P := h
theorem go_on {P : Prop} (h : P) : Stop P := h
end Mine
namespace Mine
section
variable {prog : Program} {w : World} {K : Frag} {p : Program} {loose : List Str} {mean : ExcName → Option Value} {mg mb : Str → Option Value} {base : Heap} {fr : List Env}
end
end Mine
namespace Mine
section
variable {prog : Program} {w : World} {A : Around} {E : Value → Shared → Prop} {s : Shared} {h₀ : Heap} {env : Env} {L : Addr} {m₀ : Str → Option Value} {news : List (Addr × Obj)} {x : Str} {px pos : Pos} {body : List Stmt} {Q : Flow → Shared → Prop} {iter : Expr}

theorem for_range {n : Nat} {a₀ b₀ : Int} (J : Nat → (Str → Option Value) → List (Addr × Obj) → Prop) (hL : env.locals = L)
    (hh : A.handled = none) (F : Fr h₀ L s.heap m₀) (N : News h₀ L s.heap news) (hb : n = (b₀ - a₀).toNat) (ha : -1000000000 ≤ a₀ ∧ a₀ ≤ 1000000000 ∧ -1000000000 ≤ b₀ ∧ b₀ ≤ 1000000000)
    (hiter : ∀ Q' : Value → Shared → Prop, (∀ r h' tk t u v, IsRange h' r a₀ b₀ 1 t u v → Fr h₀ L h' m₀ → News h₀ L h' news → Q' (.ref r) { s with heap := h', toks := tk }) → wpAny (model prog w) A (eval iter env) Q' E s)
    (hj : J 0 m₀ news)
    (turn : ∀ i t m₁ news₁ h tk own, i < n → news₁.map (·.1) = news.map (·.1) → OwnOff own (news.map (·.1)) → J i m₁ news₁ → Fr h₀ L h (fun y => if y = x then some (.int (a₀ + (i : Int)) t) else m₁ y) → News h₀ L h (news₁ ++ own) →
      wpAny (model prog w) A (execs body env) (TPost h₀ L (J (i + 1)) own (news.map (·.1)) { s with heap := h, toks := tk } Q) E { s with heap := h, toks := tk })
    (done : ∀ m₁ news₁ h tk, J n m₁ news₁ → Fr h₀ L h m₁ → News h₀ L h news₁ → Q .next { s with heap := h, toks := tk })
    (hx : env.kindOf x = some .local) (hp : (env.scope.kind == .class || (env.scope.kind == .module && env.locals != env.globals)) = false) (hs : ∀ x, foldedSetIterable iter env x = pure x)
    (hE : PassesOwn (model prog w) A env E) :
    wpAny (model prog w) A (exec (.For (.Name x px) iter body [] pos) env) Q E s := by
  subst hL
  refine For_invVF F hx hp ?_ hs hE
  refine hiter _ fun r h₁ tk₁ t₁ u₁ v₁ hr F₁ N₁ => ?_
  refine wpAny_pyIter_range hr (small_one (by omega) (by omega) (by omega) (by omega)) ?_
  have hn : Builtin.Range.rangeSize a₀ b₀ 1 = (n : Int) := by rw [hb]; exact rangeSize_nat _ _
  have W : Walks prog w A h₁.objs.size [h₁.objs.size] [h₁.objs.size] n (fun i v => i < n ∧ ∃ t, v = .int (a₀ + i * 1) t)
      (fun i h => IsRangeIter h h₁.objs.size (a₀ + (i : Nat) * 1) ((n : Int) - (i : Nat)) 1) := (Walks.range hh _ a₀ 1 n).bound
  refine loop_invN (s := { s with heap := h₁.push _, toks := tk₁ }) J W ?_ ?_ ?_ ?_ (by show IsRangeIter _ _ _ _ _; rw [hn]; simpa using Heap.get?_push_size _ rfl) (F₁.push _) (fun p hp => ⟨Heap.get?_push_of_some _ (N₁ p hp).1, (N₁ p hp).2⟩) hj ?_ ?_
  · intro hm
    exact absurd F₁.ns.lt ((List.mem_singleton.mp hm) ▸ Nat.lt_irrefl _)
  · intro b hb
    rw [List.mem_singleton.mp hb]
    exact next_is_new F₁
  · intro p hp hI
    exact absurd (Heap.lt_size (N₁ p hp).1) ((List.mem_singleton.mp hI) ▸ Nat.lt_irrefl _)
  · intro p hp hI
    exact absurd (Heap.lt_size (N₁ p hp).1) ((List.mem_singleton.mp hI) ▸ Nat.lt_irrefl _)
  · rintro i v m₁ news₁ h tk own hi ⟨_, t, rfl⟩ hadr hoff hJ F' N'
    have e1 : a₀ + (i : Int) * 1 = a₀ + (i : Int) := by omega
    rw [e1] at F'
    exact wpAny_mono (turn i t m₁ news₁ h tk own hi hadr hoff hJ F' N') (fun f s₂ q => tpost_of f s₂ q) fun _ _ e => e
  · exact done
end
end Mine
namespace Mine
theorem fr_know {h₀ h : Heap} {L : Addr} {m : Str → Option Value} {v : Value} (x : Str) (F : Fr h₀ L h m) (e : m x = some v) : Fr h₀ L h (fun y => if y = x then some v else m y) := by
  have : (fun y => if y = x then some v else m y) = m := by
    funext y
    by_cases hy : y = x
    · rw [if_pos hy, hy, e]
    · rw [if_neg hy]
  rw [this]; exact F
end Mine
namespace Mine
def Cut (I : Shared → Prop) (f : Flow) (s : Shared) : Prop := f = .next ∧ I s
section
variable {M : Model} {A : Around} {E : Value → Shared → Prop} {s : Shared} {env : Env} {Q : Flow → Shared → Prop}
/-- a statement by what holds behind it -/
theorem cut {st : Stmt} {rest : List Stmt} (I : Shared → Prop) (h1 : wpAny M A (exec st env) (Cut I) E s) (h2 : ∀ s', I s' → wpAny M A (execs rest env) Q E s') : wpAny M A (execs (st :: rest) env) Q E s :=
  wpAny_execs_cons (wpAny_mono h1 (fun f s' h => by obtain ⟨rfl, h⟩ := h; exact h2 s' h) fun _ _ e => e)
end
/-- a list of signs under a name -/
def RowI (s₀ : Shared) (g : Heap) (L : Addr) (cs : List (Addr × Obj)) (x : Str) (n : Nat) (s' : Shared) : Prop :=
  ∃ h tk D vs cc rs m, s' = { s₀ with heap := h, toks := tk } ∧ Fr g L h m ∧ News g L h ((D, listOf (List.toArray vs) cc) :: cs) ∧ m x = some (.ref D) ∧ IntsAre vs rs ∧ (∀ y ∈ rs, y = 0 ∨ y = 1) ∧ rs.length = n
theorem RowI.of {s₀ : Shared} {g : Heap} {L : Addr} {cs news : List (Addr × Obj)} {x : Str} {n : Nat} {h : Heap} {tk : Nat} {D : Addr} {vs : List Value} {cc : Nat} {rs : List Int} {m : Str → Option Value} (F : Fr g L h m) (N : News g L h news) (hm : m x = some (.ref D)) (hD : (D, listOf (List.toArray vs) cc) ∈ news) (hc : ∀ p ∈ cs, p ∈ news)
    (hi : IntsAre vs rs) (hr : ∀ y ∈ rs, y = 0 ∨ y = 1) (hl : rs.length = n) : Cut (RowI s₀ g L cs x n) .next { s₀ with heap := h, toks := tk } :=
  ⟨rfl, h, tk, D, vs, cc, rs, m, rfl, F, fun p hp => by
    rcases List.mem_cons.mp hp with rfl | hp
    · exact N _ hD
    · exact N _ (hc p hp), hm, hi, hr, hl⟩
end Mine
namespace Mine
/-- a turn's end where the loop's own name alone was bound -/
def T0 (h₀ : Heap) (L : Addr) (x : Str) (m₀ : Str → Option Value) (led : List (Addr × Obj)) (s₁ s₂ : Shared) : Prop :=
  ∃ h' tk m', s₂ = { s₁ with heap := h', toks := tk } ∧ Fr h₀ L h' m' ∧ (∀ z, z ≠ x → m' z = m₀ z) ∧ News h₀ L h' led
theorem T0.intro {h₀ : Heap} {L : Addr} {x : Str} {m₀ m' : Str → Option Value} {led news' : List (Addr × Obj)} {s₁ : Shared} {h' : Heap} {tk : Nat} (F : Fr h₀ L h' m') (N : News h₀ L h' news') (hm : ∀ z, z ≠ x → m' z = m₀ z) (hs : ∀ p ∈ led, p ∈ news') : T0 h₀ L x m₀ led s₁ { s₁ with heap := h', toks := tk } :=
  ⟨h', tk, m', rfl, F, hm, fun p hp => N p (hs p hp)⟩
section
variable {prog : Program} {w : World} {A : Around} {E : Value → Shared → Prop} {s : Shared} {h₀ : Heap} {env : Env} {L : Addr} {m₀ : Str → Option Value} {news : List (Addr × Obj)} {x : Str} {px pos : Pos} {body : List Stmt} {Q : Flow → Shared → Prop} {iter : Expr}
end
end Mine

end

section
open PySem PySem.W PySem.Calls PyProof.Rows PyProof.V PySem.Spec PyProof.Rows.LCg
namespace Mine
section
variable {prog : Program} {w : World} {A : Around} {E : Value → Shared → Prop} {s₂ : Shared} {env : Env}

/-- a list comprehension over one name, its elements reckoned without a trace -/
theorem comp_one {elt iter : PySem.Expr} {a : Str} {pa : Pos} {scope : Scope} {cl : List (Str × Addr)} {pos : Pos} {I : Addr} {fp wr : List Addr} {n : Nat} {Pt : Nat → Value → Prop} {St : Nat → Heap → Prop}
    {RR : Value → Addr → Result → Shared → Prop} (P : Nat → Value → Prop)
    (hh : A.handled = none) (W : Walks prog w A I fp wr n Pt St) (hst : St 0 s₂.heap) (hfp : ∀ c ∈ fp, c < s₂.heap.objs.size) (hn : n ≤ sizeLine)
    (hcell : ∀ y ∈ scope.names, y.2 ≠ .cell) (hkind : scope.kind = .function) (hxa : scope.names.lookup a = some .local)
    (elt_ok : ∀ i x C h tk m₂ (E' : Value → Shared → Prop), i < n → Pt i x → s₂.heap.objs.size ≤ C → h.Ns C m₂ → m₂ a = some x → (∀ c o, c ∉ wr → s₂.heap.get? c = some o → h.get? c = some o) →
      wpAny (model prog w) A (eval elt (compEnvC scope cl C env)) (fun v s' => P i v ∧ ∃ h' tk', s' = { s₂ with heap := h', toks := tk' } ∧ h.StaysIn h') E' { s₂ with heap := h, toks := tk })
    (hRR : ∀ D C h tk m' ys, ys.length = n → (∀ i v, ys[i]? = some v → P i v) → s₂.heap.objs.size ≤ D → s₂.heap.objs.size ≤ C → C ≠ D → h.get? D = some (lst ys) → h.Ns C m' → (∀ c o, c ∉ wr → s₂.heap.get? c = some o → h.get? c = some o) → RR (.ref D) C (.ok .next) { s₂ with heap := h, toks := tk }) :
    wpAny (model prog w) A (newList []) (fun acc s₃ => wpAny (model prog w) A (newFunctionEnv scope env.globals cl [] env.qual none .none (some env)) (fun cenv s₄ =>
      codeAny (model prog w) A (.compStart (.ListComp elt [⟨.Name a pa, iter, [], 0⟩] scope pos) 0 (.ref I) acc { cenv with scope := relabel scope env }) (RR acc cenv.locals) s₄) E s₃) E s₂ := by
  refine wpAny_newObj_type (wpAny_newFunctionEnv hcell (by intro y hy; simp at hy) (fun h₁ hns₁ hsb₁ => ?_) hkind)
  dsimp only at hns₁ hsb₁ ⊢
  generalize hH2 : s₂.heap.push { cls := .type "list", dict := none, data := .seq ([] : List Value).toArray } = H2 at hns₁ hsb₁ ⊢
  have hC : H2.objs.size = s₂.heap.objs.size + 1 := by rw [← hH2, Heap.size_push]
  have hDC : s₂.heap.objs.size ≠ H2.objs.size := by rw [hC]; exact Nat.ne_of_lt (Nat.lt_succ_self _)
  have below : ∀ b, b < s₂.heap.objs.size → b ≠ H2.objs.size ∧ b ≠ s₂.heap.objs.size := fun b hb => ⟨by rw [hC]; exact Nat.ne_of_lt (Nat.lt_succ_of_lt hb), Nat.ne_of_lt hb⟩
  have old : ∀ b o, s₂.heap.get? b = some o → h₁.get? b = some o := fun b o e => hsb₁.extBut b o (below b (Heap.lt_size e)).1 (Heap.get?_push_of_some _ (hH2 ▸ Heap.get?_push_of_some _ e))
  have hacc : h₁.get? s₂.heap.objs.size = some (lst []) := hsb₁.extBut _ _ hDC (Heap.get?_push_of_some _ (hH2 ▸ Heap.get?_push_size _ rfl))
  have hst₁ : St 0 h₁ := W.frame _ _ _ hst fun b hb o e => old b o e
  have loop : ∀ s₃ : Shared, s₃ = { s₂ with heap := h₁, toks := s₂.toks + ([] : List (Str × Value)).length } →
      codeAny (model prog w) A (.compLoop (.ListComp elt [⟨.Name a pa, iter, [], 0⟩] scope pos) 0 (.ref I) (.ref s₂.heap.objs.size) (compEnvC scope cl H2.objs.size env))
        (RR (.ref s₂.heap.objs.size) H2.objs.size) s₃ := by
    rintro s₃ rfl
    refine codeAny_compLoop_list
      (fun k s' => ∃ h' tk i ys m', s' = { s₂ with heap := h', toks := tk } ∧ i ≤ n ∧ k = n + 1 - i ∧ ys.length = i ∧ St i h' ∧ h'.Ns H2.objs.size m' ∧ h'.get? s₂.heap.objs.size = some (lst ys) ∧
        (∀ c o, c ∉ wr → s₂.heap.get? c = some o → h'.get? c = some o) ∧ ∀ j v, ys[j]? = some v → P j v) ?_ (n + 1)
      ⟨h₁, _, 0, [], _, rfl, Nat.zero_le _, rfl, rfl, hst₁, hns₁, hacc, fun c o _ e => old c o e, fun j v e => by simp at e⟩
    rintro k s' ⟨h', tk, i, ys, m', rfl, hi, rfl, hyl, hst', hn', hD', hk', hP'⟩
    have wrfp : ∀ c, s₂.heap.objs.size ≤ c → c ∉ wr := fun c hc hm => absurd (hfp c (W.sub c hm)) (Nat.not_lt.mpr hc)
    have hDw := wrfp s₂.heap.objs.size (Nat.le_refl _)
    have hCw := wrfp H2.objs.size (by rw [hC]; exact Nat.le_succ _)
    by_cases hlt : i < n
    · refine W.item i _ _ _ hlt hst' fun x h₃ tk₂ hPt' hst₃ up₃ => ?_
      refine wpAny_assign_Name (wpAny_storeName_local (lookup_relabel_local hxa) (hn'.at' fun o e => up₃ _ o hCw e) (fun h₄ hn₄ hs₄' => ?_) (by simp [compEnvC, relabel, hkind]))
      have hs₄ : ∀ c o, c ≠ H2.objs.size → h₃.get? c = some o → h₄.get? c = some o := fun c o hc e => hs₄'.extBut c o hc e
      have hst₄ : St (i + 1) h₄ := W.frame _ _ _ hst₃ fun c hc o e => hs₄ c o (below c (hfp c hc)).1 e
      have up₄ : ∀ c o, c ∉ wr → s₂.heap.get? c = some o → h₄.get? c = some o := fun c o hc e => hs₄ c o (below c (Heap.lt_size e)).1 (up₃ c o hc (hk' c o hc e))
      have hD₄ : h₄.get? s₂.heap.objs.size = some (lst ys) := hs₄ _ _ hDC (up₃ _ _ hDw hD')
      refine wpAny_mono (elt_ok i x H2.objs.size h₄ _ _ _ hlt hPt' (by rw [hC]; exact Nat.le_succ _) hn₄ (by simp) up₄) (fun v s₅ h₅ => ?_) fun _ _ e => e
      obtain ⟨hPv, h₅, tk₅, rfl, st₅⟩ := h₅
      refine append_at (hsz := by show ys.toArray.size ≤ sizeLine; rw [List.size_toArray, hyl]; exact Nat.le_trans hi hn) (st₅ _ _ hD₄) fun h₆ hs₆ hD₆ => ?_
      refine ⟨n + 1 - (i + 1), by omega, h₆, tk₅, i + 1, ys ++ [v], _, rfl, hlt, rfl, by rw [List.length_append, List.length_singleton, hyl],
        W.frame _ _ _ hst₄ (fun c hc o e => hs₆.extBut _ _ (below c (hfp c hc)).2 (st₅ c o e)), (hn₄.at' fun o e => hs₆.extBut _ _ (Ne.symm hDC) (st₅ _ o e)), hD₆.trans (congrArg some (lst_snoc ys v)),
        fun c o hc e => hs₆.extBut _ _ (below c (Heap.lt_size e)).2 (st₅ _ _ (up₄ c o hc e)), fun j u e => ?_⟩
      by_cases hj : j < ys.length
      · rw [List.getElem?_append_left hj] at e; exact hP' j u e
      · rw [List.getElem?_append_right (Nat.not_lt.mp hj)] at e
        have hj0 : j - ys.length = 0 := by
          rcases Nat.eq_zero_or_pos (j - ys.length) with h | h
          · exact h
          · rw [List.getElem?_eq_none (by simp; omega)] at e; cases e
        rw [hj0] at e
        have hji : j = i := by omega
        have : u = v := by simpa using e.symm
        rw [hji, this]; exact hPv
    · have hin : i = n := Nat.le_antisymm hi (Nat.not_lt.mp hlt)
      subst hin
      refine W.done _ _ _ hst' fun h₂ tk₂ hk₂ => ?_
      exact hRR _ _ h₂ tk₂ _ ys hyl hP' (Nat.le_refl _) (by rw [hC]; exact Nat.le_succ _) (Ne.symm hDC) (hk₂ _ _ hDw hD') (hn'.at' fun o e => hk₂ _ o hCw e) fun c o hc e => hk₂ c o hc (hk' c o hc e)
  exact codeAny_compStart_list (loop _ rfl) (W.self 0 _ _ _ (by exact hst₁) (loop _ rfl))

theorem get_none {h : Heap} {c : Addr} (hc : h.objs.size ≤ c) : h.get? c = none := by
  cases q : h.get? c with
  | none => rfl
  | some o => exact absurd (Heap.lt_size q) (Nat.not_lt.mpr hc)

/-- what a comprehension leaves: the new list on the ledger -/
theorem comp_fin {h₀ : Heap} {L : Addr} {m : Str → Option Value} {news : List (Addr × Obj)} {s : Shared} {h h'' : Heap} {D C : Addr} {ys : List Value} (F : Fr h₀ L s.heap m) (N : News h₀ L s.heap news) (hD : s.heap.objs.size ≤ D) (hC : s.heap.objs.size ≤ C) (hCD : C ≠ D)
    (hDl : h.get? D = some (lst ys)) (upS : ∀ c o, s.heap.get? c = some o → h.get? c = some o) (hs'' : Heap.SameBut C h h'') :
    Fr h₀ L h'' m ∧ News h₀ L h'' ((D, lst ys) :: news) ∧ ∀ p ∈ news, p.1 < D := by
  have upS' : ∀ c o, s.heap.get? c = some o → h''.get? c = some o := fun c o e => hs''.extBut c o (Nat.ne_of_lt (Nat.lt_of_lt_of_le (Heap.lt_size e) hC)) (upS c o e)
  refine ⟨⟨F.ns.at' fun o e => upS' _ o e, fun c o e => upS' c o (F.keep c o e), F.above⟩, fun q hq => ?_, fun q hq => Nat.lt_of_lt_of_le (Heap.lt_size (N q hq).1) hD⟩
  rcases List.mem_cons.mp hq with rfl | hq
  · refine ⟨hs''.extBut _ _ (Ne.symm hCD) hDl, ?_, ?_⟩
    · exact Nat.ne_of_gt (Nat.lt_of_lt_of_le F.ns.lt hD)
    · cases q : h₀.get? D with
      | none => rfl
      | some o => exact absurd (Heap.lt_size (F.keep _ _ q)) (Nat.not_lt.mpr hD)
  · exact ⟨upS' _ _ (N q hq).1, (N q hq).2⟩

theorem comp_list {h₀ : Heap} {L : Addr} {m : Str → Option Value} {news : List (Addr × Obj)} {s : Shared} {elt iter : PySem.Expr} {a : Str} {pa : Pos} {scope : Scope} {cl : List (Str × Addr)} {pos : Pos} {l : Addr} {vs : List Value} {Q : Value → Shared → Prop} (P : Nat → Value → Prop)
    (hh : A.handled = none) (F : Fr h₀ L s.heap m) (N : News h₀ L s.heap news) (ha : s.heap.IsList l vs.toArray) (hz : vs.length ≤ sizeLine)
    (hiter : ∀ Q' : Value → Shared → Prop, Q' (.ref l) s → wpAny (model prog w) A (eval iter env) Q' E s)
    (elt_ok : ∀ i x C h tk m₂ (E' : Value → Shared → Prop), vs[i]? = some x → s.heap.get? C = none → h.Ns C m₂ → m₂ a = some x → (∀ c o, s.heap.get? c = some o → h.get? c = some o) →
      wpAny (model prog w) A (eval elt (compEnvC scope cl C env)) (fun v s' => P i v ∧ ∃ h' tk', s' = { s with heap := h', toks := tk' } ∧ h.StaysIn h') E' { s with heap := h, toks := tk })
    (fin : ∀ D h' tk zs, Fr h₀ L h' m → News h₀ L h' ((D, lst zs) :: news) → (∀ p ∈ news, p.1 < D) → zs.length = vs.length → (∀ (i : Nat) v, zs[i]? = some v → P i v) → Q (.ref D) { s with heap := h', toks := tk })
    (hclos : closureFor scope env = pure cl) (hcell : ∀ y ∈ scope.names, y.2 ≠ .cell) (hkind : scope.kind = .function)
    (hnames : ∀ y ∈ scope.names, y.2 = .local → scope.names.lookup y.1 = some .local) (hxa : scope.names.lookup a = some .local)
    (hs : ∀ x, foldedSetIterable iter env x = pure x) :
    wpAny (model prog w) A (eval (.ListComp elt [⟨.Name a pa, iter, [], 0⟩] scope pos) env) Q E s := by
  rw [eval_ListComp]
  refine wpAny_comprehension_free (use := none) rfl hs hclos hkind hnames (hiter _ ?_)
  obtain ⟨o1, ho1, _⟩ := id ha
  have a1 := Heap.lt_size ho1
  refine wpAny_pyIter_list ha ?_
  have W := Walks.list (prog := prog) (w := w) (A := A) hh s.heap.objs.size l (Nat.ne_of_lt a1) vs.toArray
  have hk : ∀ c o, s.heap.get? c = some o → (s.heap.push { cls := .type "list_iterator", data := .fields #[.ref l, .int 0 0] }).get? c = some o := fun c o e => Heap.get?_push_of_some _ e
  have hsz : (s.heap.push { cls := .type "list_iterator", data := .fields #[.ref l, .int 0 0] }).objs.size = s.heap.objs.size + 1 := Heap.size_push ..
  have nw : ∀ c o, s.heap.get? c = some o → c ∉ [s.heap.objs.size] := fun c o e hm => Nat.lt_irrefl _ ((List.mem_singleton.mp hm) ▸ Heap.lt_size e)
  refine comp_one P hh W ⟨⟨_, Heap.get?_push_size _ rfl, rfl, rfl⟩, ha.at fun o e => hk l o e⟩ ?_ ?_ hcell hkind hxa ?_ ?_
  · intro c hc
    show c < (s.heap.push _).objs.size
    rw [hsz]
    simp only [List.mem_cons, List.not_mem_nil, or_false] at hc
    rcases hc with rfl | rfl
    · exact Nat.lt_succ_self _
    · exact Nat.lt_succ_of_lt a1
  · rw [List.size_toArray]; exact hz
  · intro i x C h tk m₂ E' hlt hx hCs hns hma hup
    exact elt_ok i x C h tk m₂ E' (by simpa using hx) (get_none (Nat.le_trans (Nat.le_succ _) (Nat.le_trans (Nat.le_of_eq hsz.symm) hCs))) hns hma fun c o e => hup c o (nw c o e) (hk c o e)
  · intro D C h tk m' ys hyl hP hD hC hCD hDl hns hup
    have hD' : s.heap.objs.size ≤ D := Nat.le_trans (Nat.le_succ _) (Nat.le_trans (Nat.le_of_eq hsz.symm) hD)
    have hC' : s.heap.objs.size ≤ C := Nat.le_trans (Nat.le_succ _) (Nat.le_trans (Nat.le_of_eq hsz.symm) hC)
    refine ⟨m', hns, fun h'' hs'' => ?_⟩
    obtain ⟨F'', N'', l''⟩ := comp_fin F N hD' hC' hCD hDl (fun c o e => hup c o (nw c o e) (hk c o e)) hs''
    exact fin D h'' tk ys F'' N'' l'' (by rw [hyl, List.size_toArray]) hP

end
theorem bools_true : ∀ {zs : List Value}, (∀ (i : Nat) v, zs[i]? = some v → v = Value.bool true) → LSm.BoolsAre zs (List.replicate zs.length true)
  | [], _ => .nil
  | z :: zs, h => by
    have : z = .bool true := h 0 z rfl
    subst this
    exact .cons true (bools_true fun i v e => h (i + 1) v (by simpa using e))
theorem all_true (n : Nat) : (List.replicate n true).all id = true := by simp

section
variable {prog : Program} {w : World} {A : Around} {E : Value → Shared → Prop} {s : Shared} {env : Env}
end
end Mine

end

section
open PySem PySem.W PySem.Calls PyProof.Rows PyProof.V PySem.Spec PyProof.Rows.LCg
namespace Mine
section
variable {prog : Program} {w : World} {A : Around} {E : Value → Shared → Prop} {s₂ : Shared} {env : Env}
end
end Mine

end

section
open PySem PySem.W PySem.Calls PyProof.Rows
namespace Mine
section
variable {prog : Program} {w : World} {A : Around} {E : Value → Shared → Prop} {s : Shared} {h₀ : Heap} {env : Env} {L : Addr} {m₀ : Str → Option Value} {news : List (Addr × Obj)} {a b : Str} {pa pb tp pos : Pos} {kk : Nat} {body : List Stmt} {Q : Flow → Shared → Prop} {iter : Expr}

end
end Mine

namespace Mine
open PyProof.Rows.LCg PyProof.Rows.LCt
section
variable {prog : Program} {w : World} {A : Around} {E : Value → Shared → Prop} {s : Shared} {h₀ : Heap} {env : Env} {L : Addr} {m : Str → Option Value} {news : List (Addr × Obj)}
end
end Mine

namespace Mine
section
variable {prog : Program} {w : World} {K : Frag} {p : Program} {loose : List Str} {mean : ExcName → Option Value} {mg mb : Str → Option Value} {base : Heap} {fr : List Env}
theorem Gd.pushC {h₀ h : Heap} {L a : Addr} {m : Str → Option Value} {name : Str} {scope : Scope} {cd : Value} (G : Gd K p loose mean mg mb base fr h₀) (F : Fr h₀ L h m) (hk : scope.kind = .function) :
    Gd K p loose mean mg mb base (envOfC name scope L a cd :: fr) h := by
  have hnew : base.get? L = none := by
    cases hq : base.get? L with
    | none => rfl
    | some o => exact absurd (Nat.lt_of_lt_of_le (Heap.lt_size (G.stays L o hq)) F.above) (Nat.lt_irrefl _)
  exact ⟨fun b o e => F.keep b o (G.stays b o e), .cons (by show scope.kind ≠ .module; rw [hk]; decide) rfl F.ns hnew (G.frames.of_keeps fun b o e _ => ⟨o, F.keep b o e, rfl⟩), G.kin.keeps F.keep, G.top.keeps F.keep, G.kbase, G.tbase, dicts_push G.dicts F rfl⟩
end
end Mine

end

section
open PySem PySem.W PySem.Calls PyProof.Rows
namespace Mine
abbrev frs (fr : List Env) : List Addr := fr.filterMap (·.frame)
/-- around a suite that handles an exception -/
abbrev arH (v : Value) (dp un : Nat) (gd : Option (List Code)) (fr : List Env) : Around := { handled := some v, depth := dp, frames := some fr, guards := gd, units := un }
section
variable {prog : Program} {w : World} {K : Frag} {p : Program} {loose : List Str} {mean : ExcName → Option Value} {mg mb : Str → Option Value} {base : Heap} {fr : List Env}

theorem Gd.turn {g g' : Heap} (G : Gd K p loose mean mg mb base fr g) (T : KtsTurn (frs fr) g g') : Gd K p loose mean mg mb base fr g' := by
  have st : base.StaysIn g' := fun b o e => T.other b o (G.stays b o e) fun hm => by
    rw [(G.frames.mem hm).1] at e; cases e
  refine ⟨st, G.frames.of_keeps fun b o e _ => ?_, G.kbase.keeps st, G.tbase.keeps st, G.kbase, G.tbase, G.dicts.turn T⟩
  obtain ⟨sl, hs⟩ := T.up e
  exact ⟨_, hs, rfl⟩

theorem frs_cons {L : Addr} {env : Env} (he : env.frame = some L) {b : Addr} (hm : b ∈ frs (env :: fr)) : b = L ∨ b ∈ frs fr := by
  obtain ⟨env', h1, h2⟩ := List.mem_filterMap.mp hm
  rcases List.mem_cons.mp h1 with rfl | h1
  · rw [he] at h2; exact .inl (Option.some.inj h2).symm
  · exact .inr (List.mem_filterMap.mpr ⟨env', h1, h2⟩)

/-- behind a call that has turned the frames' slots: the ground anew -/
theorem turn_call {g g₁ h h' : Heap} {L : Addr} {m : Str → Option Value} {news : List (Addr × Obj)} {env : Env} (G : Gd K p loose mean mg mb base fr g) (F : Fr g L h m) (N : News g L h news) (he : env.frame = some L)
    (T : KtsTurn (frs (env :: fr)) h g₁) (k : g₁.StaysIn h') : ∃ g', KtsTurn (frs fr) g g' ∧ Fr g' L h' m ∧ News g' L h' news := by
  have hLg : g.get? L = none := kts_self F
  obtain ⟨T', S⟩ := kts_turn_at (h := h') (fs := frs fr) (g := g)
    (fun b hb => by obtain ⟨_, o, ho, _⟩ := G.frames.mem hb; exact ⟨o, ho⟩)
    (fun b o e nm => k _ _ (T.other b o (F.keep b o e) fun hm => by
      rcases frs_cons he hm with z | z
      · rw [z, hLg] at e; cases e
      · exact nm z))
    (fun b o e hm => by obtain ⟨sl, hs⟩ := T.up (F.keep b o e); exact ⟨sl, k _ _ hs⟩)
  refine ⟨_, T', ⟨?_, S, by rw [T'.size]; exact F.above⟩, fun q hq => ⟨?_, (N q hq).2.1, T'.none_ _ (N q hq).2.2⟩⟩
  · obtain ⟨o, es, ep, ho, hd, r⟩ := F.ns
    obtain ⟨sl, hs⟩ := T.up ho
    exact ⟨_, es, ep, k _ _ hs, hd, r⟩
  · refine k _ _ (T.other _ _ (N q hq).1 fun hm => ?_)
    rcases frs_cons he hm with z | z
    · exact (N q hq).2.1 z
    · obtain ⟨_, o, ho, _⟩ := G.frames.mem z
      rw [(N q hq).2.2] at ho; cases ho

theorem list_turn {fs : List Addr} {g g' : Heap} {l : Addr} {its : Array Value} (T : KtsTurn fs g g') (hl : g.IsList l its) : g'.IsList l its := by
  obtain ⟨o, ho, hc, n, hd⟩ := hl
  obtain ⟨sl, hs⟩ := T.up ho
  exact ⟨_, hs, hc, n, hd⟩
theorem turn_nil {g g' : Heap} (T : KtsTurn [] g g') : g.StaysIn g' := fun b o e => T.other b o e (fun h => nomatch h)

section
variable {dp un : Nat} {gd : Option (List Code)} {s' : Shared} {g h : Heap} {L a e t : Addr} {m : Str → Option Value} {name : Str} {scope : Scope} {cd cls : Value} {vs : List Value} {news : List (Addr × Obj)}

theorem A_raise {M : Model} {E : Value → Shared → Prop} {Q : Unit → Shared → Prop} (G : Gd K p loose mean mg mb base fr g) (hx : Heap.MadeExcOf h s'.heap e cls vs) (F : Fr g L h m)
    (hQ : ∀ h' t, RaisedS base g fr e cls t vs [] h' → g.UpToSlots h' → Q () { s' with heap := h' }) (hk : scope.kind = .function) :
    wpAny M (arA (dp + 1) (un + 3) gd (envOf name scope L a cd :: fr)) (leaving (envOf name scope L a cd) (.ref e)) Q E s' :=
  leave_raiseS (A := arA dp un gd fr) (G.below dp un gd) hx F News.nil (fun h' t R _ U => hQ h' t R U) hk

/-- the ledger is taken out of the ground, so that it comes through the catching -/
theorem raised_news {h' : Heap} (G : Gd K p loose mean mg mb base fr g) (F : Fr g L h m) (N : News g L h news) (R : RaisedS base h (envOf name scope L a cd :: fr) e cls t vs [] h') (U : h.UpToSlots h') :
    Fr g L (hideAll h (news.map (·.1))) m ∧ RaisedS base (hideAll h (news.map (·.1))) (envOf name scope L a cd :: fr) e cls t vs news h' ∧ (hideAll h (news.map (·.1))).UpToSlots h' := by
  have nm : ∀ b o, g.get? b = some o → b ∉ news.map (·.1) := fun b o e q => by
    obtain ⟨p, hp, rfl⟩ := List.mem_map.mp q
    rw [(N p hp).2.2] at e; cases e
  have nL : L ∉ news.map (·.1) := fun q => by
    obtain ⟨p, hp, e⟩ := List.mem_map.mp q
    exact (N p hp).2.1 e
  obtain ⟨oL, es, ep, hL, r⟩ := F.ns
  obtain ⟨⟨B, hB, hBG, _, hfl, hnew⟩, htup⟩ := R
  refine ⟨⟨⟨oL, es, ep, hideAll_get _ hL nL, r⟩, fun b o e => hideAll_get _ (F.keep b o e) (nm b o e), F.above⟩, ⟨⟨B, hB, fun b o e n => hBG b o (of_hideAll _ e) n, fun q hq => ⟨hBG _ _ (N q hq).1 fun hm => ?_, hideAll_none _ (List.mem_map_of_mem hq), fresh_of_stays G.stays (N q hq).2.2⟩, hfl, hnew⟩, htup⟩, fun b o e n => U b o (of_hideAll _ e) n⟩
  rcases kts_mem hm with z | z
  · exact (N q hq).2.1 z
  · obtain ⟨_, o, ho, _⟩ := G.frames.mem z
    rw [(N q hq).2.2] at ho; cases ho

variable {E : Value → Shared → Prop} {n : Str} {b₀ : Stmt} {suite : List Stmt} {pos : Pos} {rest hs : List ExceptHandler} {Q : Flow → Shared → Prop} {tt : Expr} {nn : Option Str} {body : List Stmt}

theorem A_look (G : Gd K p loose mean mg mb base fr g) (F : Fr g L h m) (N : News g L h news) (R : RaisedS base h (envOf name scope L a cd :: fr) e cls t vs [] s'.heap) (U : h.UpToSlots s'.heap)
    (k : ∀ h₂ h₃, Fr g L h₂ m → RaisedS base h₂ (envOf name scope L a cd :: fr) e cls t vs news h₃ → h₂.UpToSlots h₃ →
      wpAny (model prog w) (arA (dp + 1) (un + 3) gd (envOf name scope L a cd :: fr)) (handleBy (.ref e) (envOf name scope L a cd) hs) Q E { s' with heap := h₃ }) :
    wpAny (model prog w) (arA (dp + 1) (un + 3) gd (envOf name scope L a cd :: fr)) (noteFrame (.ref e) (envOf name scope L a cd))
      (fun _ s₂ => wpAny (model prog w) (arA (dp + 1) (un + 3) gd (envOf name scope L a cd :: fr)) (setFlight (.ref e) none) (fun _ s₃ =>
        wpAny (model prog w) (arA (dp + 1) (un + 3) gd (envOf name scope L a cd :: fr)) (handleBy (.ref e) (envOf name scope L a cd) hs) Q E s₃) E s₂) E s' := by
  obtain ⟨F', R', U'⟩ := raised_news G F N R U
  exact kts_lookS (A₀ := arA dp un gd fr) R' F' (G.below dp un gd) U' G.dicts fun h₃ R₃ U₃ => k _ h₃ F' R₃ U₃

theorem A_hitB (G : Gd K p loose mean mg mb base fr g) (F : Fr g L h m) (R : RaisedS base h (envOf name scope L a cd :: fr) e cls t vs news s'.heap) (U : h.UpToSlots s'.heap)
    (T : KtsTest prog w K p loose mg mb name scope L a cd cls tt true)
    (k : ∀ h' g' tk oe ot, KtsTurn (frs fr) g g' → Fr g' L h' (fun y => if y = n then some (.ref e) else m y) → News g' L h' ((e, oe) :: (t, ot) :: news) → oe.cls = cls → (∃ ws, oe.data = .fields ws) → Gd K p loose mean mg mb base fr g' →
      wpAny (model prog w) (arH (.ref e) (dp + 1) (un + 3) gd (envOf name scope L a cd :: fr)) (execs (b₀ :: suite) (envOf name scope L a cd))
        (fun f s₄ => wpAny (model prog w) (arA (dp + 1) (un + 3) gd (envOf name scope L a cd :: fr)) (do bindName (envOf name scope L a cd) n .none; unbindBehindTheSuite (envOf name scope L a cd) n pos) (fun _ s₅ => Q f s₅) E s₄)
        (AsSuiteRaised (model prog w) (arH (.ref e) (dp + 1) (un + 3) gd (envOf name scope L a cd :: fr)) (envOf name scope L a cd) n pos (notedBy (model prog w) (arH (.ref e) (dp + 1) (un + 3) gd (envOf name scope L a cd :: fr)) (envOf name scope L a cd) (cameBackBy (model prog w) (arA (dp + 1) (un + 3) gd (envOf name scope L a cd :: fr)) (envOf name scope L a cd) E)))
        { s' with heap := h', toks := tk })
    (hk : scope.kind = .function) (hlo : (envOf name scope L a cd).kindOf n = some .local) :
    wpAny (model prog w) (arA (dp + 1) (un + 3) gd (envOf name scope L a cd :: fr)) (handleBy (.ref e) (envOf name scope L a cd) (.ExceptHandler (some tt) (some n) (b₀ :: suite) pos :: rest)) Q E s' :=
  hit_SB (A₀ := arA dp un gd fr) R F (G.below dp un gd) U G.kbase G.tbase G.dicts KtsTurn.refl T (fun h' g' news₂ tk T' F' N₂ Gt N' _ _ _ _ => by
    obtain ⟨oe, ot, ws, nt, m1, m2, c1, d1, _⟩ := Gt
    refine k h' g' tk oe ot T' F' (fun q hq => ?_) c1 ⟨ws, d1⟩ (G.turn T')
    rcases List.mem_cons.mp hq with rfl | hq
    · exact N₂ _ m1
    · rcases List.mem_cons.mp hq with rfl | hq
      · exact N₂ _ m2
      · exact N' _ hq) hk hlo
end
end
end Mine
namespace Mine
theorem exc_type {M : Model} {g h : Heap} {L e : Addr} {oe : Obj} {news : List (Addr × Obj)} {cls : Value} (N : News g L h news) (hm : (e, oe) ∈ news) (hc : oe.cls = cls) : Looks M h (typeOf (.ref e)) cls := hc ▸ (Looks.ld (N _ hm).1).andThen .now
end Mine
namespace Mine
section
variable {K : Frag} {s : Shared} {v c t : Value} {E : Value → Shared → Prop} {A : Around}
theorem isi_nested2 {dep : Int} {tk : Tok} {Q : Fin → Shared → Prop} {M : Model} (X : K.In s.heap) (ht : Looks M s.heap (typeOf v) t) (e : kitCls K t c = some true) (h : Q (.done (.ret (.bool true))) s) :
    wpAny M A (Builtin.«isinstance.nested» ⟨[v, c, .int dep tk], []⟩) Q E s := by
  obtain ⟨hh, g, d, tt, os⟩ := s
  obtain ⟨L1, L2, L3'⟩ := kit_cls (M := M) X e
  have L3 : Looks M hh (isInstance v c) true := ht.andThen L3'
  unfold Builtin.«isinstance.nested»
  refine wpAny_bind (ht.at ?_)
  by_cases q : (t == c) = true
  · rw [if_pos q]
    exact wpAny_bind (wpAny_rule (wpAny_bind (wpAny_pure (wpAny_pure h))))
  · rw [if_neg q]
    refine wpAny_bind (L1.at ?_)
    rw [if_pos (by decide)]
    k_delta "plainIsInstance"
    repeat (first | simp only [Bool.not_true, Bool.false_eq_true, if_false, if_true] | lk)
    exact h
theorem isi_true {prog : Program} {w : World} {Q : Value → Shared → Prop} (X : K.In s.heap) (ht : ∀ M, Looks M s.heap (typeOf v) t) (e : kitCls K t c = some true) (hx : v ≠ .builtin "__main__.__loader__#opaque") (h : Q (.bool true) s) :
    wpAny (model prog w) A (call (.builtin "isinstance") [v, c]) Q E s :=
  call_isinstance (S := fun _ R s => (K.In s.heap ∧ ∀ M, Looks M s.heap (typeOf v) t) ∧ R (.ok (.ret (.bool true))) s) (fun _ _ _ _ _ hs => isinstance_outer (isi_nested2 hs.1.1 (hs.1.2 _) e hs.2) hx) ⟨⟨X, ht⟩, h⟩
theorem isi_exc {prog : Program} {w : World} {Q : Value → Shared → Prop} (X : K.In s.heap) (ht : ∀ M, Looks M s.heap (typeOf v) t) (e : exmOne K t c = some true) (hx : v ≠ .builtin "__main__.__loader__#opaque") (h : Q (.bool true) s) :
    wpAny (model prog w) A (call (.builtin "isinstance") [v, c]) Q E s := by
  refine isi_true X ht ?_ hx h
  unfold exmOne at e
  split at e
  · exact e
  · cases e
end
end Mine

end

section
open PySem PySem.W PySem.Calls PyProof.Rows
namespace Mine
/-! loops whose turns put new objects under the names -/
def GEnd (h₀ : Heap) (L : Addr) (P : (Str → Option Value) → List (Addr × Obj) → Prop) (own : List (Addr × Obj)) (s₁ s₂ : Shared) : Prop :=
  ∃ h' tk m' news' nx, s₂ = { s₁ with heap := h', toks := tk } ∧ Fr h₀ L h' m' ∧ News h₀ L h' news' ∧ (∀ p ∈ nx, p ∈ news') ∧ (∀ p ∈ own, p ∈ news') ∧ OwnOff own (nx.map (·.1)) ∧ P m' nx
def GPost (h₀ : Heap) (L : Addr) (P : (Str → Option Value) → List (Addr × Obj) → Prop) (own : List (Addr × Obj)) (s₁ : Shared) (Q : Flow → Shared → Prop) (f : Flow) (s₂ : Shared) : Prop :=
  match f with
  | .ret v => Q (.ret v) s₂
  | .brk => Q .next s₂
  | _ => GEnd h₀ L P own s₁ s₂
theorem GEnd.intro {h₀ : Heap} {L : Addr} {P : (Str → Option Value) → List (Addr × Obj) → Prop} {m' : Str → Option Value} {own news' nx : List (Addr × Obj)} {s₁ : Shared} {h' : Heap} {tk : Nat} (F : Fr h₀ L h' m') (N : News h₀ L h' news')
    (hj : P m' nx) (hn : ∀ p ∈ nx, p ∈ news') (ho : ∀ p ∈ own, p ∈ news') (hoff : OwnOff own (nx.map (·.1))) : GEnd h₀ L P own s₁ { s₁ with heap := h', toks := tk } := ⟨h', tk, m', news', nx, rfl, F, N, hn, ho, hoff, hj⟩
section
variable {prog : Program} {w : World} {A : Around} {E : Value → Shared → Prop} {s : Shared} {h₀ : Heap} {env : Env} {L : Addr} {m : Str → Option Value} {news : List (Addr × Obj)} {x : Str} {px pos : Pos} {body : List Stmt} {Q : Flow → Shared → Prop} {iter : Expr}

theorem gpost_step {J : (Str → Option Value) → List (Addr × Obj) → Prop} {own : List (Addr × Obj)} {wr : List Addr} {s₁ : Shared} (hcov : ∀ b ∈ wr, ∃ o, (b, o) ∈ own) (f : Flow) (s₂ : Shared) (h : GPost h₀ L J own s₁ Q f s₂) :
    LoopStepV h₀ L wr own J s₁ (fun v s' => Q (.ret v) s') (fun s' => Q .next s') f s₂ := by
  have fin : GEnd h₀ L J own s₁ s₂ → LoopStepU h₀ L wr own J s₁ .next s₂ := by
    rintro ⟨h', tk, m', news', nx, rfl, F, N, hn, ho, hoff, hJ⟩
    refine ⟨rfl, h', tk, m', nx, rfl, F, fun p hp => ?_, fun p hp hw => ?_, hJ⟩
    · rcases List.mem_append.mp hp with hp | hp
      · exact N p (ho p hp)
      · exact N p (hn p hp)
    · obtain ⟨o, hm⟩ := hcov _ hw
      exact hoff _ hm _ (List.mem_map_of_mem hp) rfl
  cases f with
  | ret v => exact h
  | brk => exact h
  | next => exact fin h
  | cont => exact fin h

theorem swap_news {h : Heap} {a b : List (Addr × Obj)} (N : News h₀ L h (a ++ b)) : News h₀ L h (b ++ a) := fun p hp => N p (by
  rcases List.mem_append.mp hp with h | h
  · exact List.mem_append_right _ h
  · exact List.mem_append_left _ h)

theorem for_rangeG {n : Nat} {a₀ b₀ : Int} (J : Nat → (Str → Option Value) → List (Addr × Obj) → Prop) (hL : env.locals = L)
    (hh : A.handled = none) (F : Fr h₀ L s.heap m) (N : News h₀ L s.heap news) (hb : n = (b₀ - a₀).toNat) (ha : -1000000000 ≤ a₀ ∧ a₀ ≤ 1000000000 ∧ -1000000000 ≤ b₀ ∧ b₀ ≤ 1000000000)
    (hiter : ∀ Q' : Value → Shared → Prop, (∀ r h' tk t u v, IsRange h' r a₀ b₀ 1 t u v → Fr h₀ L h' m → News h₀ L h' news → Q' (.ref r) { s with heap := h', toks := tk }) → wpAny (model prog w) A (eval iter env) Q' E s)
    (hj : J 0 m news)
    (turn : ∀ i t m₁ news₁ h tk own, i < n → OwnOff own (news₁.map (·.1)) → J i m₁ news₁ → Fr h₀ L h (fun y => if y = x then some (.int (a₀ + (i : Int)) t) else m₁ y) → News h₀ L h (news₁ ++ own) →
      wpAny (model prog w) A (execs body env) (GPost h₀ L (J (i + 1)) own { s with heap := h, toks := tk } Q) E { s with heap := h, toks := tk })
    (done : ∀ m₁ news₁ h tk, J n m₁ news₁ → Fr h₀ L h m₁ → News h₀ L h news₁ → Q .next { s with heap := h, toks := tk })
    (hx : env.kindOf x = some .local) (hp : (env.scope.kind == .class || (env.scope.kind == .module && env.locals != env.globals)) = false) (hs : ∀ x, foldedSetIterable iter env x = pure x)
    (hE : PassesOwn (model prog w) A env E) :
    wpAny (model prog w) A (exec (.For (.Name x px) iter body [] pos) env) Q E s := by
  subst hL
  refine For_turns F (hiter _ fun r h₁ tk₁ t₁ u₁ v₁ hr F₁ N₁ => ?_) hs hE
  refine wpAny_pyIter_range hr (small_one (by omega) (by omega) (by omega) (by omega)) ?_
  have hn : Builtin.Range.rangeSize a₀ b₀ 1 = (n : Int) := by rw [hb]; exact rangeSize_nat _ _
  have W : Walks prog w A h₁.objs.size [h₁.objs.size] [h₁.objs.size] n (fun i v => i < n ∧ ∃ t, v = .int (a₀ + i * 1) t)
      (fun i h => IsRangeIter h h₁.objs.size (a₀ + (i : Nat) * 1) ((n : Int) - (i : Nat)) 1) := (Walks.range hh _ a₀ 1 n).bound
  have hne : ∀ p ∈ news, p.1 ≠ h₁.objs.size := fun p hp e => absurd (Heap.lt_size (N₁ p hp).1) (e ▸ Nat.lt_irrefl _)
  have hnone : h₀.get? h₁.objs.size = none := next_is_new F₁
  refine ⟨_, _, _, _, _, _, _, m, news, J, rfl, KTurns.ofWalks W fun i v s Q E st q => wpAny_pure q, ?_, ?_, ?_, (by show IsRangeIter _ _ _ _ _; rw [hn]; simpa using Heap.get?_push_size _ rfl), F₁.push _, (fun p hp => ⟨Heap.get?_push_of_some _ (N₁ p hp).1, (N₁ p hp).2⟩), hj, ?_, ?_⟩
  · intro hm
    exact absurd F₁.ns.lt ((List.mem_singleton.mp hm) ▸ Nat.lt_irrefl _)
  · intro b hb
    rw [List.mem_singleton.mp hb]
    exact hnone
  · intro p hp hI
    exact hne p hp (List.mem_singleton.mp hI)
  · rintro i v m₁ news₁ h₂ tk₂ own hin ⟨_, t, rfl⟩ hJ hnw hown hget hcov hst F₂ N₂
    have e1 : a₀ + (i : Int) * 1 = a₀ + (i : Int) := by omega
    rw [e1]
    refine wpAny_assign_Name (wpAny_storeName_local hx F₂.ns (fun h₃ hn₃ hs₃ => ?_) hp)
    have F₃ := F₂.set hn₃ hs₃
    have N₃ := swap_news (N₂.set hs₃)
    have hI : ∃ o, h₂.get? h₁.objs.size = some o := ⟨_, hst⟩
    obtain ⟨oI, hoI⟩ := hI
    have hc : ∀ b ∈ [h₁.objs.size], ∃ o, (b, o) ∈ own := fun b hb => ⟨oI, (List.mem_singleton.mp hb) ▸ hcov _ (.head _) hnone _ hoI⟩
    refine wpAny_mono (turn i t m₁ news₁ h₃ _ own hin ?_ hJ F₃ N₃) (fun f s₂ q => gpost_step hc f s₂ q) fun _ _ e => e
    intro p hp c hc' e
    obtain ⟨q, hq, rfl⟩ := List.mem_map.mp hc'
    exact hnw q hq (e ▸ hown p hp)
  · rintro h' tk m' news' F' N' _ hJ
    exact done m' news' h' tk hJ F' N'

end
abbrev tupO (vs : List Value) : Obj := { cls := .type "tuple", data := .seq vs.toArray }
end Mine
namespace Mine
end Mine
namespace Mine
end Mine
namespace Mine
/-- a list of given ints under a name -/
def IntsI (s₀ : Shared) (g : Heap) (L : Addr) (x : Str) (ns : List Int) (s' : Shared) : Prop :=
  ∃ h tk D vs cc m, s' = { s₀ with heap := h, toks := tk } ∧ Fr g L h m ∧ News g L h [(D, listOf (List.toArray vs) cc)] ∧ m x = some (.ref D) ∧ IntsAre vs ns
theorem IntsI.of {s₀ : Shared} {g : Heap} {L : Addr} {news : List (Addr × Obj)} {x : Str} {h : Heap} {tk : Nat} {D : Addr} {vs : List Value} {cc : Nat} {rs ns : List Int} {m : Str → Option Value} (F : Fr g L h m) (N : News g L h news) (hm : m x = some (.ref D)) (hD : (D, listOf (List.toArray vs) cc) ∈ news)
    (hi : IntsAre vs rs) (e : rs = ns) : Cut (IntsI s₀ g L x ns) .next { s₀ with heap := h, toks := tk } :=
  ⟨rfl, h, tk, D, vs, cc, m, rfl, F, fun p hp => by rw [List.mem_singleton.mp hp]; exact N _ hD, hm, e ▸ hi⟩
end Mine
namespace Mine
end Mine
namespace Mine
theorem shift_val (v i : Nat) : Builtin.bitAnd ((v : Int).fdiv (2 ^ (0 + (i : Int)).toNat)) 1 = ((v >>> i % 2 : Nat) : Int) := by
  rw [show (0 + (i : Int)).toNat = i by omega, fdiv_pow]
  have h3 := kbt_maskF ((v >>> i : Nat) : Int) 1
  have h4 : ((2 : Int) ^ 1 - 1) = 1 := by decide
  have h5 : ((2 : Int) ^ 1) = 2 := by decide
  rw [h4, h5] at h3
  rw [h3, Int.fmod_eq_emod_of_nonneg _ (by decide)]
  omega
end Mine
namespace Mine
theorem ints_rev {vs : List Value} {ns : List Int} (h : IntsAre vs ns) : IntsAre vs.reverse ns.reverse := by
  induction h with
  | nil => exact .nil
  | cons n t h ih => rw [List.reverse_cons, List.reverse_cons]; exact ih.append (.cons _ _ .nil)
end Mine

end

section
open PySem PySem.W PySem.Calls PyProof.Rows
namespace Mine
section
variable {prog : Program} {w : World} {K : Frag} {p : Program} {loose : List Str} {mean : ExcName → Option Value} {mg mb : Str → Option Value} {base : Heap} {fr : List Env}
end
end Mine
namespace Mine
end Mine
namespace Mine
section
variable {pr : Params} {C x : Addr} {P : Nat} {ds : List Int}
end
end Mine
namespace Mine
section
variable {prog : Program} {w : World} {A : Around} {E : Value → Shared → Prop} {s : Shared} {K : Frag} {x C L : Addr} {h₀ : Heap} {m : Str → Option Value} {ox : Obj} {es : List DictEntry} {n : Nat} {sl : Array (Option Value)} {name : Str} {v : Value}
end
end Mine
namespace Mine
end Mine

end

section
open PySem PySem.W PySem.Calls PyProof.Rows
namespace Mine
section
variable {prog : Program} {w : World} {A : Around} {E : Value → Shared → Prop} {s : Shared} {h₀ : Heap} {env : Env} {m : Str → Option Value} {news : List (Addr × Obj)} {target iter : Expr} {pos : Pos} {body : List Stmt} {Q : Flow → Shared → Prop}
end
end Mine
namespace Mine
/-! a list of the caller's that a callee appends to: it is taken out of the ground -/
section
variable {prog : Program} {w : World} {K : Frag} {p : Program} {loose : List Str} {mean : ExcName → Option Value} {mg mb : Str → Option Value} {base : Heap} {fr : List Env}
end
/-! at the bottom no frame turns -/
end Mine
namespace Mine
/-! pairs of a found list and its copy -/
def PairIn (led : List (Addr × Obj)) (v : Value) : Prop := ∃ (T A B : Addr) (ws us : List Value) (c d : Nat) (ns : List Int), v = .ref T ∧ (T, tupO [.ref A, .ref B]) ∈ led ∧ (A, listOf ws.toArray c) ∈ led ∧ (B, listOf us.toArray d) ∈ led ∧ IntsAre ws ns ∧ IntsAre us ns ∧ ns.length ≤ 100000
def HeldIn (led : List (Addr × Obj)) (hv : List Value) : Prop := ∀ v ∈ hv, PairIn led v
theorem PairIn.sub {led led' : List (Addr × Obj)} {v : Value} (h : PairIn led v) (hs : ∀ p ∈ led, p ∈ led') : PairIn led' v := by
  obtain ⟨T, A, B, ws, us, c, d, ns, e, h1, h2, h3, h4⟩ := h
  exact ⟨T, A, B, ws, us, c, d, ns, e, hs _ h1, hs _ h2, hs _ h3, h4⟩
theorem HeldIn.sub {led led' : List (Addr × Obj)} {hv : List Value} (h : HeldIn led hv) (hs : ∀ p ∈ led, p ∈ led') : HeldIn led' hv := fun v hv' => (h v hv').sub hs
end Mine
namespace Mine
section
variable {prog : Program} {w : World} {A : Around} {E : Value → Shared → Prop} {s : Shared} {l : Addr} {vs : List Value} {ns : List Int} {k : Int} {t : Tok} {Q : Value → Shared → Prop}
end
end Mine
namespace Mine
end Mine
namespace Mine
end Mine
namespace Mine
end Mine
namespace Mine
end Mine
namespace Mine
end Mine

end

section
open PySem PySem.W PySem.Calls PyProof.Rows
namespace Mine
/-! texts -/
def Tx (cs : List Nat) : Str := ⟨cs.toArray⟩
theorem Tx_append (as bs : List Nat) : Tx as ++ Tx bs = Tx (as ++ bs) := by
  show (⟨as.toArray ++ bs.toArray⟩ : Str) = ⟨(as ++ bs).toArray⟩
  rw [List.append_toArray]
theorem Tx_length (cs : List Nat) : (Tx cs).length = cs.length := by show cs.toArray.size = _; simp
section
variable {prog : Program} {w : World} {A : Around} {E : Value → Shared → Prop} {s : Shared} {h₀ : Heap} {env : Env} {L : Addr} {m₀ : Str → Option Value} {news : List (Addr × Obj)} {x : Str} {px pos : Pos} {body : List Stmt} {Q : Flow → Shared → Prop} {iter : Expr}
/-- a loop over a text -/
theorem for_text {cs : List Nat} (J : Nat → (Str → Option Value) → List (Addr × Obj) → Prop) (hL : env.locals = L)
    (hh : A.handled = none) (F : Fr h₀ L s.heap m₀) (N : News h₀ L s.heap news)
    (hiter : ∀ Q' : Value → Shared → Prop, (∀ h' tk t, Fr h₀ L h' m₀ → News h₀ L h' news → Q' (.str (Tx cs) t) { s with heap := h', toks := tk }) → wpAny (model prog w) A (eval iter env) Q' E s)
    (hj : J 0 m₀ news)
    (turn : ∀ i c t m₁ news₁ h tk own, cs[i]? = some c → news₁.map (·.1) = news.map (·.1) → OwnOff own (news.map (·.1)) → J i m₁ news₁ → Fr h₀ L h (fun y => if y = x then some (.str ⟨#[c]⟩ t) else m₁ y) → News h₀ L h (news₁ ++ own) →
      wpAny (model prog w) A (execs body env) (TPost h₀ L (J (i + 1)) own (news.map (·.1)) { s with heap := h, toks := tk } Q) E { s with heap := h, toks := tk })
    (done : ∀ m₁ news₁ h tk, J cs.length m₁ news₁ → Fr h₀ L h m₁ → News h₀ L h news₁ → Q .next { s with heap := h, toks := tk })
    (hx : env.kindOf x = some .local) (hp : (env.scope.kind == .class || (env.scope.kind == .module && env.locals != env.globals)) = false) (hs : ∀ x, foldedSetIterable iter env x = pure x)
    (hE : PassesOwn (model prog w) A env E) :
    wpAny (model prog w) A (exec (.For (.Name x px) iter body [] pos) env) Q E s := by
  subst hL
  refine For_invVF F hx hp ?_ hs hE
  refine hiter _ fun h₁ tk₁ t₁ F₁ N₁ => ?_
  have hsz : (Tx cs).cps.size = cs.length := Tx_length cs
  have go : ∀ (T : String) (o : Obj), Walks prog w A h₁.objs.size [h₁.objs.size] [h₁.objs.size] (Tx cs).cps.size (SignAt (Tx cs)) (fun i h => h.IsStrIter h₁.objs.size T (Tx cs) t₁ i) →
      (h₁.push o).IsStrIter h₁.objs.size T (Tx cs) t₁ 0 → LoopAtV prog w A h₀ env x body Q E (.ref h₁.objs.size) { s with heap := h₁.push o, toks := tk₁ } := by
    intro T o W hst
    refine loop_invN (s := { s with heap := h₁.push o, toks := tk₁ }) J W ?_ ?_ ?_ ?_ hst (F₁.push _) (fun p hp => ⟨Heap.get?_push_of_some _ (N₁ p hp).1, (N₁ p hp).2⟩) hj ?_ ?_
    · intro hm
      exact absurd F₁.ns.lt ((List.mem_singleton.mp hm) ▸ Nat.lt_irrefl _)
    · intro b hb
      rw [List.mem_singleton.mp hb]
      exact next_is_new F₁
    · intro p hp hI
      exact absurd (Heap.lt_size (N₁ p hp).1) ((List.mem_singleton.mp hI) ▸ Nat.lt_irrefl _)
    · intro p hp hI
      exact absurd (Heap.lt_size (N₁ p hp).1) ((List.mem_singleton.mp hI) ▸ Nat.lt_irrefl _)
    · rintro i v m₁ news₁ h tk own hi ⟨c, t, hc, rfl⟩ hadr hoff hJ F' N'
      have hc' : cs[i]? = some c := by
        have h1 : cs.toArray[i]? = some c := hc
        rwa [List.getElem?_toArray] at h1
      exact wpAny_mono (turn i c t m₁ news₁ h tk own hc' hadr hoff hJ F' N') (fun f s₂ q => tpost_of f s₂ q) fun _ _ e => e
    · rw [hsz]; exact done
  cases ha : (Tx cs).cps.all (· < 128)
  · exact wpAny_pyIter_wide ha (go "str_iterator" _ (Walks.strWide hh _ _ t₁) ⟨_, Heap.get?_push_size _ rfl, rfl, rfl⟩)
  · exact wpAny_pyIter_ascii ha (go "str_ascii_iterator" _ (Walks.strAscii hh _ _ t₁) ⟨_, Heap.get?_push_size _ rfl, rfl, rfl⟩)
/-- for .. in range(a, b, c) -/
theorem for_rangeS {n : Nat} {a₀ b₀ c₀ : Int} (J : Nat → (Str → Option Value) → List (Addr × Obj) → Prop) (hL : env.locals = L)
    (hh : A.handled = none) (F : Fr h₀ L s.heap m₀) (N : News h₀ L s.heap news) (hn : Builtin.Range.rangeSize a₀ b₀ c₀ = (n : Int)) (hsm : Builtin.Range.small a₀ b₀ c₀ = true)
    (hiter : ∀ Q' : Value → Shared → Prop, (∀ r h' tk t u v, IsRange h' r a₀ b₀ c₀ t u v → Fr h₀ L h' m₀ → News h₀ L h' news → Q' (.ref r) { s with heap := h', toks := tk }) → wpAny (model prog w) A (eval iter env) Q' E s)
    (hj : J 0 m₀ news)
    (turn : ∀ i t m₁ news₁ h tk own, i < n → news₁.map (·.1) = news.map (·.1) → OwnOff own (news.map (·.1)) → J i m₁ news₁ → Fr h₀ L h (fun y => if y = x then some (.int (a₀ + (i : Int) * c₀) t) else m₁ y) → News h₀ L h (news₁ ++ own) →
      wpAny (model prog w) A (execs body env) (TPost h₀ L (J (i + 1)) own (news.map (·.1)) { s with heap := h, toks := tk } Q) E { s with heap := h, toks := tk })
    (done : ∀ m₁ news₁ h tk, J n m₁ news₁ → Fr h₀ L h m₁ → News h₀ L h news₁ → Q .next { s with heap := h, toks := tk })
    (hx : env.kindOf x = some .local) (hp : (env.scope.kind == .class || (env.scope.kind == .module && env.locals != env.globals)) = false) (hs : ∀ x, foldedSetIterable iter env x = pure x)
    (hE : PassesOwn (model prog w) A env E) :
    wpAny (model prog w) A (exec (.For (.Name x px) iter body [] pos) env) Q E s := by
  subst hL
  refine For_invVF F hx hp ?_ hs hE
  refine hiter _ fun r h₁ tk₁ t₁ u₁ v₁ hr F₁ N₁ => ?_
  refine wpAny_pyIter_range hr hsm ?_
  have W : Walks prog w A h₁.objs.size [h₁.objs.size] [h₁.objs.size] n (fun i v => i < n ∧ ∃ t, v = .int (a₀ + i * c₀) t)
      (fun i h => IsRangeIter h h₁.objs.size (a₀ + (i : Nat) * c₀) ((n : Int) - (i : Nat)) c₀) := (Walks.range hh _ a₀ c₀ n).bound
  refine loop_invN (s := { s with heap := h₁.push _, toks := tk₁ }) J W ?_ ?_ ?_ ?_ (by show IsRangeIter _ _ _ _ _; rw [hn]; simpa using Heap.get?_push_size _ rfl) (F₁.push _) (fun p hp => ⟨Heap.get?_push_of_some _ (N₁ p hp).1, (N₁ p hp).2⟩) hj ?_ ?_
  · intro hm
    exact absurd F₁.ns.lt ((List.mem_singleton.mp hm) ▸ Nat.lt_irrefl _)
  · intro b hb
    rw [List.mem_singleton.mp hb]
    exact next_is_new F₁
  · intro p hp hI
    exact absurd (Heap.lt_size (N₁ p hp).1) ((List.mem_singleton.mp hI) ▸ Nat.lt_irrefl _)
  · intro p hp hI
    exact absurd (Heap.lt_size (N₁ p hp).1) ((List.mem_singleton.mp hI) ▸ Nat.lt_irrefl _)
  · rintro i v m₁ news₁ h tk own hi ⟨_, t, rfl⟩ hadr hoff hJ F' N'
    exact wpAny_mono (turn i t m₁ news₁ h tk own hi hadr hoff hJ F' N') (fun f s₂ q => tpost_of f s₂ q) fun _ _ e => e
  · exact done
theorem size7 (k : Nat) : Builtin.Range.rangeSize 0 ((7 * k : Nat) : Int) 7 = (k : Int) := by
  unfold Builtin.Range.rangeSize
  rw [if_pos (by decide)]
  split <;> omega
theorem small7 {k : Nat} (h : k ≤ 1000000) : Builtin.Range.small 0 ((7 * k : Nat) : Int) 7 = true := by
  unfold Builtin.Range.small
  rw [size7]
  have hk : ((7 * k : Nat) : Int) ≤ 7000000 := by omega
  have hk0 : (0 : Int) ≤ ((7 * k : Nat) : Int) := by omega
  generalize ((7 * k : Nat) : Int) = z at *
  have hk1 : ((k : Nat) : Int) ≤ 1000000 := by omega
  have hk2 : (0 : Int) ≤ ((k : Nat) : Int) := by omega
  generalize ((k : Nat) : Int) = y at *
  simp only [Builtin.Range.rangeFitsLong, Bool.and_eq_true, Bool.or_eq_true, decide_eq_true_eq, beq_iff_eq, show (7 : Int) > 0 by decide, if_true]
  omega
/-- a turn's end, where the frames' slots may have changed -/
def XPost (fs : List Addr) (g : Heap) (L : Addr) (J : (Str → Option Value) → Prop) (own : List (Addr × Obj)) (s : Shared) (Q : Flow → Shared → Prop) (f : Flow) (s₂ : Shared) : Prop :=
  match f with
  | .ret v => Q (.ret v) s₂
  | .brk => Q .next s₂
  | _ => ∃ g' h' tk' m', s₂ = { s with heap := h', toks := tk' } ∧ KtsTurn fs g g' ∧ Fr g' L h' m' ∧ News g' L h' own ∧ J m'
/-- for .. in range(a, b), where the turns catch -/
theorem for_rangeX {fs : List Addr} {n : Nat} {a₀ b₀ : Int} (J : Nat → (Str → Option Value) → Prop) (hL : env.locals = L)
    (hh : A.handled = none) (F : Fr h₀ L s.heap m₀) (hb : n = (b₀ - a₀).toNat) (ha : -1000000000 ≤ a₀ ∧ a₀ ≤ 1000000000 ∧ -1000000000 ≤ b₀ ∧ b₀ ≤ 1000000000)
    (hiter : ∀ Q' : Value → Shared → Prop, (∀ r h' tk t u v, IsRange h' r a₀ b₀ 1 t u v → Fr h₀ L h' m₀ → Q' (.ref r) { s with heap := h', toks := tk }) → wpAny (model prog w) A (eval iter env) Q' E s)
    (hj : J 0 m₀)
    (turn : ∀ i t m₁ g h tk own, i < n → KtsTurn fs h₀ g → J i m₁ → Fr g L h (fun y => if y = x then some (.int (a₀ + (i : Int)) t) else m₁ y) → News g L h own →
      wpAny (model prog w) A (execs body env) (XPost fs g L (J (i + 1)) own { s with heap := h, toks := tk } Q) E { s with heap := h, toks := tk })
    (done : ∀ m₁ g h tk, J n m₁ → KtsTurn fs h₀ g → Fr g L h m₁ → Q .next { s with heap := h, toks := tk })
    (hx : env.kindOf x = some .local) (hp : (env.scope.kind == .class || (env.scope.kind == .module && env.locals != env.globals)) = false) (hs : ∀ x, foldedSetIterable iter env x = pure x)
    (hE : PassesOwn (model prog w) A env E) :
    wpAny (model prog w) A (exec (.For (.Name x px) iter body [] pos) env) Q E s := by
  subst hL
  refine wpAny_For (hiter _ fun r h₁ tk₁ t₁ u₁ v₁ hr F₁ => ?_) hs
  refine wpAny_pyIter_range hr (small_one (by omega) (by omega) (by omega) (by omega)) ?_
  have hn : Builtin.Range.rangeSize a₀ b₀ 1 = (n : Int) := by rw [hb]; exact rangeSize_nat _ _
  have hnew : h₀.get? h₁.objs.size = none := next_is_new F₁
  have hLI : env.locals ≠ h₁.objs.size := Nat.ne_of_lt F₁.ns.lt
  have W := KTurns.ofWalks (target := .Name x px) (Walks.range (prog := prog) (w := w) (A := A) hh h₁.objs.size a₀ 1 n) (fun i v s Q E st q => wpAny_pure q)
  refine codeAny_forLoop_any
    (fun k s' => ∃ g h' tk m' i, s' = { s with heap := h', toks := tk } ∧ KtsTurn fs h₀ g ∧ IsRangeIter h' h₁.objs.size (a₀ + (i : Nat) * 1) ((n : Int) - (i : Nat)) 1 ∧ Fr g env.locals h' m' ∧ J i m' ∧ i ≤ n ∧ k = n + 1 - i) ?_ (n + 1)
    ⟨h₀, _, _, m₀, 0, rfl, KtsTurn.refl, (by rw [hn]; simpa using Heap.get?_push_size _ rfl), F₁.push _, hj, Nat.zero_le _, rfl⟩
  rintro k s' ⟨g, h', tk, m', i, rfl, T, hst, F', hJ, hi, rfl⟩
  have next : ∀ h₂ : Heap, (∀ b o, b ∉ [h₁.objs.size] → h'.get? b = some o → h₂.get? b = some o) → Fr g env.locals h₂ m' := fun h₂ hk₂ =>
    ⟨F'.ns.at' fun o e => hk₂ _ o (fun hm => hLI (List.mem_singleton.mp hm)) e, fun b o e => hk₂ b o (fun hm => by
      have hb := T.none_ _ hnew
      rw [← List.mem_singleton.mp hm] at hb
      rw [hb] at e; cases e) (F'.keep b o e), F'.above⟩
  by_cases hlt : i < n
  · refine W.item i _ _ _ hlt hst fun v h₂ tk₂ hMd hk₂ => ?_
    refine W.go i v _ _ _ hMd fun h₃ hP hst₃ hk₃ => ?_
    obtain ⟨t, rfl⟩ := hP
    have F₃ := next h₃ fun b o hb e => hk₃ b o hb (hk₂ b o hb e)
    obtain ⟨oI, hoI⟩ : ∃ o, h₃.get? h₁.objs.size = some o := ⟨_, hst₃⟩
    refine wpAny_assign_Name (wpAny_storeName_local hx F₃.ns (fun h₄ hn₄ hs₄ => ?_) hp)
    have hI₄ : h₄.get? h₁.objs.size = some oI := (hs₄.2 _ (fun e => hLI e.symm)).trans hoI
    have N₄ : News g env.locals h₄ [(h₁.objs.size, oI)] := fun p hp => by
      rw [List.mem_singleton.mp hp]
      exact ⟨hI₄, fun e => hLI e.symm, T.none_ _ hnew⟩
    have e1 : a₀ + (i : Int) * 1 = a₀ + (i : Int) := by omega
    have F₄ := F₃.set hn₄ hs₄
    rw [e1] at F₄
    refine wpAny_mono (wpAny_passesOwn hE (turn i t m' g h₄ _ _ hlt T hJ F₄ N₄)) (fun f s₂ q => ?_) fun _ _ e => e
    have fin : (∃ g' h' tk' m', s₂ = { s with heap := h', toks := tk' } ∧ KtsTurn fs g g' ∧ Fr g' env.locals h' m' ∧ News g' env.locals h' [(h₁.objs.size, oI)] ∧ J (i + 1) m') → ∃ m, m < n + 1 - i ∧ ∃ g h' tk m' i, s₂ = { s with heap := h', toks := tk } ∧ KtsTurn fs h₀ g ∧ IsRangeIter h' h₁.objs.size (a₀ + (i : Nat) * 1) ((n : Int) - (i : Nat)) 1 ∧ Fr g env.locals h' m' ∧ J i m' ∧ i ≤ n ∧ m = n + 1 - i := by
      rintro ⟨g', h₅, tk₅, m₅, rfl, T₅, F₅, N₅, J₅⟩
      refine ⟨n + 1 - (i + 1), by omega, g', h₅, tk₅, m₅, i + 1, rfl, T.trans T₅, ?_, F₅, J₅, hlt, rfl⟩
      have h6 := (N₅ _ (.head _)).1
      have h7 : h₃.get? h₁.objs.size = some _ := hst₃
      rw [hoI] at h7
      rw [Option.some.inj h7] at h6
      exact h6
    cases f with
    | ret v => exact q
    | brk => exact q
    | next => exact fin q
    | cont => exact fin q
  · have hin : i = n := by omega
    subst hin
    refine W.done _ _ _ hst fun h₂ tk₂ hk₂ => wpAny_execs_nil ?_
    exact done m' g h₂ tk₂ hJ T (next h₂ hk₂)
end
section
variable {s : Shared} {Q : Value → Shared → Prop} {h' : Heap} {tk' : Nat}
theorem ret_str {x y : Str} {t : Tok} (ret : ∀ h' tk' t', s.heap.StaysIn h' → Q (.str x t') { s with heap := h', toks := tk' }) (e : y = x) (k : s.heap.StaysIn h') : Q (.str y t) { s with heap := h', toks := tk' } := e ▸ ret h' tk' t k
theorem ret_by {y : Str} {t : Tok} (ret : ∀ h' tk' t' c, s.heap.StaysIn h' → IsLet c → Q (.str ⟨#[c]⟩ t') { s with heap := h', toks := tk' }) (e : ∃ c, IsLet c ∧ y = ⟨#[c]⟩) (k : s.heap.StaysIn h') : Q (.str y t) { s with heap := h', toks := tk' } := by
  obtain ⟨c, hc, rfl⟩ := e
  exact ret h' tk' t c k hc
end
theorem lett_hi {x : Str} {n : Nat} (h1 : 37 < n) (h2 : n ≤ 126) (H : ∀ k : Fin 127, 37 < k.val → Txt.item x ((k.val : Int) - 32 - 1) = ⟨#[k.val]⟩) : Txt.item x ((n : Int) - 32 - 1) = ⟨#[n]⟩ := H ⟨n, by omega⟩ h1
theorem lett_lo {x : Str} {n : Nat} (h1 : 32 ≤ n) (h2 : n < 37) (H : ∀ k : Fin 37, 32 ≤ k.val → Txt.item x ((k.val : Int) - 32) = ⟨#[k.val]⟩) : Txt.item x ((n : Int) - 32) = ⟨#[n]⟩ := H ⟨n, h2⟩ h1
theorem lett_by {x : Str} {n : Int} (h0 : 0 ≤ n.fmod 94) (h1 : n.fmod 94 ≤ 93) (H : ∀ k : Fin 94, Txt.item x (k.val : Int) = ⟨#[if k.val < 5 then k.val + 32 else k.val + 33]⟩) : ∃ c, IsLet c ∧ Txt.item x (n.fmod 94) = ⟨#[c]⟩ := by
  obtain ⟨k, hk⟩ := Int.eq_ofNat_of_zero_le h0
  have hk' : k < 94 := by omega
  refine ⟨if k < 5 then k + 32 else k + 33, ?_, ?_⟩
  · unfold IsLet; split <;> omega
  · rw [hk]; exact H ⟨k, hk'⟩
theorem too_not {n : Nat} (h : n ≤ 100000) : ¬ Builtin.List.listTooLong n = true := by
  unfold Builtin.List.listTooLong
  rw [sizeLine_eq]
  simp
  omega
theorem strs_append : ∀ {us vs : List Value} {xs ys : List Str}, StrsAre us xs → StrsAre vs ys → StrsAre (us ++ vs) (xs ++ ys)
  | _, _, _, _, .nil, h => h
  | _, _, _, _, .cons y t h, h' => .cons y t (strs_append h h')
theorem strs_snoc {us : List Value} {xs : List Str} {x : Str} {t : Tok} (h : StrsAre us xs) : StrsAre (us ++ [.str x t]) (xs ++ [x]) := strs_append h (.cons _ _ .nil)
theorem join_letters : ∀ cs : List Nat, Str.join (Str.ofString "") (cs.map fun c => (⟨#[c]⟩ : Str)) = Tx cs
  | [] => rfl
  | [c] => rfl
  | c :: d :: r => by
    have ih := join_letters (d :: r)
    show (⟨#[c]⟩ : Str) ++ Str.ofString "" ++ Str.join (Str.ofString "") ((d :: r).map fun c => (⟨#[c]⟩ : Str)) = _
    rw [ih]
    show Tx [c] ++ Tx [] ++ Tx (d :: r) = _
    rw [Tx_append, Tx_append]; rfl
theorem letters_weight (cs : List Nat) : ((cs.map fun c => (⟨#[c]⟩ : Str)).map (·.length)).sum = cs.length := by
  induction cs with
  | nil => rfl
  | cons c r ih => simp only [List.map_cons, List.sum_cons, ih, List.length_cons]; show 1 + r.length = _; omega
theorem tuple_turn {fs : List Addr} {g g' : Heap} {l : Addr} {its : Array Value} (T : KtsTurn fs g g') (hl : g.IsTuple l its) : g'.IsTuple l its := by
  obtain ⟨o, ho, hc, n, hd⟩ := hl
  obtain ⟨sl, hs⟩ := T.up ho
  exact ⟨_, hs, hc, n, hd⟩
theorem tup_base {h₀ h : Heap} {L l : Addr} {m : Str → Option Value} {its : Array Value} (F : Fr h₀ L h m) (hl : h₀.IsTuple l its) : h.IsTuple l its := by
  obtain ⟨o, ho, r⟩ := hl
  exact ⟨o, F.keep _ _ ho, r⟩
theorem tup_led {g h : Heap} {L T : Addr} {news : List (Addr × Obj)} {its : Array Value} {c : Nat} (N : News g L h news) (hm : (T, ({ cls := .type "tuple", data := .seq its c } : Obj)) ∈ news) : h.IsTuple T its := ⟨_, (N _ hm).1, rfl, _, rfl⟩
theorem words_nv (i : Nat) : Tx (List.replicate i [110, 118]).flatten ++ Str.ofString "n" ++ Str.ofString "v" = Tx (List.replicate (i + 1) [110, 118]).flatten := by
  rw [show Str.ofString "n" = Tx [110] by decide +kernel, show Str.ofString "v" = Tx [118] by decide +kernel, Tx_append, Tx_append, List.replicate_succ', List.flatten_append, List.append_assoc]
  rfl
theorem take_text {cs : List Nat} {k : Nat} (h : k ≤ cs.length) : Txt.slice (Tx cs) none (some (k : Int)) = Tx (cs.take k) := by
  have e := eq_of_beq (slice_closes_toL (x := Tx cs) (j := (k : Int)) (by omega) (by rw [Tx_length]; omega))
  rw [e]
  simp [Tx]
theorem drop_text {cs : List Nat} {k : Nat} (h : k ≤ cs.length) : Txt.slice (Tx cs) (some (k : Int)) none = Tx (cs.drop k) := by
  have e := eq_of_beq (slice_closes_fromL (x := Tx cs) (i := (k : Int)) (b := (cs.length : Int)) (by omega) (by rw [Tx_length]; omega) (by rw [Tx_length]))
  rw [e]
  have h2 : (cs.drop k).take ((cs.length : Int) - (k : Int)).toNat = cs.drop k := List.take_of_length_le (by rw [List.length_drop]; omega)
  simp only [Tx, List.toList_toArray, Int.toNat_natCast, h2]
end Mine

end

section
open PySem PySem.W PySem.Calls PyProof.Rows
local macro_rules | `(tactic| walk_at "eval ListComp") => `(tactic| refine Mine.stop_of ?_)
local macro_rules | `(tactic| walk_at "call ref") => `(tactic| refine Mine.stop_of ?_)
local macro_rules | `(tactic| walk_at "exec For Name Name cons nil") => `(tactic| refine Mine.stop_of ?_)
local macro_rules | `(tactic| walk_at "exec For Name Call cons nil") => `(tactic| refine Mine.stop_of ?_)
local macro_rules | `(tactic| walk_at "exec For Name Attribute cons nil") => `(tactic| refine Mine.stop_of ?_)
local macro_rules | `(tactic| walk_at "exec For Name List cons nil") => `(tactic| refine Mine.stop_of ?_)
local macro_rules | `(tactic| walk_at "exec For Name Subscript cons nil") => `(tactic| refine Mine.stop_of ?_)
local macro_rules | `(tactic| walk_at "exec For Tuple Name cons nil") => `(tactic| refine Mine.stop_of ?_)
local macro_rules | `(tactic| walk_at "exec For Tuple Call cons nil") => `(tactic| refine Mine.stop_of ?_)
local macro_rules | `(tactic| walk_at "exec For Tuple Attribute cons nil") => `(tactic| refine Mine.stop_of ?_)
local macro_rules | `(tactic| walk_at "exec For Tuple List cons nil") => `(tactic| refine Mine.stop_of ?_)
local macro_rules | `(tactic| walk_at "exec For Tuple Subscript cons nil") => `(tactic| refine Mine.stop_of ?_)
local macro_rules | `(tactic| walk_at "exec For") => `(tactic| refine Mine.stop_of ?_)
local macro_rules | `(tactic| walk_at "exec While") => `(tactic| refine Mine.stop_of ?_)
local macro_rules | `(tactic| walk_at "exec While Compare cons nil") => `(tactic| refine Mine.stop_of ?_)
local macro_rules | `(tactic| walk_at "exec Try") => `(tactic| refine Mine.stop_of ?_)
local macro_rules | `(tactic| walk_at "leaving ref") => `(tactic| refine Mine.stop_of ?_)
local macro_rules | `(tactic| walk_at "noteFrame ref") => `(tactic| refine Mine.stop_of ?_)
local macro_rules | `(tactic| walk_at "handleBy ref") => `(tactic| refine Mine.stop_of ?_)
local macro_rules | `(tactic| walk_at "call type:zip") => `(tactic| refine Mine.stop_of ?_)
local macro_rules | `(tactic| walk_at "call type:enumerate") => `(tactic| refine Mine.stop_of ?_)
local macro_rules | `(tactic| walk_at "m:list") => `(tactic| first | exact Mine.lst_led (by assumption) (by k_mem) | exact Mine.lst_base (by assumption) (by assumption) | assumption)
local macro_rules | `(tactic| walk_at "m:len") => `(tactic| first | omega | (simp only [Mine.addOf_length]; omega))
local macro_rules | `(tactic| walk_at "m:row") => `(tactic| first | assumption | exact Mine.addOf_isRow _ _)
local macro_rules | `(tactic| walk_at "eval Call") => `(tactic| (k_dflt (refine Call_ ?_)))
local macro_rules | `(tactic| walk_at "eval Call Attribute") => `(tactic| (k_dflt (refine MethodCall_ ?_)))
local macro_rules | `(tactic| walk_at "execs cons Assign cons") => `(tactic| (refine wpAny_execs_cons ?_; try dsimp only))
local macro_rules | `(tactic| walk_at "exec Assign cons ListComp") => `(tactic| refine wpAny_Assign_Name ?_)
namespace Mine
section
variable {w : World} {mean : ExcName → Option Value} {mg mb : Str → Option Value} {base : Heap} {fr : List Env} {dp un : Nat} {gd : Option (List Code)} {s : Shared} {Q E : Value → Shared → Prop}

theorem c_is_sign {n : Int} {t : Tok} (G : Gd (hd04.heap_39 w.params) hd04.view_39 (looseW hd04.view_39 []) mean mg mb base fr s.heap) (hd : dp + 1 < recursionLimit) (hu : un + 110 < cLine)
    
    (ret : ∀ h' tk', s.heap.StaysIn h' → Q (.bool (decide (0 ≤ n) && decide (n ≤ 1))) { s with heap := h', toks := tk' }) :
    wpAny (model PySem.Challenge.rw_uf040037_04.row.prog w) (arA dp un gd fr) (call (.ref 58) [.int n t]) Q E s := by
  revert G; k_fill; intro G
  refine' enter0 (binds := [(Str.ofString "sign", .int n t)]) G ?k6 ?k7 ?k8 ?k9 ?kB ?_ ?c2 ?c3 ?c4 ?c5
  case k6 => k_is
  case k7 => k_is
  case k8 => omega
  case k9 => exact BindsTo.of_eq rfl
  case kB => exact locs rfl
  case c2 => exact rfl
  case c3 => exact rfl
  case c4 => exact rfl
  case c5 => decide
  intro L' h' tk F'
  have N' : News s.heap L' h' [] := News.nil
  have B' := G.below dp un gd
  have X' := G.kin
  have T' := G.top
  k_steps
  · refine ret_val (s := s) (Q := Q) ret ?_ F'.keep; simp [*]
  · refine ret_val (s := s) (Q := Q) ret ?_ F'.keep; simp [*]

theorem c_need_row {l : Addr} {vs : List Value} {ns : List Int} (G : Gd (hd04.heap_39 w.params) hd04.view_39 (looseW hd04.view_39 []) mean mg mb base fr s.heap) (hd : dp + 2 < recursionLimit) (hu : un + 120 < cLine)
    (hl : s.heap.IsList l vs.toArray) (hi : IntsAre vs ns) (hr : IsRow ns)
    (ret : ∀ h' tk', s.heap.StaysIn h' → Q (.none) { s with heap := h', toks := tk' }) :
    wpAny (model PySem.Challenge.rw_uf040037_04.row.prog w) (arA dp un gd fr) (call (.ref 65) [.ref l]) Q E s := by
  revert G; k_fill; intro G
  refine' enter0 (binds := [(Str.ofString "row", .ref l)]) G ?k6 ?k7 ?k8 ?k9 ?kB ?_ ?c2 ?c3 ?c4 ?c5
  case k6 => k_is
  case k7 => k_is
  case k8 => omega
  case k9 => exact BindsTo.of_eq rfl
  case kB => exact locs rfl
  case c2 => exact rfl
  case c3 => exact rfl
  case c4 => exact rfl
  case c5 => decide
  intro L' h' tk F'
  have N' : News s.heap L' h' [] := News.nil
  have B' := G.below dp un gd
  have X' := G.kin
  have T' := G.top
  k_steps
  refine go_on (for_list (fun _ _ _ => True) rfl F' N' rfl hl hi trivial ?_ ?_ rfl rfl rfl (by decide) (by passes_own))
  · intro i n t m₁ news₁ h₂ tk₂ own hn hm ho _ F₂ N₂
    clear F' N'
    obtain rfl : news₁ = [] := List.map_eq_nil_iff.mp hm
    have hx := hr n (List.mem_of_getElem? hn)
    k_steps
    refine go_on (c_is_sign (G.push F₂ rfl) (by omega) (by omega) fun h₃ tk₃ k₃ => ?_)
    have F₃ := fr_on F₂ k₃
    have N₃ := news_on N₂ k₃
    clear F₂ N₂
    k_steps
    exact TEnd.intro (nx := []) F₃ N₃ trivial rfl (by simp) (by simp)
  · intro m₁ news₁ h₂ tk₂ _ F₂ N₂
    exact wpAny_execs_nil (ret _ _ F₂.keep)

local macro_rules | `(tactic| walk_at "call ref") => `(tactic| (k_dflt (
  (rename Fr _ _ _ _ => fF'); (rename News _ _ _ _ => fN');
  (first | refine' Mine.c_need_row (Mine.Gd.push (by assumption) fF' ?kk) ?hd ?hu ?hl ?hi ?hr ?_ | refine' Mine.c_need_row (Mine.Gd.pushC (by assumption) fF' ?kk) ?hd ?hu ?hl ?hi ?hr ?_); ((case kk => exact rfl); (case hd => omega); (case hu => omega); (case hl => walk_at "m:list"); (case hi => assumption); (case hr => assumption); skip);
  intro h' tk' k'; (have F' := Mine.fr_on fF' k'); (have N' := Mine.news_on fN' k'); clear fF' fN' k'; (try dsimp only))))

theorem c_value_of {l : Addr} {vs : List Value} {ns : List Int} (G : Gd (hd04.heap_39 w.params) hd04.view_39 (looseW hd04.view_39 []) mean mg mb base fr s.heap) (hd : dp + 1 < recursionLimit) (hu : un + 110 < cLine)
    (hl : s.heap.IsList l vs.toArray) (hi : IntsAre vs ns) (hr : IsRow ns)
    (ret : ∀ h' tk' t', s.heap.StaysIn h' → Q (.int ((val ns : Int)) t') { s with heap := h', toks := tk' }) :
    wpAny (model PySem.Challenge.rw_uf040037_04.row.prog w) (arA dp un gd fr) (call (.ref 72) [.ref l]) Q E s := by
  revert G; k_fill; intro G
  refine' enter0 (binds := [(Str.ofString "row", .ref l)]) G ?k6 ?k7 ?k8 ?k9 ?kB ?_ ?c2 ?c3 ?c4 ?c5
  case k6 => k_is
  case k7 => k_is
  case k8 => omega
  case k9 => exact BindsTo.of_eq rfl
  case kB => exact locs rfl
  case c2 => exact rfl
  case c3 => exact rfl
  case c4 => exact rfl
  case c5 => decide
  intro L' h' tk F'
  have N' : News s.heap L' h' [] := News.nil
  have B' := G.below dp un gd
  have X' := G.kin
  have T' := G.top
  k_steps
  rename Fr _ _ _ _ => F₉
  rename News _ _ _ _ => N₉
  refine go_on (for_list (L := L') (fun i m nx => nx = [] ∧ ∃ z t, m (Str.ofString "found") = some (.int z t) ∧ z = (val (ns.take i) : Int)) rfl F₉ N₉ rfl hl hi ⟨rfl, _, _, rfl, by simp [val_nil]⟩ ?_ ?_ rfl rfl rfl (by decide) (by passes_own))
  · rintro i n t m₁ news₁ h₂ tk₂ own hn hm ho ⟨rfl, z, tz, e1, hz1⟩ F₂ N₂
    clear F₉ N₉
    replace F₂ := fr_know (Str.ofString "found") F₂ e1
    have hn01 : n = 0 ∨ n = 1 := hr n (List.mem_of_getElem? hn)
    k_steps
    rename Fr _ _ _ _ => F₅
    rename News _ _ _ _ => N₅
    refine TEnd.intro (nx := []) F₅ N₅ ⟨rfl, _, _, rfl, ?_⟩ rfl (by simp) (fun p hp => hp)
    rw [List.take_add_one, hn, Option.toList_some, val_snoc, hz1]
    rcases hn01 with rfl | rfl <;> simp <;> omega
  · rintro m₁ news₁ h₂ tk₂ ⟨rfl, z, tz, e1, hz1⟩ F₂ N₂
    clear F₉ N₉
    replace F₂ := fr_know (Str.ofString "found") F₂ e1
    k_steps
    refine ret_int (s := s) (Q := Q) ret ?_ F₂.keep
    rw [hz1, List.take_length]

local macro_rules | `(tactic| walk_at "call ref") => `(tactic| (k_dflt (
  (rename Fr _ _ _ _ => fF'); (rename News _ _ _ _ => fN');
  (first | refine' Mine.c_value_of (Mine.Gd.push (by assumption) fF' ?kk) ?hd ?hu ?hl ?hi ?hr ?_ | refine' Mine.c_value_of (Mine.Gd.pushC (by assumption) fF' ?kk) ?hd ?hu ?hl ?hi ?hr ?_); ((case kk => exact rfl); (case hd => omega); (case hu => omega); (case hl => walk_at "m:list"); (case hi => assumption); (case hr => walk_at "m:row"); skip);
  intro h' tk' t' k'; (have F' := Mine.fr_on fF' k'); (have N' := Mine.news_on fN' k'); clear fF' fN' k'; (try dsimp only))))

theorem c_signs_of {v wd : Nat} {t₁ t₂ : Tok} {b : Int} (G : Gd (hd04.heap_39 w.params) hd04.view_39 (looseW hd04.view_39 []) mean mg mb base fr s.heap) (hd : dp + 1 < recursionLimit) (hu : un + 110 < cLine)
    (hw : wd ≤ 100) (hb : b = (wd : Int))
    (ret : ∀ h' tk' D vs' c, s.heap.StaysIn h' → s.heap.get? D = none → h'.get? D = some (listOf (List.toArray vs') c) → IntsAre vs' (signsOf v wd) → Q (.ref D) { s with heap := h', toks := tk' }) :
    wpAny (model PySem.Challenge.rw_uf040037_04.row.prog w) (arA dp un gd fr) (call (.ref 79) [.int (v : Int) t₁, .int b t₂]) Q E s := by
  revert G; k_fill; intro G
  refine' enter0 (binds := [(Str.ofString "value", .int (v : Int) t₁), (Str.ofString "many", .int b t₂)]) G ?k6 ?k7 ?k8 ?k9 ?kB ?_ ?c2 ?c3 ?c4 ?c5
  case k6 => k_is
  case k7 => k_is
  case k8 => omega
  case k9 => exact BindsTo.of_eq rfl
  case kB => exact locs rfl
  case c2 => exact rfl
  case c3 => exact rfl
  case c4 => exact rfl
  case c5 => decide
  intro L' h' tk F'
  have N' : News s.heap L' h' [] := News.nil
  have B' := G.below dp un gd
  have X' := G.kin
  have T' := G.top
  subst hb
  k_steps
  rename_i l₉ _ _ _ F₉ N₉
  refine go_on (for_range (L := L') (n := wd) (a₀ := 0) (b₀ := (wd : Int)) (fun i m nx => ∃ (us : List Value) (cc : Nat), nx = [(l₉, listOf us.toArray cc)] ∧ m (Str.ofString "found") = some (.ref l₉) ∧ m (Str.ofString "value") = some (.int (v : Int) t₁) ∧ IntsAre us ((List.range i).map (fun t => (((v >>> t) % 2 : Nat) : Int)))) rfl rfl F₉ N₉ (by omega) (by omega) ?_ ⟨[], 0, rfl, rfl, rfl, .nil⟩ ?_ ?_ rfl rfl (fun _ => rfl) (by passes_own))
  · intro Q' q
    k_steps
    exact q _ _ _ _ _ _ (by assumption) (by assumption) (by assumption)
  · rintro i ti m₁ news₁ h₄ tk₄ own hin hadr ho ⟨us, cc, rfl, f1, f2, hI⟩ F₄ N₄
    clear F₉ N₉
    replace F₄ := fr_know (Str.ofString "found") (fr_know (Str.ofString "value") F₄ f2) f1
    have hlu : ((List.range i).map (fun t => (((v >>> t) % 2 : Nat) : Int))).length = i := by simp
    k_steps
    rename Fr _ _ _ _ => F₅
    rename News _ _ _ _ => N₅
    simp only [List.push_toArray] at N₅
    refine TEnd.intro (nx := [(l₉, listOf (us ++ [_]).toArray (cc + 1))]) F₅ N₅ ⟨_, _, rfl, rfl, rfl, ?_⟩ rfl (List.forall_mem_cons.mpr ⟨.head _, List.forall_mem_nil _⟩) (fun p hp => .tail _ hp)
    rw [List.range_succ, List.map_append]
    refine hI.append ?_
    rw [shift_val]
    exact .cons _ _ .nil
  · rintro m₁ news₁ h₄ tk₄ ⟨us, cc, rfl, f1, f2, hI⟩ F₄ N₄
    clear F₉ N₉
    replace F₄ := fr_know (Str.ofString "found") F₄ f1
    have hlu : us.length ≤ 100 := by rw [hI.length]; simp; omega
    k_steps
    rename Fr _ _ _ _ => F₅
    rename News _ _ _ _ => N₅
    simp only [List.toList_toArray] at N₅
    exact ret_list (s := s) (Q := Q) ret F₅ N₅ (.head _) (ints_rev hI) rfl

theorem c_law_cell_at {l : Addr} {vs : List Value} {ns : List Int} {k : Int} {t : Tok} (G : Gd (hd04.heap_39 w.params) hd04.view_39 (looseW hd04.view_39 []) mean mg mb base fr s.heap) (hd : dp + 1 < recursionLimit) (hu : un + 110 < cLine)
    (hl : s.heap.IsList l vs.toArray) (hi : IntsAre vs ns) (hz : ns.length ≤ 1000000) (h0 : 0 ≤ k)
    (ret : ∀ h' tk' t', s.heap.StaysIn h' → Q (.int (ns.getD k.toNat 0) t') { s with heap := h', toks := tk' }) :
    wpAny (model PySem.Challenge.rw_uf040037_04.row.prog w) (arA dp un gd fr) (call (.ref 114) [.ref l, .int k t]) Q E s := by
  revert G; k_fill; intro G
  refine' enter0 (binds := [(Str.ofString "_law_script", .ref l), (Str.ofString "_law_k", .int k t)]) G ?k6 ?k7 ?k8 ?k9 ?kB ?_ ?c2 ?c3 ?c4 ?c5
  case k6 => k_is
  case k7 => k_is
  case k8 => omega
  case k9 => exact BindsTo.of_eq rfl
  case kB => exact locs rfl
  case c2 => exact rfl
  case c3 => exact rfl
  case c4 => exact rfl
  case c5 => decide
  intro L' h' tk F'
  have N' : News s.heap L' h' [] := News.nil
  have B' := G.below dp un gd
  have X' := G.kin
  have T' := G.top
  k_steps
  · exact ret_int (s := s) (Q := Q) ret rfl F'.keep
  · refine ret_int (s := s) (Q := Q) ret ?_ F'.keep
    rw [List.getD_eq_getElem?_getD, List.getElem?_eq_none (by omega)]; rfl

local macro_rules | `(tactic| walk_at "call ref") => `(tactic| (k_dflt (
  (rename Fr _ _ _ _ => fF'); (rename News _ _ _ _ => fN');
  (first | refine' Mine.c_law_cell_at (Mine.Gd.push (by assumption) fF' ?kk) ?hd ?hu ?hl ?hi ?hz ?h0 ?_ | refine' Mine.c_law_cell_at (Mine.Gd.pushC (by assumption) fF' ?kk) ?hd ?hu ?hl ?hi ?hz ?h0 ?_); ((case kk => exact rfl); (case hd => omega); (case hu => omega); (case hl => walk_at "m:list"); (case hi => assumption); (case hz => omega); (case h0 => decide); skip);
  intro h' tk' t' k'; (have F' := Mine.fr_on fF' k'); (have N' := Mine.news_on fN' k'); clear fF' fN' k'; (try dsimp only))))

theorem c_law_is_row {l : Addr} {vs : List Value} {ns : List Int} {k : Int} {t : Tok} (G : Gd (hd04.heap_39 w.params) hd04.view_39 (looseW hd04.view_39 []) mean mg mb base fr s.heap) (hd : dp + 1 < recursionLimit) (hu : un + 110 < cLine)
    (hl : s.heap.IsList l vs.toArray) (hi : IntsAre vs ns) (hz : ns.length ≤ 1000000) (hr : IsRow ns)
    (ret : ∀ h' tk', s.heap.StaysIn h' → Q (.bool (decide ((ns.length : Int) = k))) { s with heap := h', toks := tk' }) :
    wpAny (model PySem.Challenge.rw_uf040037_04.row.prog w) (arA dp un gd fr) (call (.ref 119) [.ref l, .int k t]) Q E s := by
  revert G; k_fill; intro G
  refine' enter0 (binds := [(Str.ofString "_law_found", .ref l), (Str.ofString "_law_size", .int k t)]) G ?k6 ?k7 ?k8 ?k9 ?kB ?_ ?c2 ?c3 ?c4 ?c5
  case k6 => k_is
  case k7 => k_is
  case k8 => omega
  case k9 => exact BindsTo.of_eq rfl
  case kB => exact locs rfl
  case c2 => exact rfl
  case c3 => exact rfl
  case c4 => exact rfl
  case c5 => decide
  intro L' h' tk F'
  have N' : News s.heap L' h' [] := News.nil
  have B' := G.below dp un gd
  have X' := G.kin
  have T' := G.top
  k_steps
  · refine ret_bool (s := s) (Q := Q) ret ?_ F'.keep; simp [*]
  · refine go_on (comp_list (fun _ v => v = .bool true) rfl F' N' (lst_base F' hl) (by rw [hi.length, sizeLine_eq]; omega) (fun Q' q => ld F' rfl q) ?_ ?_ rfl (by decide) rfl (by decide) rfl (fun _ => rfl))
    · intro i x C h₂ tk₂ m₂ E' hx hC hns hma hup
      obtain ⟨oC, hoC, hNs⟩ := LCg.ns_obj hns
      have F₂ := fr_on F' hup
      have N₂ := news_more F' N' hup hC hoC
      clear F' N'
      have hlt : i < ns.length := by rw [← hi.length]; exact (List.getElem?_eq_some_iff.mp hx).1
      obtain ⟨t₂, e₂⟩ := hi.get i ns[i] (List.getElem?_eq_getElem hlt)
      obtain rfl : x = .int ns[i] t₂ := Option.some.inj (hx.symm.trans e₂)
      have hx01 := hr.getElem hlt
      generalize ns[i] = n at *
      k_steps
      · rcases hx01 with rfl | rfl <;> rfl
      · exact fun _ _ e => e
    · intro D h₂ tk₂ zs F₂ N₂ l₂ hl₂ hP₂
      clear F' N'
      k_steps
      refine LSm.all_bools F₂ N₂ rfl (lst_led N₂ (.head _)) (bools_true hP₂) fun h₃ tk₃ F₃ N₃ => ?_
      refine ret_bool (s := s) (Q := Q) ret ?_ F₃.keep
      rw [all_true]; simp [*]

local macro_rules | `(tactic| walk_at "call ref") => `(tactic| (k_dflt (
  (rename Fr _ _ _ _ => fF'); (rename News _ _ _ _ => fN');
  (first | refine' Mine.c_law_is_row (Mine.Gd.push (by assumption) fF' ?kk) ?hd ?hu ?hl ?hi ?hz ?hr ?_ | refine' Mine.c_law_is_row (Mine.Gd.pushC (by assumption) fF' ?kk) ?hd ?hu ?hl ?hi ?hz ?hr ?_); ((case kk => exact rfl); (case hd => omega); (case hu => omega); (case hl => walk_at "m:list"); (case hi => assumption); (case hz => walk_at "m:len"); (case hr => walk_at "m:row"); skip);
  intro h' tk' k'; (have F' := Mine.fr_on fF' k'); (have N' := Mine.news_on fN' k'); clear fF' fN' k'; (try dsimp only))))

theorem c_is_letter {n : Nat} {t : Tok} (G : Gd (hd04.heap_39 w.params) hd04.view_39 (looseW hd04.view_39 []) mean mg mb base fr s.heap) (hd : dp + 1 < recursionLimit) (hu : un + 110 < cLine)
    
    (ret : ∀ h' tk', s.heap.StaysIn h' → Q (.bool (decide (IsLet n))) { s with heap := h', toks := tk' }) :
    wpAny (model PySem.Challenge.rw_uf040037_04.row.prog w) (arA dp un gd fr) (call (.ref 86) [.int (n : Int) t]) Q E s := by
  revert G; k_fill; intro G
  refine' enter0 (binds := [(Str.ofString "number", .int (n : Int) t)]) G ?k6 ?k7 ?k8 ?k9 ?kB ?_ ?c2 ?c3 ?c4 ?c5
  case k6 => k_is
  case k7 => k_is
  case k8 => omega
  case k9 => exact BindsTo.of_eq rfl
  case kB => exact locs rfl
  case c2 => exact rfl
  case c3 => exact rfl
  case c4 => exact rfl
  case c5 => decide
  intro L' h' tk F'
  have N' : News s.heap L' h' [] := News.nil
  have B' := G.below dp un gd
  have X' := G.kin
  have T' := G.top
  have hL := go_on (show IsLet n ↔ (32 ≤ (n : Int) ∧ (n : Int) ≤ 126 ∧ ¬ (n : Int) = 37) by unfold IsLet; omega)
  k_steps
  · refine ret_bool (s := s) (Q := Q) ret ?_ F'.keep
    by_cases h37 : (n : Int) = 37
    · rw [decide_eq_false (fun h => (hL.mp h).2.2 h37), h37]; rfl
    · rw [bne_iff_ne.mpr h37, decide_eq_true (hL.mpr ⟨by assumption, by assumption, h37⟩)]
  · refine ret_bool (s := s) (Q := Q) ret ?_ F'.keep
    exact decide_eq_decide.mpr ⟨fun h => absurd h (by assumption), fun h => absurd (hL.mp h).2.1 (by assumption)⟩
  · refine ret_bool (s := s) (Q := Q) ret ?_ F'.keep
    exact decide_eq_decide.mpr ⟨fun h => absurd h (by assumption), fun h => absurd (hL.mp h).1 (by assumption)⟩

theorem c_letter_of {n : Nat} {t : Tok} (G : Gd (hd04.heap_39 w.params) hd04.view_39 (looseW hd04.view_39 []) mean mg mb base fr s.heap) (hd : dp + 1 < recursionLimit) (hu : un + 110 < cLine)
    (hn : IsLet n)
    (ret : ∀ h' tk' t', s.heap.StaysIn h' → Q (.str (⟨#[n]⟩) t') { s with heap := h', toks := tk' }) :
    wpAny (model PySem.Challenge.rw_uf040037_04.row.prog w) (arA dp un gd fr) (call (.ref 93) [.int (n : Int) t]) Q E s := by
  revert G; k_fill; intro G
  refine' enter0 (binds := [(Str.ofString "number", .int (n : Int) t)]) G ?k6 ?k7 ?k8 ?k9 ?kB ?_ ?c2 ?c3 ?c4 ?c5
  case k6 => k_is
  case k7 => k_is
  case k8 => omega
  case k9 => exact BindsTo.of_eq rfl
  case kB => exact locs rfl
  case c2 => exact rfl
  case c3 => exact rfl
  case c4 => exact rfl
  case c5 => decide
  intro L' h' tk F'
  have N' : News s.heap L' h' [] := News.nil
  have B' := G.below dp un gd
  have X' := G.kin
  have T' := G.top
  obtain ⟨hn1, hn2, hn3⟩ := hn
  have hn4 : ((n : Int) = 37) → False := by omega
  k_steps
  · exact ret_str (s := s) (Q := Q) ret (lett_hi (by omega) (by omega) (by decide +kernel)) F'.keep
  · exact ret_str (s := s) (Q := Q) ret (lett_lo (by omega) (by omega) (by decide +kernel)) F'.keep

theorem c_law_letter_by {n : Int} {t : Tok} (G : Gd (hd04.heap_39 w.params) hd04.view_39 (looseW hd04.view_39 []) mean mg mb base fr s.heap) (hd : dp + 1 < recursionLimit) (hu : un + 110 < cLine)
    
    (ret : ∀ h' tk' t' c, s.heap.StaysIn h' → IsLet c → Q (.str ⟨#[c]⟩ t') { s with heap := h', toks := tk' }) :
    wpAny (model PySem.Challenge.rw_uf040037_04.row.prog w) (arA dp un gd fr) (call (.ref 126) [.int n t]) Q E s := by
  revert G; k_fill; intro G
  refine' enter0 (binds := [(Str.ofString "_law_number", .int n t)]) G ?k6 ?k7 ?k8 ?k9 ?kB ?_ ?c2 ?c3 ?c4 ?c5
  case k6 => k_is
  case k7 => k_is
  case k8 => omega
  case k9 => exact BindsTo.of_eq rfl
  case kB => exact locs rfl
  case c2 => exact rfl
  case c3 => exact rfl
  case c4 => exact rfl
  case c5 => decide
  intro L' h' tk F'
  have N' : News s.heap L' h' [] := News.nil
  have B' := G.below dp un gd
  have X' := G.kin
  have T' := G.top
  have hw0 := fm_ge n 94 (by decide)
  have hw1 := fm_le n 94 93 (by decide) (by decide)
  k_steps
  rename Fr _ _ _ _ => F₈
  exact ret_by (s := s) (Q := Q) ret (lett_by hw0 hw1 (by decide +kernel)) F₈.keep

theorem c_law_seven {n : Nat} {t : Tok} (G : Gd (hd04.heap_39 w.params) hd04.view_39 (looseW hd04.view_39 []) mean mg mb base fr s.heap) (hd : dp + 1 < recursionLimit) (hu : un + 110 < cLine)
    (hn : n ≤ 1000000)
    (ret : ∀ h' tk' D vs' c, s.heap.StaysIn h' → s.heap.get? D = none → h'.get? D = some (listOf (List.toArray vs') c) → IntsAre vs' (signsOf n 7) → Q (.ref D) { s with heap := h', toks := tk' }) :
    wpAny (model PySem.Challenge.rw_uf040037_04.row.prog w) (arA dp un gd fr) (call (.ref 133) [.int (n : Int) t]) Q E s := by
  revert G; k_fill; intro G
  refine' enter0 (binds := [(Str.ofString "_law_number", .int (n : Int) t)]) G ?k6 ?k7 ?k8 ?k9 ?kB ?_ ?c2 ?c3 ?c4 ?c5
  case k6 => k_is
  case k7 => k_is
  case k8 => omega
  case k9 => exact BindsTo.of_eq rfl
  case kB => exact locs rfl
  case c2 => exact rfl
  case c3 => exact rfl
  case c4 => exact rfl
  case c5 => decide
  intro L' h' tk F'
  have N' : News s.heap L' h' [] := News.nil
  have B' := G.below dp un gd
  have X' := G.kin
  have T' := G.top
  k_steps
  rename_i l₉ _ _ _ F₉ N₉
  refine go_on (for_rangeG (L := L') (n := 7) (a₀ := 0) (b₀ := 7) (fun i m nx => ∃ (D : Addr) (us : List Value) (cc : Nat) (tn : Tok), nx = [(D, listOf us.toArray cc)] ∧ m (Str.ofString "_law_found") = some (.ref D) ∧ m (Str.ofString "_law_number") = some (.int ((n / 2 ^ i : Nat) : Int) tn) ∧ IntsAre us (signsOf n i)) rfl rfl F₉ N₉ (by decide) (by decide) ?_ ⟨l₉, [], 0, t, rfl, rfl, congrArg (fun z : Nat => some (Value.int (z : Int) t)) (show n = n / 2 ^ 0 from (Nat.div_one n).symm), .nil⟩ ?_ ?_ rfl rfl (fun _ => rfl) (by passes_own))
  · intro Q' q
    k_steps
    exact q _ _ _ _ _ _ (by assumption) (by assumption) (by assumption)
  · rintro i ti m₁ news₁ h₄ tk₄ own hin ho ⟨D, us, cc, tn, rfl, f1, f2, hI⟩ F₄ N₄
    clear F₉ N₉
    replace F₄ := fr_know (Str.ofString "_law_found") (fr_know (Str.ofString "_law_number") F₄ f2) f1
    have hlu := signsOf_length n i
    have hs1 := go_on (sev_succ n i)
    have hs2 := go_on (sev_half n i)
    generalize n / 2 ^ i = z at *
    generalize signsOf n i = zs at *
    simp only [List.cons_append, List.nil_append] at N₄
    k_steps
    rename_i lq D₁ w₁ _ hI₁ lD₁ _ _ F₅ N₅
    exact GEnd.intro (nx := [(D₁, listOf w₁.toArray 0)]) F₅ N₅ ⟨D₁, w₁, 0, _, rfl, rfl, congrArg (fun y : Int => some (Value.int y _)) hs2, by rw [show signsOf n (i + 1) = _ from hs1]; exact hI₁⟩ (List.forall_mem_cons.mpr ⟨.head _, List.forall_mem_nil _⟩) (fun p hp => .tail _ (.tail _ (.tail _ hp))) (fun p hp c hc => by rw [List.mem_singleton.mp (show c ∈ [D₁] from hc)]; exact Nat.ne_of_lt (kst_ltOf lD₁.2.2 p hp))
  · rintro m₁ news₁ h₄ tk₄ ⟨D, us, cc, tn, rfl, f1, f2, hI⟩ F₄ N₄
    clear F₉ N₉
    replace F₄ := fr_know (Str.ofString "_law_found") F₄ f1
    k_steps
    rename Fr _ _ _ _ => F₅
    rename News _ _ _ _ => N₅
    exact ret_list (s := s) (Q := Q) ret F₅ N₅ (.head _) hI rfl

theorem c_law_text_by {c : Int} {n : Nat} {t t₂ : Tok} (G : Gd (hd04.heap_39 w.params) hd04.view_39 (looseW hd04.view_39 []) mean mg mb base fr s.heap) (hd : dp + 2 < recursionLimit) (hu : un + 120 < cLine)
    (hn : n ≤ 1000)
    (ret : ∀ h' tk' t' cs, s.heap.StaysIn h' → Lets cs → cs.length = n → Q (.str (Tx cs) t') { s with heap := h', toks := tk' }) :
    wpAny (model PySem.Challenge.rw_uf040037_04.row.prog w) (arA dp un gd fr) (call (.ref 140) [.int c t, .int (n : Int) t₂]) Q E s := by
  revert G; k_fill; intro G
  refine' enter0 (binds := [(Str.ofString "_law_cell", .int c t), (Str.ofString "_law_size", .int (n : Int) t₂)]) G ?k6 ?k7 ?k8 ?k9 ?kB ?_ ?c2 ?c3 ?c4 ?c5
  case k6 => k_is
  case k7 => k_is
  case k8 => omega
  case k9 => exact BindsTo.of_eq rfl
  case kB => exact locs rfl
  case c2 => exact rfl
  case c3 => exact rfl
  case c4 => exact rfl
  case c5 => decide
  intro L' h' tk F'
  have N' : News s.heap L' h' [] := News.nil
  have B' := G.below dp un gd
  have X' := G.kin
  have T' := G.top
  k_steps
  rename Fr _ _ _ _ => F₉
  rename News _ _ _ _ => N₉
  refine go_on (for_range (L := L') (n := n) (a₀ := 0) (b₀ := (n : Int)) (fun i m nx => nx = [] ∧ ∃ (cs : List Nat) (tc : Tok) (z : Int) (tz : Tok), m (Str.ofString "_law_found") = some (.str (Tx cs) tc) ∧ m (Str.ofString "_law_state") = some (.int z tz) ∧ Lets cs ∧ cs.length = i) rfl rfl F₉ N₉ (by omega) (by omega) ?_ ⟨rfl, [], _, _, _, rfl, rfl, lets_nil, rfl⟩ ?_ ?_ rfl rfl (fun _ => rfl) (by passes_own))
  · intro Q' q
    k_steps
    exact q _ _ _ _ _ _ (by assumption) (by assumption) (by assumption)
  · rintro i ti m₁ news₁ h₄ tk₄ own hin hadr ho ⟨rfl, cs, tc, z, tz, f1, f2, hLt, hlc⟩ F₄ N₄
    clear F₉ N₉
    replace F₄ := fr_know (Str.ofString "_law_found") (fr_know (Str.ofString "_law_state") F₄ f2) f1
    have hTl := Tx_length cs
    k_steps
    rename Fr _ _ _ _ => F₅
    rename News _ _ _ _ => N₅
    refine go_on (c_law_letter_by (G.push F₅ rfl) (by omega) (by omega) (fun h₆ tk₆ t₆ c₆ k₆ hc₆ => ?_))
    have F₆ := fr_on F₅ k₆
    have N₆ := news_on N₅ k₆
    clear F₅ N₅ k₆
    have hT₁ : (⟨#[c₆]⟩ : Str).length = 1 := rfl
    dsimp only
    k_steps
    rename Fr _ _ _ _ => F₇
    rename News _ _ _ _ => N₇
    exact TEnd.intro (nx := []) F₇ N₇ ⟨rfl, cs ++ [c₆], _, _, _, congrArg some (congrArg (fun z => Value.str z _) (Tx_append cs [c₆])), rfl, lets_snoc hLt hc₆, by simp [hlc]⟩ rfl (by simp) (fun p hp => hp)
  · rintro m₁ news₁ h₄ tk₄ ⟨rfl, cs, tc, z, tz, f1, f2, hLt, hlc⟩ F₄ N₄
    clear F₉ N₉
    replace F₄ := fr_know (Str.ofString "_law_found") F₄ f1
    k_steps
    exact ret _ _ _ cs F₄.keep hLt hlc
section
local macro_rules | `(tactic| walk_at "call builtin:list.extend") => `(tactic| refine Mine.stop_of ?_)

theorem c_row_of {cs : List Nat} {t : Tok} (G : Gd (hd04.heap_39 w.params) hd04.view_39 (looseW hd04.view_39 []) mean mg mb base fr s.heap) (hd : dp + 3 < recursionLimit) (hu : un + 130 < cLine)
    (hz : cs.length ≤ 1000) (raise : ¬ Lets cs → ∀ e t us h' tk', RaisedS base s.heap fr e (.ref 49) t us [] h' → s.heap.UpToSlots h' → E (.ref e) { s with heap := h', toks := tk' })
    (ret : Lets cs → ∀ h' tk' D vs' c, s.heap.StaysIn h' → s.heap.get? D = none → h'.get? D = some (listOf (List.toArray vs') c) → IntsAre vs' (flat7 cs) → Q (.ref D) { s with heap := h', toks := tk' }) :
    wpAny (model PySem.Challenge.rw_uf040037_04.row.prog w) (arA dp un gd fr) (call (.ref 100) [.str (Tx cs) t]) Q E s := by
  revert G; k_fill; intro G
  refine' enter0 (binds := [(Str.ofString "text", .str (Tx cs) t)]) G ?k6 ?k7 ?k8 ?k9 ?kB ?_ ?c2 ?c3 ?c4 ?c5
  case k6 => k_is
  case k7 => k_is
  case k8 => omega
  case k9 => exact BindsTo.of_eq rfl
  case kB => exact locs rfl
  case c2 => exact rfl
  case c3 => exact rfl
  case c4 => exact rfl
  case c5 => decide
  intro L' h' tk F'
  have N' : News s.heap L' h' [] := News.nil
  have B' := G.below dp un gd
  have X' := G.kin
  have T' := G.top
  k_steps
  rename_i l₉ _ _ _ F₉ N₉
  refine go_on (for_text (L := L') (cs := cs) (fun i m nx => Lets (cs.take i) ∧ ∃ (us : List Value) (cc : Nat), nx = [(l₉, listOf us.toArray cc)] ∧ m (Str.ofString "found") = some (.ref l₉) ∧ IntsAre us (flat7 (cs.take i))) rfl rfl F₉ N₉ (fun Q' q => ld F₉ rfl (q _ _ _ F₉ N₉)) ⟨by simpa using lets_nil, [], 0, rfl, rfl, .nil⟩ ?_ ?_ rfl rfl (fun _ => rfl) (by passes_own))
  · rintro i c tc m₁ news₁ h₄ tk₄ own hc hadr ho ⟨hLt, us, cc, rfl, f1, hI⟩ F₄ N₄
    clear F₉ N₉
    replace F₄ := fr_know (Str.ofString "found") F₄ f1
    have hT₁ : (⟨#[c]⟩ : Str).length = 1 := rfl
    simp only [List.cons_append, List.nil_append] at N₄
    k_steps
    rename Fr _ _ _ _ => F₅
    rename News _ _ _ _ => N₅
    refine go_on (c_is_letter (n := c) (G.push F₅ rfl) (by omega) (by omega) (fun h₆ tk₆ k₆ => ?_))
    have F₆ := fr_on F₅ k₆
    have N₆ := news_on N₅ k₆
    clear F₅ N₅ k₆
    by_cases hl : IsLet c
    · rw [decide_eq_true hl]
      dsimp only
      k_steps
      rename Fr _ _ _ _ => F₇
      rename News _ _ _ _ => N₇
      refine go_on (c_signs_of (v := c) (wd := 7) (G.push F₇ rfl) (by omega) (by omega) (by decide) rfl (fun h₈ tk₈ D₈ v₈ c₈ k₈ n₈ o₈ i₈ => ?_))
      have F₈ := fr_on F₇ k₈
      have ne₈ := allNe_of (news_ne N₇ n₈)
      simp only [AllNe, and_true] at ne₈
      have N₈ := news_more F₇ N₇ k₈ n₈ o₈
      clear F₇ N₇ k₈ n₈ o₈
      have hv₈ : v₈.length = 7 := by rw [i₈.length, signsOf_length]
      have hil := (List.getElem?_eq_some_iff.mp hc).1
      have hu₈ : us.length ≤ 7000 := by rw [hI.length, flat7_length, List.length_take]; omega
      dsimp only
      k_steps
      rename Fr _ _ _ _ => F₉
      rename News _ _ _ _ => N₉
      refine' go_on (kl_extend (l := us ++ v₈) ?xF ?xN ?xb ?xe ?xn ?xU ?xd ?xz ?xy ?_)
      case xF => exact F₉
      case xN => exact N₉
      case xU => k_upd
      case xb => k_mem
      case xe => simp
      case xn => simp only [List.toList_toArray]; omega
      case xd => simp only [Bool.and_eq_true, not_and]; intro _; exact too_not (by simp only [List.size_toArray]; omega)
      case xz => simp only [List.toList_toArray]; rw [sizeLine_eq]; omega
      case xy => simp only [List.size_toArray]; rw [sizeLine_eq]; omega
      intro h₁ F₁ N₁
      clear F₉ N₉
      dsimp only
      k_steps
      rename Fr _ _ _ _ => F₂
      rename News _ _ _ _ => N₂
      refine TEnd.intro (nx := [(l₉, listOf (us ++ v₈).toArray (cc + 1))]) F₂ N₂ ⟨lets_take hLt hc hl, _, _, rfl, rfl, ?_⟩ rfl (List.forall_mem_cons.mpr ⟨by k_mem, List.forall_mem_nil _⟩) (fun p hp => .tail _ (.tail _ hp))
      rw [List.take_add_one, hc, flat7_append, Option.toList_some, flat7_one]
      exact hI.append i₈
    · rw [decide_eq_false hl]
      have hnl : ¬ Lets cs := fun h => hl (h c (List.mem_of_getElem? hc))
      dsimp only
      k_steps
      rename Heap.MadeExcOf _ _ _ _ _ => hx
      rename Fr _ _ _ _ => F₈
      exact go_on (A_raise G hx F₈ (fun h₉ t₉ R U => raise hnl _ _ _ _ _ R U) rfl)
  · rintro m₁ news₁ h₄ tk₄ ⟨hLt, us, cc, rfl, f1, hI⟩ F₄ N₄
    clear F₉ N₉
    replace F₄ := fr_know (Str.ofString "found") F₄ f1
    rw [List.take_length] at hLt hI
    k_steps
    rename Fr _ _ _ _ => F₅
    rename News _ _ _ _ => N₅
    exact ret_list (s := s) (Q := Q) (ret hLt) F₅ N₅ (.head _) hI rfl
end

theorem c_row_of_n  (G : Gd (hd04.heap_39 w.params) hd04.view_39 (looseW hd04.view_39 []) mean mg mb base fr s.heap) (hd : dp + 3 < recursionLimit) (hu : un + 130 < cLine)
    (raise : True → ∀ e t us h' tk', RaisedS base s.heap fr e (.ref 49) t us [] h' → s.heap.UpToSlots h' → E (.ref e) { s with heap := h', toks := tk' })
    (ret : True) :
    wpAny (model PySem.Challenge.rw_uf040037_04.row.prog w) (arA dp un gd fr) (call (.ref 100) [.none]) Q E s := by
  revert G; k_fill; intro G
  refine' enter0 (binds := [(Str.ofString "text", .none)]) G ?k6 ?k7 ?k8 ?k9 ?kB ?_ ?c2 ?c3 ?c4 ?c5
  case k6 => k_is
  case k7 => k_is
  case k8 => omega
  case k9 => exact BindsTo.of_eq rfl
  case kB => exact locs rfl
  case c2 => exact rfl
  case c3 => exact rfl
  case c4 => exact rfl
  case c5 => decide
  intro L' h' tk F'
  have N' : News s.heap L' h' [] := News.nil
  have B' := G.below dp un gd
  have X' := G.kin
  have T' := G.top
  k_steps
  rename Heap.MadeExcOf _ _ _ _ _ => hx
  rename Fr _ _ _ _ => F₈
  exact go_on (A_raise G hx F₈ (fun h₉ t₉ R U => raise trivial _ _ _ _ _ R U) rfl)

theorem c_row_of_i {b : Int} {t : Tok} (G : Gd (hd04.heap_39 w.params) hd04.view_39 (looseW hd04.view_39 []) mean mg mb base fr s.heap) (hd : dp + 3 < recursionLimit) (hu : un + 130 < cLine)
    (raise : True → ∀ e t us h' tk', RaisedS base s.heap fr e (.ref 49) t us [] h' → s.heap.UpToSlots h' → E (.ref e) { s with heap := h', toks := tk' })
    (ret : True) :
    wpAny (model PySem.Challenge.rw_uf040037_04.row.prog w) (arA dp un gd fr) (call (.ref 100) [.int b t]) Q E s := by
  revert G; k_fill; intro G
  refine' enter0 (binds := [(Str.ofString "text", .int b t)]) G ?k6 ?k7 ?k8 ?k9 ?kB ?_ ?c2 ?c3 ?c4 ?c5
  case k6 => k_is
  case k7 => k_is
  case k8 => omega
  case k9 => exact BindsTo.of_eq rfl
  case kB => exact locs rfl
  case c2 => exact rfl
  case c3 => exact rfl
  case c4 => exact rfl
  case c5 => decide
  intro L' h' tk F'
  have N' : News s.heap L' h' [] := News.nil
  have B' := G.below dp un gd
  have X' := G.kin
  have T' := G.top
  k_steps
  rename Heap.MadeExcOf _ _ _ _ _ => hx
  rename Fr _ _ _ _ => F₈
  exact go_on (A_raise G hx F₈ (fun h₉ t₉ R U => raise trivial _ _ _ _ _ R U) rfl)

theorem c_row_of_b {b : Bool} (G : Gd (hd04.heap_39 w.params) hd04.view_39 (looseW hd04.view_39 []) mean mg mb base fr s.heap) (hd : dp + 3 < recursionLimit) (hu : un + 130 < cLine)
    (raise : True → ∀ e t us h' tk', RaisedS base s.heap fr e (.ref 49) t us [] h' → s.heap.UpToSlots h' → E (.ref e) { s with heap := h', toks := tk' })
    (ret : True) :
    wpAny (model PySem.Challenge.rw_uf040037_04.row.prog w) (arA dp un gd fr) (call (.ref 100) [.bool b]) Q E s := by
  revert G; k_fill; intro G
  refine' enter0 (binds := [(Str.ofString "text", .bool b)]) G ?k6 ?k7 ?k8 ?k9 ?kB ?_ ?c2 ?c3 ?c4 ?c5
  case k6 => k_is
  case k7 => k_is
  case k8 => omega
  case k9 => exact BindsTo.of_eq rfl
  case kB => exact locs rfl
  case c2 => exact rfl
  case c3 => exact rfl
  case c4 => exact rfl
  case c5 => decide
  intro L' h' tk F'
  have N' : News s.heap L' h' [] := News.nil
  have B' := G.below dp un gd
  have X' := G.kin
  have T' := G.top
  k_steps
  rename Heap.MadeExcOf _ _ _ _ _ => hx
  rename Fr _ _ _ _ => F₈
  exact go_on (A_raise G hx F₈ (fun h₉ t₉ R U => raise trivial _ _ _ _ _ R U) rfl)

theorem c_row_of_l {l : Addr} {its : Array Value} (G : Gd (hd04.heap_39 w.params) hd04.view_39 (looseW hd04.view_39 []) mean mg mb base fr s.heap) (hd : dp + 3 < recursionLimit) (hu : un + 130 < cLine)
    (hl : s.heap.IsList l its) (raise : True → ∀ e t us h' tk', RaisedS base s.heap fr e (.ref 49) t us [] h' → s.heap.UpToSlots h' → E (.ref e) { s with heap := h', toks := tk' })
    (ret : True) :
    wpAny (model PySem.Challenge.rw_uf040037_04.row.prog w) (arA dp un gd fr) (call (.ref 100) [.ref l]) Q E s := by
  revert G; k_fill; intro G
  refine' enter0 (binds := [(Str.ofString "text", .ref l)]) G ?k6 ?k7 ?k8 ?k9 ?kB ?_ ?c2 ?c3 ?c4 ?c5
  case k6 => k_is
  case k7 => k_is
  case k8 => omega
  case k9 => exact BindsTo.of_eq rfl
  case kB => exact locs rfl
  case c2 => exact rfl
  case c3 => exact rfl
  case c4 => exact rfl
  case c5 => decide
  intro L' h' tk F'
  have N' : News s.heap L' h' [] := News.nil
  have B' := G.below dp un gd
  have X' := G.kin
  have T' := G.top
  k_steps
  rename Heap.MadeExcOf _ _ _ _ _ => hx
  rename Fr _ _ _ _ => F₈
  exact go_on (A_raise G hx F₈ (fun h₉ t₉ R U => raise trivial _ _ _ _ _ R U) rfl)

theorem c_row_of_t {l : Addr} {its : Array Value} (G : Gd (hd04.heap_39 w.params) hd04.view_39 (looseW hd04.view_39 []) mean mg mb base fr s.heap) (hd : dp + 3 < recursionLimit) (hu : un + 130 < cLine)
    (hl : s.heap.IsTuple l its) (raise : True → ∀ e t us h' tk', RaisedS base s.heap fr e (.ref 49) t us [] h' → s.heap.UpToSlots h' → E (.ref e) { s with heap := h', toks := tk' })
    (ret : True) :
    wpAny (model PySem.Challenge.rw_uf040037_04.row.prog w) (arA dp un gd fr) (call (.ref 100) [.ref l]) Q E s := by
  revert G; k_fill; intro G
  refine' enter0 (binds := [(Str.ofString "text", .ref l)]) G ?k6 ?k7 ?k8 ?k9 ?kB ?_ ?c2 ?c3 ?c4 ?c5
  case k6 => k_is
  case k7 => k_is
  case k8 => omega
  case k9 => exact BindsTo.of_eq rfl
  case kB => exact locs rfl
  case c2 => exact rfl
  case c3 => exact rfl
  case c4 => exact rfl
  case c5 => decide
  intro L' h' tk F'
  have N' : News s.heap L' h' [] := News.nil
  have B' := G.below dp un gd
  have X' := G.kin
  have T' := G.top
  k_steps
  rename Heap.MadeExcOf _ _ _ _ _ => hx
  rename Fr _ _ _ _ => F₈
  exact go_on (A_raise G hx F₈ (fun h₉ t₉ R U => raise trivial _ _ _ _ _ R U) rfl)
section
local macro_rules | `(tactic| walk_at "subscriptTail Name Slice ref ref") => `(tactic| refine Mine.stop_of ?_)

theorem c_text_of {l : Addr} {vs : List Value} {xs : List Nat} (G : Gd (hd04.heap_39 w.params) hd04.view_39 (looseW hd04.view_39 []) mean mg mb base fr s.heap) (hd : dp + 4 < recursionLimit) (hu : un + 140 < cLine)
    (hl : s.heap.IsList l vs.toArray) (hi : IntsAre vs (flat7 xs)) (hz : xs.length ≤ 1000) (hx : ∀ c ∈ xs, c < 128) (raise : ¬ Lets xs → ∀ e t us h' tk', RaisedS base s.heap fr e (.ref 49) t us [] h' → s.heap.UpToSlots h' → E (.ref e) { s with heap := h', toks := tk' })
    (ret : Lets xs → ∀ h' tk' t', s.heap.StaysIn h' → Q (.str (Tx xs) t') { s with heap := h', toks := tk' }) :
    wpAny (model PySem.Challenge.rw_uf040037_04.row.prog w) (arA dp un gd fr) (call (.ref 107) [.ref l]) Q E s := by
  revert G; k_fill; intro G
  refine' enter0 (binds := [(Str.ofString "row", .ref l)]) G ?k6 ?k7 ?k8 ?k9 ?kB ?_ ?c2 ?c3 ?c4 ?c5
  case k6 => k_is
  case k7 => k_is
  case k8 => omega
  case k9 => exact BindsTo.of_eq rfl
  case kB => exact locs rfl
  case c2 => exact rfl
  case c3 => exact rfl
  case c4 => exact rfl
  case c5 => decide
  intro L' h' tk F'
  have N' : News s.heap L' h' [] := News.nil
  have B' := G.below dp un gd
  have X' := G.kin
  have T' := G.top
  have hfl := flat7_length xs
  have hfr := flat7_isRow xs
  have hm0 : (((flat7 xs).length : Nat) : Int).fmod 7 = 0 := by rw [hfl, Int.fmod_eq_emod_of_nonneg _ (by decide)]; omega
  k_steps
  · exact absurd hm0 (by assumption)
  rename_i l₉ _ _ _ F₉ N₉
  refine go_on (for_rangeS (L := L') (n := xs.length) (a₀ := 0) (b₀ := ((flat7 xs).length : Int)) (c₀ := 7) (fun i m nx => Lets (xs.take i) ∧ ∃ (us : List Value) (cc : Nat), nx = [(l₉, listOf us.toArray cc)] ∧ m (Str.ofString "found") = some (.ref l₉) ∧ m (Str.ofString "row") = some (.ref l) ∧ StrsAre us ((xs.take i).map fun c => (⟨#[c]⟩ : Str))) rfl rfl F₉ N₉ (by rw [hfl]; exact size7 _) (by rw [hfl]; exact small7 (by omega)) ?_ ⟨by simpa using lets_nil, [], 0, rfl, rfl, rfl, .nil⟩ ?_ ?_ rfl rfl (fun _ => rfl) (by passes_own))
  · intro Q' q
    k_steps
    exact q _ _ _ _ _ _ (by assumption) (by assumption) (by assumption)
  · rintro i ti m₁ news₁ h₄ tk₄ own hin hadr ho ⟨hLt, us, cc, rfl, f1, f2, hI⟩ F₄ N₄
    clear F₉ N₉
    replace F₄ := fr_know (Str.ofString "found") (fr_know (Str.ofString "row") F₄ f2) f1
    simp only [List.cons_append, List.nil_append] at N₄
    obtain ⟨c, hc⟩ : ∃ c, xs[i]? = some c := ⟨_, List.getElem?_eq_getElem hin⟩
    have hcx := hx c (List.mem_of_getElem? hc)
    have hcut := flat7_cut hc
    k_steps
    rename Fr _ _ _ _ => F₅
    rename News _ _ _ _ => N₅
    refine go_on ?_
    refine' kmk_slice_ints (vs := vs) (ns := flat7 xs) (lo := some (0 + (i : Int) * 7)) (hi := some (0 + (i : Int) * 7 + 7)) (ms := signsOf c 7) ?sF ?sN ?sl ?sp ?sq hi ?sm rfl ?_ ?ss ?st ?sz
    case sF => exact F₅
    case sN => exact N₅
    case sl => exact lst_base F₅ hl
    case sp => first | exact IsPart.none | exact IsPart.int _ _
    case sq => first | exact IsPart.none | exact IsPart.int _ _
    case sm => exact (by have := kmk_run hi (x := 0 + (i : Int) * 7) (y := 0 + (i : Int) * 7 + 7) (by omega) (by omega); rw [show (0 + (i : Int) * 7).toNat = 7 * i by omega, show min (0 + (i : Int) * 7 + 7).toNat (flat7 xs).length - 7 * i = 7 by rw [hfl]; omega, hcut] at this; exact this)
    case ss => with_unfolding_all rfl
    case st => intro _; with_unfolding_all rfl
    case sz => rw [List.size_toArray, hi.length, sizeLine_eq]; omega

    intro D₁ w₁ h₁ F₆ N₆ l₁ hI₁ _ hl₁
    replace l₁ := allLt_of l₁
    try simp only [AllLt, and_true] at l₁
    clear F₅ N₅
    have hsr := signsOf_isRow c 7
    have hvl := val7 hcx
    generalize signsOf c 7 = sg at *
    dsimp only
    k_steps
    rename Fr _ _ _ _ => F₅
    rename News _ _ _ _ => N₅
    rw [hvl] at F₅
    rw [hvl]
    refine go_on (c_is_letter (n := c) (G.push F₅ rfl) (by omega) (by omega) (fun h₆ tk₆ k₆ => ?_))
    have F₇ := fr_on F₅ k₆
    have N₇ := news_on N₅ k₆
    clear F₅ N₅ k₆
    by_cases hl' : IsLet c
    · rw [decide_eq_true hl']
      have hu₈ : us.length ≤ 1000 := by rw [hI.length, List.length_map, List.length_take]; omega
      dsimp only
      k_steps
      rename Fr _ _ _ _ => F₅
      rename News _ _ _ _ => N₅
      refine go_on (c_letter_of (n := c) (G.push F₅ rfl) (by omega) (by omega) hl' (fun h₈ tk₈ t₈ k₈ => ?_))
      have F₈ := fr_on F₅ k₈
      have N₈ := news_on N₅ k₈
      clear F₅ N₅ k₈
      dsimp only
      k_steps
      rename Fr _ _ _ _ => F₂
      rename News _ _ _ _ => N₂
      simp only [List.push_toArray] at N₂
      refine TEnd.intro (nx := [(l₉, listOf (us ++ [_]).toArray (cc + 1))]) F₂ N₂ ⟨lets_take hLt hc hl', _, _, rfl, rfl, rfl, ?_⟩ rfl (List.forall_mem_cons.mpr ⟨by k_mem, List.forall_mem_nil _⟩) (fun p hp => by repeat (first | exact hp | refine List.Mem.tail _ ?_))
      rw [List.take_add_one, hc, List.map_append]
      exact strs_snoc hI
    · rw [decide_eq_false hl']
      have hnl : ¬ Lets xs := fun h => hl' (h c (List.mem_of_getElem? hc))
      dsimp only
      k_steps
      rename Heap.MadeExcOf _ _ _ _ _ => hx
      rename Fr _ _ _ _ => F₈
      exact go_on (A_raise G hx F₈ (fun h₉ t₉ R U => raise hnl _ _ _ _ _ R U) rfl)
  · rintro m₁ news₁ h₄ tk₄ ⟨hLt, us, cc, rfl, f1, f2, hI⟩ F₄ N₄
    clear F₉ N₉
    replace F₄ := fr_know (Str.ofString "found") F₄ f1
    rw [List.take_length] at hLt hI
    have hw₈ := letters_weight xs
    k_steps
    refine join_listW (lst_led N₄ (.head _)) (by simpa using hI) (by decide) (by rw [hw₈, List.length_map]; omega) (fun t₅ k₅ => ?_)
    dsimp only
    k_steps
    exact ret_str (s := s) (Q := Q) (ret hLt) ((PySem.StrLaws.glued_eq_join _ _).trans (join_letters xs)) F₄.keep
end

theorem c_text_of_len {l : Addr} {vs : List Value} {ns : List Int} (G : Gd (hd04.heap_39 w.params) hd04.view_39 (looseW hd04.view_39 []) mean mg mb base fr s.heap) (hd : dp + 4 < recursionLimit) (hu : un + 140 < cLine)
    (hl : s.heap.IsList l vs.toArray) (hi : IntsAre vs ns) (hz : ns.length ≤ 10000) (hr : IsRow ns) (hn : ns.length % 7 ≠ 0) (raise : True → ∀ e t us h' tk', RaisedS base s.heap fr e (.ref 49) t us [] h' → s.heap.UpToSlots h' → E (.ref e) { s with heap := h', toks := tk' })
    (ret : True) :
    wpAny (model PySem.Challenge.rw_uf040037_04.row.prog w) (arA dp un gd fr) (call (.ref 107) [.ref l]) Q E s := by
  revert G; k_fill; intro G
  refine' enter0 (binds := [(Str.ofString "row", .ref l)]) G ?k6 ?k7 ?k8 ?k9 ?kB ?_ ?c2 ?c3 ?c4 ?c5
  case k6 => k_is
  case k7 => k_is
  case k8 => omega
  case k9 => exact BindsTo.of_eq rfl
  case kB => exact locs rfl
  case c2 => exact rfl
  case c3 => exact rfl
  case c4 => exact rfl
  case c5 => decide
  intro L' h' tk F'
  have N' : News s.heap L' h' [] := News.nil
  have B' := G.below dp un gd
  have X' := G.kin
  have T' := G.top
  have hm0 := go_on (show ¬ ((ns.length : Int).fmod 7 = 0) by rw [Int.fmod_eq_emod_of_nonneg _ (by decide)]; omega)
  k_steps
  · rename Heap.MadeExcOf _ _ _ _ _ => hx
    rename Fr _ _ _ _ => F₈
    exact go_on (A_raise G hx F₈ (fun h₉ t₉ R U => raise trivial _ _ _ _ _ R U) rfl)
  · exact absurd (by assumption) hm0
section
local macro_rules | `(tactic| walk_at "call builtin:isinstance") => `(tactic| (refine' Mine.isi_exc ?iX ?iT ?iE ?iN ?_; (case iT => (intro M; exact Mine.exc_type (by assumption) (by k_mem) (by assumption))); (case iX => k_in); (case iE => kts_exm); (case iN => (intro e; cases e))))
local macro_rules | `(tactic| walk_at "bind") => `(tactic| ((with_reducible rename Fr _ _ _ _ => fF'); (with_reducible rename News _ _ _ _ => fN'); refine name_goes_keeps fF' fN' ?_ rfl rfl; intro _ _ _ _; clear fF' fN'; (try dsimp only)))

theorem c_law_refused_s {cs : List Nat} {t : Tok} (G : Gd (hd04.heap_39 w.params) hd04.view_39 (looseW hd04.view_39 []) mean mg mb base fr s.heap) (hd : dp + 5 < recursionLimit) (hu : un + 150 < cLine)
    (hz : cs.length ≤ 1000) (hbad : ¬ Lets cs)
    (ret : ∀ g' h' tk', KtsTurn (frs fr) s.heap g' → g'.StaysIn h' → Q (.bool true) { s with heap := h', toks := tk' }) :
    wpAny (model PySem.Challenge.rw_uf040037_04.row.prog w) (arA dp un gd fr) (call (.ref 147) [.str (Tx cs) t, .bool false]) Q E s := by
  revert G; k_fill; intro G
  refine' enter0 (binds := [(Str.ofString "_law_thing", .str (Tx cs) t), (Str.ofString "_law_reads", .bool false)]) G ?k6 ?k7 ?k8 ?k9 ?kB ?_ ?c2 ?c3 ?c4 ?c5
  case k6 => k_is
  case k7 => k_is
  case k8 => omega
  case k9 => exact BindsTo.of_eq rfl
  case kB => exact locs rfl
  case c2 => exact rfl
  case c3 => exact rfl
  case c4 => exact rfl
  case c5 => decide
  intro L' h' tk F'
  have N' : News s.heap L' h' [] := News.nil
  have B' := G.below dp un gd
  have X' := G.kin
  have T' := G.top
  k_steps
  rename Fr _ _ _ _ => F₉
  rename News _ _ _ _ => N₉
  refine go_on (for_rangeX (fs := frs fr) (L := L') (n := 2) (a₀ := 0) (b₀ := 2) (fun i m => (∃ tt, m (Str.ofString "_law_words") = some (.str (Tx (List.replicate i [110, 118]).flatten) tt)) ∧ m (Str.ofString "_law_thing") = some (.str (Tx cs) t) ∧ m (Str.ofString "_law_reads") = some (.bool false)) rfl rfl F₉ (by decide) (by decide) ?_ ⟨⟨_, rfl⟩, rfl, rfl⟩ ?_ ?_ rfl rfl (fun _ => rfl) (by passes_own))
  · intro Q' q
    k_steps
    exact q _ _ _ _ _ _ (by assumption) (by assumption)
  · rintro i ti m₁ g h₂ tk₂ own hin T ⟨⟨tt, f1⟩, f2, f3⟩ F₂ N₂
    have G₂ := G.turn T
    have B₂ := G₂.below dp un gd
    have X₂ := G₂.kin
    have T₂ := G₂.top
    clear F₉ N₉ B' X' T'
    replace F₂ := fr_know (Str.ofString "_law_words") (fr_know (Str.ofString "_law_thing") (fr_know (Str.ofString "_law_reads") F₂ f3) f2) f1
    k_steps
    refine go_on (wpAny_Try_except ?_)
    k_steps
    rename Fr _ _ _ _ => F₃
    rename News _ _ _ _ => N₃
    refine go_on (c_row_of (G₂.push F₃ rfl) (by omega) (by omega) hz (fun _ e t₃ us h₃ tk₃ R U => ?_) (fun h => absurd h hbad))
    refine A_look G₂ F₃ N₃ R U (fun h₄ h₅ F₅ R₅ U₅ => ?_)
    refine A_hitB G₂ F₅ R₅ U₅ (by kts_test) (fun h₇ g₇ tk₇ oe ot T₇ F₇ N₇ hc₇ hw₇ G₇ => ?_) rfl rfl
    have B₇ := G₇.below dp un gd
    have X₇ := G₇.kin
    have T₇' := G₇.top
    clear F₃ N₃ R U F₅ R₅ U₅ B₂ X₂ T₂
    have hwl : (Tx (List.replicate i [110, 118]).flatten).length ≤ 4 := by rw [Tx_length, List.length_flatten]; simp; omega
    dsimp only
    k_steps
    rename Fr _ _ _ _ => F₈
    rename News _ _ _ _ => N₈
    exact ⟨g₇, _, _, _, rfl, T₇, F₈, fun p hp => N₈ p (.tail _ (.tail _ hp)), ⟨_, congrArg (fun z => some (Value.str z _)) (words_nv i)⟩, rfl, rfl⟩
  · rintro m₁ g h₂ tk₂ ⟨⟨tt, f1⟩, f2, f3⟩ T F₂
    have G₂ := G.turn T
    have B₂ := G₂.below dp un gd
    have X₂ := G₂.kin
    have T₂ := G₂.top
    clear F₉ N₉ B' X' T'
    have N₂ : News g L' h₂ [] := News.nil
    replace F₂ := fr_know (Str.ofString "_law_words") F₂ f1
    dsimp only
    k_steps
    rw [show (Tx (List.replicate 2 [110, 118]).flatten == Str.ofString "nvnv") = true by decide +kernel]
    exact ret g _ _ T F₂.keep
end
section
local macro_rules | `(tactic| walk_at "call builtin:isinstance") => `(tactic| (refine' Mine.isi_exc ?iX ?iT ?iE ?iN ?_; (case iT => (intro M; exact Mine.exc_type (by assumption) (by k_mem) (by assumption))); (case iX => k_in); (case iE => kts_exm); (case iN => (intro e; cases e))))
local macro_rules | `(tactic| walk_at "bind") => `(tactic| ((with_reducible rename Fr _ _ _ _ => fF'); (with_reducible rename News _ _ _ _ => fN'); refine name_goes_keeps fF' fN' ?_ rfl rfl; intro _ _ _ _; clear fF' fN'; (try dsimp only)))

theorem c_law_refused_n  (G : Gd (hd04.heap_39 w.params) hd04.view_39 (looseW hd04.view_39 []) mean mg mb base fr s.heap) (hd : dp + 5 < recursionLimit) (hu : un + 150 < cLine)
    
    (ret : ∀ g' h' tk', KtsTurn (frs fr) s.heap g' → g'.StaysIn h' → Q (.bool true) { s with heap := h', toks := tk' }) :
    wpAny (model PySem.Challenge.rw_uf040037_04.row.prog w) (arA dp un gd fr) (call (.ref 147) [.none, .bool false]) Q E s := by
  revert G; k_fill; intro G
  refine' enter0 (binds := [(Str.ofString "_law_thing", .none), (Str.ofString "_law_reads", .bool false)]) G ?k6 ?k7 ?k8 ?k9 ?kB ?_ ?c2 ?c3 ?c4 ?c5
  case k6 => k_is
  case k7 => k_is
  case k8 => omega
  case k9 => exact BindsTo.of_eq rfl
  case kB => exact locs rfl
  case c2 => exact rfl
  case c3 => exact rfl
  case c4 => exact rfl
  case c5 => decide
  intro L' h' tk F'
  have N' : News s.heap L' h' [] := News.nil
  have B' := G.below dp un gd
  have X' := G.kin
  have T' := G.top
  k_steps
  rename Fr _ _ _ _ => F₉
  rename News _ _ _ _ => N₉
  refine go_on (for_rangeX (fs := frs fr) (L := L') (n := 2) (a₀ := 0) (b₀ := 2) (fun i m => (∃ tt, m (Str.ofString "_law_words") = some (.str (Tx (List.replicate i [110, 118]).flatten) tt)) ∧ m (Str.ofString "_law_thing") = some (.none) ∧ m (Str.ofString "_law_reads") = some (.bool false)) rfl rfl F₉ (by decide) (by decide) ?_ ⟨⟨_, rfl⟩, rfl, rfl⟩ ?_ ?_ rfl rfl (fun _ => rfl) (by passes_own))
  · intro Q' q
    k_steps
    exact q _ _ _ _ _ _ (by assumption) (by assumption)
  · rintro i ti m₁ g h₂ tk₂ own hin T ⟨⟨tt, f1⟩, f2, f3⟩ F₂ N₂
    have G₂ := G.turn T
    have B₂ := G₂.below dp un gd
    have X₂ := G₂.kin
    have T₂ := G₂.top
    clear F₉ N₉ B' X' T'
    replace F₂ := fr_know (Str.ofString "_law_words") (fr_know (Str.ofString "_law_thing") (fr_know (Str.ofString "_law_reads") F₂ f3) f2) f1
    k_steps
    refine go_on (wpAny_Try_except ?_)
    k_steps
    rename Fr _ _ _ _ => F₃
    rename News _ _ _ _ => N₃
    refine go_on (c_row_of_n (G₂.push F₃ rfl) (by omega) (by omega) (fun _ e t₃ us h₃ tk₃ R U => ?_) trivial)
    refine A_look G₂ F₃ N₃ R U (fun h₄ h₅ F₅ R₅ U₅ => ?_)
    refine A_hitB G₂ F₅ R₅ U₅ (by kts_test) (fun h₇ g₇ tk₇ oe ot T₇ F₇ N₇ hc₇ hw₇ G₇ => ?_) rfl rfl
    have B₇ := G₇.below dp un gd
    have X₇ := G₇.kin
    have T₇' := G₇.top
    clear F₃ N₃ R U F₅ R₅ U₅ B₂ X₂ T₂
    have hwl : (Tx (List.replicate i [110, 118]).flatten).length ≤ 4 := by rw [Tx_length, List.length_flatten]; simp; omega
    dsimp only
    k_steps
    rename Fr _ _ _ _ => F₈
    rename News _ _ _ _ => N₈
    exact ⟨g₇, _, _, _, rfl, T₇, F₈, fun p hp => N₈ p (.tail _ (.tail _ hp)), ⟨_, congrArg (fun z => some (Value.str z _)) (words_nv i)⟩, rfl, rfl⟩
  · rintro m₁ g h₂ tk₂ ⟨⟨tt, f1⟩, f2, f3⟩ T F₂
    have G₂ := G.turn T
    have B₂ := G₂.below dp un gd
    have X₂ := G₂.kin
    have T₂ := G₂.top
    clear F₉ N₉ B' X' T'
    have N₂ : News g L' h₂ [] := News.nil
    replace F₂ := fr_know (Str.ofString "_law_words") F₂ f1
    dsimp only
    k_steps
    rw [show (Tx (List.replicate 2 [110, 118]).flatten == Str.ofString "nvnv") = true by decide +kernel]
    exact ret g _ _ T F₂.keep
end
section
local macro_rules | `(tactic| walk_at "call builtin:isinstance") => `(tactic| (refine' Mine.isi_exc ?iX ?iT ?iE ?iN ?_; (case iT => (intro M; exact Mine.exc_type (by assumption) (by k_mem) (by assumption))); (case iX => k_in); (case iE => kts_exm); (case iN => (intro e; cases e))))
local macro_rules | `(tactic| walk_at "bind") => `(tactic| ((with_reducible rename Fr _ _ _ _ => fF'); (with_reducible rename News _ _ _ _ => fN'); refine name_goes_keeps fF' fN' ?_ rfl rfl; intro _ _ _ _; clear fF' fN'; (try dsimp only)))

theorem c_law_refused_i {b : Int} {t : Tok} (G : Gd (hd04.heap_39 w.params) hd04.view_39 (looseW hd04.view_39 []) mean mg mb base fr s.heap) (hd : dp + 5 < recursionLimit) (hu : un + 150 < cLine)
    
    (ret : ∀ g' h' tk', KtsTurn (frs fr) s.heap g' → g'.StaysIn h' → Q (.bool true) { s with heap := h', toks := tk' }) :
    wpAny (model PySem.Challenge.rw_uf040037_04.row.prog w) (arA dp un gd fr) (call (.ref 147) [.int b t, .bool false]) Q E s := by
  revert G; k_fill; intro G
  refine' enter0 (binds := [(Str.ofString "_law_thing", .int b t), (Str.ofString "_law_reads", .bool false)]) G ?k6 ?k7 ?k8 ?k9 ?kB ?_ ?c2 ?c3 ?c4 ?c5
  case k6 => k_is
  case k7 => k_is
  case k8 => omega
  case k9 => exact BindsTo.of_eq rfl
  case kB => exact locs rfl
  case c2 => exact rfl
  case c3 => exact rfl
  case c4 => exact rfl
  case c5 => decide
  intro L' h' tk F'
  have N' : News s.heap L' h' [] := News.nil
  have B' := G.below dp un gd
  have X' := G.kin
  have T' := G.top
  k_steps
  rename Fr _ _ _ _ => F₉
  rename News _ _ _ _ => N₉
  refine go_on (for_rangeX (fs := frs fr) (L := L') (n := 2) (a₀ := 0) (b₀ := 2) (fun i m => (∃ tt, m (Str.ofString "_law_words") = some (.str (Tx (List.replicate i [110, 118]).flatten) tt)) ∧ m (Str.ofString "_law_thing") = some (.int b t) ∧ m (Str.ofString "_law_reads") = some (.bool false)) rfl rfl F₉ (by decide) (by decide) ?_ ⟨⟨_, rfl⟩, rfl, rfl⟩ ?_ ?_ rfl rfl (fun _ => rfl) (by passes_own))
  · intro Q' q
    k_steps
    exact q _ _ _ _ _ _ (by assumption) (by assumption)
  · rintro i ti m₁ g h₂ tk₂ own hin T ⟨⟨tt, f1⟩, f2, f3⟩ F₂ N₂
    have G₂ := G.turn T
    have B₂ := G₂.below dp un gd
    have X₂ := G₂.kin
    have T₂ := G₂.top
    clear F₉ N₉ B' X' T'
    replace F₂ := fr_know (Str.ofString "_law_words") (fr_know (Str.ofString "_law_thing") (fr_know (Str.ofString "_law_reads") F₂ f3) f2) f1
    k_steps
    refine go_on (wpAny_Try_except ?_)
    k_steps
    rename Fr _ _ _ _ => F₃
    rename News _ _ _ _ => N₃
    refine go_on (c_row_of_i (G₂.push F₃ rfl) (by omega) (by omega) (fun _ e t₃ us h₃ tk₃ R U => ?_) trivial)
    refine A_look G₂ F₃ N₃ R U (fun h₄ h₅ F₅ R₅ U₅ => ?_)
    refine A_hitB G₂ F₅ R₅ U₅ (by kts_test) (fun h₇ g₇ tk₇ oe ot T₇ F₇ N₇ hc₇ hw₇ G₇ => ?_) rfl rfl
    have B₇ := G₇.below dp un gd
    have X₇ := G₇.kin
    have T₇' := G₇.top
    clear F₃ N₃ R U F₅ R₅ U₅ B₂ X₂ T₂
    have hwl : (Tx (List.replicate i [110, 118]).flatten).length ≤ 4 := by rw [Tx_length, List.length_flatten]; simp; omega
    dsimp only
    k_steps
    rename Fr _ _ _ _ => F₈
    rename News _ _ _ _ => N₈
    exact ⟨g₇, _, _, _, rfl, T₇, F₈, fun p hp => N₈ p (.tail _ (.tail _ hp)), ⟨_, congrArg (fun z => some (Value.str z _)) (words_nv i)⟩, rfl, rfl⟩
  · rintro m₁ g h₂ tk₂ ⟨⟨tt, f1⟩, f2, f3⟩ T F₂
    have G₂ := G.turn T
    have B₂ := G₂.below dp un gd
    have X₂ := G₂.kin
    have T₂ := G₂.top
    clear F₉ N₉ B' X' T'
    have N₂ : News g L' h₂ [] := News.nil
    replace F₂ := fr_know (Str.ofString "_law_words") F₂ f1
    dsimp only
    k_steps
    rw [show (Tx (List.replicate 2 [110, 118]).flatten == Str.ofString "nvnv") = true by decide +kernel]
    exact ret g _ _ T F₂.keep
end
section
local macro_rules | `(tactic| walk_at "call builtin:isinstance") => `(tactic| (refine' Mine.isi_exc ?iX ?iT ?iE ?iN ?_; (case iT => (intro M; exact Mine.exc_type (by assumption) (by k_mem) (by assumption))); (case iX => k_in); (case iE => kts_exm); (case iN => (intro e; cases e))))
local macro_rules | `(tactic| walk_at "bind") => `(tactic| ((with_reducible rename Fr _ _ _ _ => fF'); (with_reducible rename News _ _ _ _ => fN'); refine name_goes_keeps fF' fN' ?_ rfl rfl; intro _ _ _ _; clear fF' fN'; (try dsimp only)))

theorem c_law_refused_b {b : Bool} (G : Gd (hd04.heap_39 w.params) hd04.view_39 (looseW hd04.view_39 []) mean mg mb base fr s.heap) (hd : dp + 5 < recursionLimit) (hu : un + 150 < cLine)
    
    (ret : ∀ g' h' tk', KtsTurn (frs fr) s.heap g' → g'.StaysIn h' → Q (.bool true) { s with heap := h', toks := tk' }) :
    wpAny (model PySem.Challenge.rw_uf040037_04.row.prog w) (arA dp un gd fr) (call (.ref 147) [.bool b, .bool false]) Q E s := by
  revert G; k_fill; intro G
  refine' enter0 (binds := [(Str.ofString "_law_thing", .bool b), (Str.ofString "_law_reads", .bool false)]) G ?k6 ?k7 ?k8 ?k9 ?kB ?_ ?c2 ?c3 ?c4 ?c5
  case k6 => k_is
  case k7 => k_is
  case k8 => omega
  case k9 => exact BindsTo.of_eq rfl
  case kB => exact locs rfl
  case c2 => exact rfl
  case c3 => exact rfl
  case c4 => exact rfl
  case c5 => decide
  intro L' h' tk F'
  have N' : News s.heap L' h' [] := News.nil
  have B' := G.below dp un gd
  have X' := G.kin
  have T' := G.top
  k_steps
  rename Fr _ _ _ _ => F₉
  rename News _ _ _ _ => N₉
  refine go_on (for_rangeX (fs := frs fr) (L := L') (n := 2) (a₀ := 0) (b₀ := 2) (fun i m => (∃ tt, m (Str.ofString "_law_words") = some (.str (Tx (List.replicate i [110, 118]).flatten) tt)) ∧ m (Str.ofString "_law_thing") = some (.bool b) ∧ m (Str.ofString "_law_reads") = some (.bool false)) rfl rfl F₉ (by decide) (by decide) ?_ ⟨⟨_, rfl⟩, rfl, rfl⟩ ?_ ?_ rfl rfl (fun _ => rfl) (by passes_own))
  · intro Q' q
    k_steps
    exact q _ _ _ _ _ _ (by assumption) (by assumption)
  · rintro i ti m₁ g h₂ tk₂ own hin T ⟨⟨tt, f1⟩, f2, f3⟩ F₂ N₂
    have G₂ := G.turn T
    have B₂ := G₂.below dp un gd
    have X₂ := G₂.kin
    have T₂ := G₂.top
    clear F₉ N₉ B' X' T'
    replace F₂ := fr_know (Str.ofString "_law_words") (fr_know (Str.ofString "_law_thing") (fr_know (Str.ofString "_law_reads") F₂ f3) f2) f1
    k_steps
    refine go_on (wpAny_Try_except ?_)
    k_steps
    rename Fr _ _ _ _ => F₃
    rename News _ _ _ _ => N₃
    refine go_on (c_row_of_b (G₂.push F₃ rfl) (by omega) (by omega) (fun _ e t₃ us h₃ tk₃ R U => ?_) trivial)
    refine A_look G₂ F₃ N₃ R U (fun h₄ h₅ F₅ R₅ U₅ => ?_)
    refine A_hitB G₂ F₅ R₅ U₅ (by kts_test) (fun h₇ g₇ tk₇ oe ot T₇ F₇ N₇ hc₇ hw₇ G₇ => ?_) rfl rfl
    have B₇ := G₇.below dp un gd
    have X₇ := G₇.kin
    have T₇' := G₇.top
    clear F₃ N₃ R U F₅ R₅ U₅ B₂ X₂ T₂
    have hwl : (Tx (List.replicate i [110, 118]).flatten).length ≤ 4 := by rw [Tx_length, List.length_flatten]; simp; omega
    dsimp only
    k_steps
    rename Fr _ _ _ _ => F₈
    rename News _ _ _ _ => N₈
    exact ⟨g₇, _, _, _, rfl, T₇, F₈, fun p hp => N₈ p (.tail _ (.tail _ hp)), ⟨_, congrArg (fun z => some (Value.str z _)) (words_nv i)⟩, rfl, rfl⟩
  · rintro m₁ g h₂ tk₂ ⟨⟨tt, f1⟩, f2, f3⟩ T F₂
    have G₂ := G.turn T
    have B₂ := G₂.below dp un gd
    have X₂ := G₂.kin
    have T₂ := G₂.top
    clear F₉ N₉ B' X' T'
    have N₂ : News g L' h₂ [] := News.nil
    replace F₂ := fr_know (Str.ofString "_law_words") F₂ f1
    dsimp only
    k_steps
    rw [show (Tx (List.replicate 2 [110, 118]).flatten == Str.ofString "nvnv") = true by decide +kernel]
    exact ret g _ _ T F₂.keep
end
section
local macro_rules | `(tactic| walk_at "call builtin:isinstance") => `(tactic| (refine' Mine.isi_exc ?iX ?iT ?iE ?iN ?_; (case iT => (intro M; exact Mine.exc_type (by assumption) (by k_mem) (by assumption))); (case iX => k_in); (case iE => kts_exm); (case iN => (intro e; cases e))))
local macro_rules | `(tactic| walk_at "bind") => `(tactic| ((with_reducible rename Fr _ _ _ _ => fF'); (with_reducible rename News _ _ _ _ => fN'); refine name_goes_keeps fF' fN' ?_ rfl rfl; intro _ _ _ _; clear fF' fN'; (try dsimp only)))

theorem c_law_refused_l {l : Addr} {its : Array Value} (G : Gd (hd04.heap_39 w.params) hd04.view_39 (looseW hd04.view_39 []) mean mg mb base fr s.heap) (hd : dp + 5 < recursionLimit) (hu : un + 150 < cLine)
    (hl : s.heap.IsList l its) 
    (ret : ∀ g' h' tk', KtsTurn (frs fr) s.heap g' → g'.StaysIn h' → Q (.bool true) { s with heap := h', toks := tk' }) :
    wpAny (model PySem.Challenge.rw_uf040037_04.row.prog w) (arA dp un gd fr) (call (.ref 147) [.ref l, .bool false]) Q E s := by
  revert G; k_fill; intro G
  refine' enter0 (binds := [(Str.ofString "_law_thing", .ref l), (Str.ofString "_law_reads", .bool false)]) G ?k6 ?k7 ?k8 ?k9 ?kB ?_ ?c2 ?c3 ?c4 ?c5
  case k6 => k_is
  case k7 => k_is
  case k8 => omega
  case k9 => exact BindsTo.of_eq rfl
  case kB => exact locs rfl
  case c2 => exact rfl
  case c3 => exact rfl
  case c4 => exact rfl
  case c5 => decide
  intro L' h' tk F'
  have N' : News s.heap L' h' [] := News.nil
  have B' := G.below dp un gd
  have X' := G.kin
  have T' := G.top
  k_steps
  rename Fr _ _ _ _ => F₉
  rename News _ _ _ _ => N₉
  refine go_on (for_rangeX (fs := frs fr) (L := L') (n := 2) (a₀ := 0) (b₀ := 2) (fun i m => (∃ tt, m (Str.ofString "_law_words") = some (.str (Tx (List.replicate i [110, 118]).flatten) tt)) ∧ m (Str.ofString "_law_thing") = some (.ref l) ∧ m (Str.ofString "_law_reads") = some (.bool false)) rfl rfl F₉ (by decide) (by decide) ?_ ⟨⟨_, rfl⟩, rfl, rfl⟩ ?_ ?_ rfl rfl (fun _ => rfl) (by passes_own))
  · intro Q' q
    k_steps
    exact q _ _ _ _ _ _ (by assumption) (by assumption)
  · rintro i ti m₁ g h₂ tk₂ own hin T ⟨⟨tt, f1⟩, f2, f3⟩ F₂ N₂
    have G₂ := G.turn T
    have B₂ := G₂.below dp un gd
    have X₂ := G₂.kin
    have T₂ := G₂.top
    have hl₂ := list_turn T hl
    clear F₉ N₉ B' X' T'
    replace F₂ := fr_know (Str.ofString "_law_words") (fr_know (Str.ofString "_law_thing") (fr_know (Str.ofString "_law_reads") F₂ f3) f2) f1
    k_steps
    refine go_on (wpAny_Try_except ?_)
    k_steps
    rename Fr _ _ _ _ => F₃
    rename News _ _ _ _ => N₃
    refine go_on (c_row_of_l (G₂.push F₃ rfl) (by omega) (by omega) (lst_base F₃ hl₂) (fun _ e t₃ us h₃ tk₃ R U => ?_) trivial)
    refine A_look G₂ F₃ N₃ R U (fun h₄ h₅ F₅ R₅ U₅ => ?_)
    refine A_hitB G₂ F₅ R₅ U₅ (by kts_test) (fun h₇ g₇ tk₇ oe ot T₇ F₇ N₇ hc₇ hw₇ G₇ => ?_) rfl rfl
    have B₇ := G₇.below dp un gd
    have X₇ := G₇.kin
    have T₇' := G₇.top
    clear F₃ N₃ R U F₅ R₅ U₅ B₂ X₂ T₂
    have hwl : (Tx (List.replicate i [110, 118]).flatten).length ≤ 4 := by rw [Tx_length, List.length_flatten]; simp; omega
    dsimp only
    k_steps
    rename Fr _ _ _ _ => F₈
    rename News _ _ _ _ => N₈
    exact ⟨g₇, _, _, _, rfl, T₇, F₈, fun p hp => N₈ p (.tail _ (.tail _ hp)), ⟨_, congrArg (fun z => some (Value.str z _)) (words_nv i)⟩, rfl, rfl⟩
  · rintro m₁ g h₂ tk₂ ⟨⟨tt, f1⟩, f2, f3⟩ T F₂
    have G₂ := G.turn T
    have B₂ := G₂.below dp un gd
    have X₂ := G₂.kin
    have T₂ := G₂.top
    clear F₉ N₉ B' X' T'
    have N₂ : News g L' h₂ [] := News.nil
    replace F₂ := fr_know (Str.ofString "_law_words") F₂ f1
    dsimp only
    k_steps
    rw [show (Tx (List.replicate 2 [110, 118]).flatten == Str.ofString "nvnv") = true by decide +kernel]
    exact ret g _ _ T F₂.keep
end
section
local macro_rules | `(tactic| walk_at "call builtin:isinstance") => `(tactic| (refine' Mine.isi_exc ?iX ?iT ?iE ?iN ?_; (case iT => (intro M; exact Mine.exc_type (by assumption) (by k_mem) (by assumption))); (case iX => k_in); (case iE => kts_exm); (case iN => (intro e; cases e))))
local macro_rules | `(tactic| walk_at "bind") => `(tactic| ((with_reducible rename Fr _ _ _ _ => fF'); (with_reducible rename News _ _ _ _ => fN'); refine name_goes_keeps fF' fN' ?_ rfl rfl; intro _ _ _ _; clear fF' fN'; (try dsimp only)))

theorem c_law_refused_t {l : Addr} {its : Array Value} (G : Gd (hd04.heap_39 w.params) hd04.view_39 (looseW hd04.view_39 []) mean mg mb base fr s.heap) (hd : dp + 5 < recursionLimit) (hu : un + 150 < cLine)
    (hl : s.heap.IsTuple l its) 
    (ret : ∀ g' h' tk', KtsTurn (frs fr) s.heap g' → g'.StaysIn h' → Q (.bool true) { s with heap := h', toks := tk' }) :
    wpAny (model PySem.Challenge.rw_uf040037_04.row.prog w) (arA dp un gd fr) (call (.ref 147) [.ref l, .bool false]) Q E s := by
  revert G; k_fill; intro G
  refine' enter0 (binds := [(Str.ofString "_law_thing", .ref l), (Str.ofString "_law_reads", .bool false)]) G ?k6 ?k7 ?k8 ?k9 ?kB ?_ ?c2 ?c3 ?c4 ?c5
  case k6 => k_is
  case k7 => k_is
  case k8 => omega
  case k9 => exact BindsTo.of_eq rfl
  case kB => exact locs rfl
  case c2 => exact rfl
  case c3 => exact rfl
  case c4 => exact rfl
  case c5 => decide
  intro L' h' tk F'
  have N' : News s.heap L' h' [] := News.nil
  have B' := G.below dp un gd
  have X' := G.kin
  have T' := G.top
  k_steps
  rename Fr _ _ _ _ => F₉
  rename News _ _ _ _ => N₉
  refine go_on (for_rangeX (fs := frs fr) (L := L') (n := 2) (a₀ := 0) (b₀ := 2) (fun i m => (∃ tt, m (Str.ofString "_law_words") = some (.str (Tx (List.replicate i [110, 118]).flatten) tt)) ∧ m (Str.ofString "_law_thing") = some (.ref l) ∧ m (Str.ofString "_law_reads") = some (.bool false)) rfl rfl F₉ (by decide) (by decide) ?_ ⟨⟨_, rfl⟩, rfl, rfl⟩ ?_ ?_ rfl rfl (fun _ => rfl) (by passes_own))
  · intro Q' q
    k_steps
    exact q _ _ _ _ _ _ (by assumption) (by assumption)
  · rintro i ti m₁ g h₂ tk₂ own hin T ⟨⟨tt, f1⟩, f2, f3⟩ F₂ N₂
    have G₂ := G.turn T
    have B₂ := G₂.below dp un gd
    have X₂ := G₂.kin
    have T₂ := G₂.top
    have hl₂ := tuple_turn T hl
    clear F₉ N₉ B' X' T'
    replace F₂ := fr_know (Str.ofString "_law_words") (fr_know (Str.ofString "_law_thing") (fr_know (Str.ofString "_law_reads") F₂ f3) f2) f1
    k_steps
    refine go_on (wpAny_Try_except ?_)
    k_steps
    rename Fr _ _ _ _ => F₃
    rename News _ _ _ _ => N₃
    refine go_on (c_row_of_t (G₂.push F₃ rfl) (by omega) (by omega) (tup_base F₃ hl₂) (fun _ e t₃ us h₃ tk₃ R U => ?_) trivial)
    refine A_look G₂ F₃ N₃ R U (fun h₄ h₅ F₅ R₅ U₅ => ?_)
    refine A_hitB G₂ F₅ R₅ U₅ (by kts_test) (fun h₇ g₇ tk₇ oe ot T₇ F₇ N₇ hc₇ hw₇ G₇ => ?_) rfl rfl
    have B₇ := G₇.below dp un gd
    have X₇ := G₇.kin
    have T₇' := G₇.top
    clear F₃ N₃ R U F₅ R₅ U₅ B₂ X₂ T₂
    have hwl : (Tx (List.replicate i [110, 118]).flatten).length ≤ 4 := by rw [Tx_length, List.length_flatten]; simp; omega
    dsimp only
    k_steps
    rename Fr _ _ _ _ => F₈
    rename News _ _ _ _ => N₈
    exact ⟨g₇, _, _, _, rfl, T₇, F₈, fun p hp => N₈ p (.tail _ (.tail _ hp)), ⟨_, congrArg (fun z => some (Value.str z _)) (words_nv i)⟩, rfl, rfl⟩
  · rintro m₁ g h₂ tk₂ ⟨⟨tt, f1⟩, f2, f3⟩ T F₂
    have G₂ := G.turn T
    have B₂ := G₂.below dp un gd
    have X₂ := G₂.kin
    have T₂ := G₂.top
    clear F₉ N₉ B' X' T'
    have N₂ : News g L' h₂ [] := News.nil
    replace F₂ := fr_know (Str.ofString "_law_words") F₂ f1
    dsimp only
    k_steps
    rw [show (Tx (List.replicate 2 [110, 118]).flatten == Str.ofString "nvnv") = true by decide +kernel]
    exact ret g _ _ T F₂.keep
end
section
local macro_rules | `(tactic| walk_at "call builtin:isinstance") => `(tactic| (refine' Mine.isi_exc ?iX ?iT ?iE ?iN ?_; (case iT => (intro M; exact Mine.exc_type (by assumption) (by k_mem) (by assumption))); (case iX => k_in); (case iE => kts_exm); (case iN => (intro e; cases e))))
local macro_rules | `(tactic| walk_at "bind") => `(tactic| ((with_reducible rename Fr _ _ _ _ => fF'); (with_reducible rename News _ _ _ _ => fN'); refine name_goes_keeps fF' fN' ?_ rfl rfl; intro _ _ _ _; clear fF' fN'; (try dsimp only)))

theorem c_law_refused_len {l : Addr} {vs : List Value} {ns : List Int} (G : Gd (hd04.heap_39 w.params) hd04.view_39 (looseW hd04.view_39 []) mean mg mb base fr s.heap) (hd : dp + 5 < recursionLimit) (hu : un + 150 < cLine)
    (hl : s.heap.IsList l vs.toArray) (hi : IntsAre vs ns) (hz : ns.length ≤ 10000) (hr : IsRow ns) (hn : ns.length % 7 ≠ 0)
    (ret : ∀ g' h' tk', KtsTurn (frs fr) s.heap g' → g'.StaysIn h' → Q (.bool true) { s with heap := h', toks := tk' }) :
    wpAny (model PySem.Challenge.rw_uf040037_04.row.prog w) (arA dp un gd fr) (call (.ref 147) [.ref l, .bool true]) Q E s := by
  revert G; k_fill; intro G
  refine' enter0 (binds := [(Str.ofString "_law_thing", .ref l), (Str.ofString "_law_reads", .bool true)]) G ?k6 ?k7 ?k8 ?k9 ?kB ?_ ?c2 ?c3 ?c4 ?c5
  case k6 => k_is
  case k7 => k_is
  case k8 => omega
  case k9 => exact BindsTo.of_eq rfl
  case kB => exact locs rfl
  case c2 => exact rfl
  case c3 => exact rfl
  case c4 => exact rfl
  case c5 => decide
  intro L' h' tk F'
  have N' : News s.heap L' h' [] := News.nil
  have B' := G.below dp un gd
  have X' := G.kin
  have T' := G.top
  k_steps
  rename Fr _ _ _ _ => F₉
  rename News _ _ _ _ => N₉
  refine go_on (for_rangeX (fs := frs fr) (L := L') (n := 2) (a₀ := 0) (b₀ := 2) (fun i m => (∃ tt, m (Str.ofString "_law_words") = some (.str (Tx (List.replicate i [110, 118]).flatten) tt)) ∧ m (Str.ofString "_law_thing") = some (.ref l) ∧ m (Str.ofString "_law_reads") = some (.bool true)) rfl rfl F₉ (by decide) (by decide) ?_ ⟨⟨_, rfl⟩, rfl, rfl⟩ ?_ ?_ rfl rfl (fun _ => rfl) (by passes_own))
  · intro Q' q
    k_steps
    exact q _ _ _ _ _ _ (by assumption) (by assumption)
  · rintro i ti m₁ g h₂ tk₂ own hin T ⟨⟨tt, f1⟩, f2, f3⟩ F₂ N₂
    have G₂ := G.turn T
    have B₂ := G₂.below dp un gd
    have X₂ := G₂.kin
    have T₂ := G₂.top
    have hl₂ := list_turn T hl
    clear F₉ N₉ B' X' T'
    replace F₂ := fr_know (Str.ofString "_law_words") (fr_know (Str.ofString "_law_thing") (fr_know (Str.ofString "_law_reads") F₂ f3) f2) f1
    k_steps
    refine go_on (wpAny_Try_except ?_)
    k_steps
    rename Fr _ _ _ _ => F₃
    rename News _ _ _ _ => N₃
    refine go_on (c_text_of_len (G₂.push F₃ rfl) (by omega) (by omega) (lst_base F₃ hl₂) hi hz hr hn (fun _ e t₃ us h₃ tk₃ R U => ?_) trivial)
    refine A_look G₂ F₃ N₃ R U (fun h₄ h₅ F₅ R₅ U₅ => ?_)
    refine A_hitB G₂ F₅ R₅ U₅ (by kts_test) (fun h₇ g₇ tk₇ oe ot T₇ F₇ N₇ hc₇ hw₇ G₇ => ?_) rfl rfl
    have B₇ := G₇.below dp un gd
    have X₇ := G₇.kin
    have T₇' := G₇.top
    clear F₃ N₃ R U F₅ R₅ U₅ B₂ X₂ T₂
    have hwl : (Tx (List.replicate i [110, 118]).flatten).length ≤ 4 := by rw [Tx_length, List.length_flatten]; simp; omega
    dsimp only
    k_steps
    rename Fr _ _ _ _ => F₈
    rename News _ _ _ _ => N₈
    exact ⟨g₇, _, _, _, rfl, T₇, F₈, fun p hp => N₈ p (.tail _ (.tail _ hp)), ⟨_, congrArg (fun z => some (Value.str z _)) (words_nv i)⟩, rfl, rfl⟩
  · rintro m₁ g h₂ tk₂ ⟨⟨tt, f1⟩, f2, f3⟩ T F₂
    have G₂ := G.turn T
    have B₂ := G₂.below dp un gd
    have X₂ := G₂.kin
    have T₂ := G₂.top
    clear F₉ N₉ B' X' T'
    have N₂ : News g L' h₂ [] := News.nil
    replace F₂ := fr_know (Str.ofString "_law_words") F₂ f1
    dsimp only
    k_steps
    rw [show (Tx (List.replicate 2 [110, 118]).flatten == Str.ofString "nvnv") = true by decide +kernel]
    exact ret g _ _ T F₂.keep
end
section
local macro_rules | `(tactic| walk_at "call builtin:isinstance") => `(tactic| (refine' Mine.isi_exc ?iX ?iT ?iE ?iN ?_; (case iT => (intro M; exact Mine.exc_type (by assumption) (by k_mem) (by assumption))); (case iX => k_in); (case iE => kts_exm); (case iN => (intro e; cases e))))
local macro_rules | `(tactic| walk_at "bind") => `(tactic| ((with_reducible rename Fr _ _ _ _ => fF'); (with_reducible rename News _ _ _ _ => fN'); refine name_goes_keeps fF' fN' ?_ rfl rfl; intro _ _ _ _; clear fF' fN'; (try dsimp only)))

theorem c_law_refused_odd {l : Addr} {vs : List Value} {xs : List Nat} (G : Gd (hd04.heap_39 w.params) hd04.view_39 (looseW hd04.view_39 []) mean mg mb base fr s.heap) (hd : dp + 5 < recursionLimit) (hu : un + 150 < cLine)
    (hl : s.heap.IsList l vs.toArray) (hi : IntsAre vs (flat7 xs)) (hz : xs.length ≤ 1000) (hx : ∀ c ∈ xs, c < 128) (hbad : ¬ Lets xs)
    (ret : ∀ g' h' tk', KtsTurn (frs fr) s.heap g' → g'.StaysIn h' → Q (.bool true) { s with heap := h', toks := tk' }) :
    wpAny (model PySem.Challenge.rw_uf040037_04.row.prog w) (arA dp un gd fr) (call (.ref 147) [.ref l, .bool true]) Q E s := by
  revert G; k_fill; intro G
  refine' enter0 (binds := [(Str.ofString "_law_thing", .ref l), (Str.ofString "_law_reads", .bool true)]) G ?k6 ?k7 ?k8 ?k9 ?kB ?_ ?c2 ?c3 ?c4 ?c5
  case k6 => k_is
  case k7 => k_is
  case k8 => omega
  case k9 => exact BindsTo.of_eq rfl
  case kB => exact locs rfl
  case c2 => exact rfl
  case c3 => exact rfl
  case c4 => exact rfl
  case c5 => decide
  intro L' h' tk F'
  have N' : News s.heap L' h' [] := News.nil
  have B' := G.below dp un gd
  have X' := G.kin
  have T' := G.top
  k_steps
  rename Fr _ _ _ _ => F₉
  rename News _ _ _ _ => N₉
  refine go_on (for_rangeX (fs := frs fr) (L := L') (n := 2) (a₀ := 0) (b₀ := 2) (fun i m => (∃ tt, m (Str.ofString "_law_words") = some (.str (Tx (List.replicate i [110, 118]).flatten) tt)) ∧ m (Str.ofString "_law_thing") = some (.ref l) ∧ m (Str.ofString "_law_reads") = some (.bool true)) rfl rfl F₉ (by decide) (by decide) ?_ ⟨⟨_, rfl⟩, rfl, rfl⟩ ?_ ?_ rfl rfl (fun _ => rfl) (by passes_own))
  · intro Q' q
    k_steps
    exact q _ _ _ _ _ _ (by assumption) (by assumption)
  · rintro i ti m₁ g h₂ tk₂ own hin T ⟨⟨tt, f1⟩, f2, f3⟩ F₂ N₂
    have G₂ := G.turn T
    have B₂ := G₂.below dp un gd
    have X₂ := G₂.kin
    have T₂ := G₂.top
    have hl₂ := list_turn T hl
    clear F₉ N₉ B' X' T'
    replace F₂ := fr_know (Str.ofString "_law_words") (fr_know (Str.ofString "_law_thing") (fr_know (Str.ofString "_law_reads") F₂ f3) f2) f1
    k_steps
    refine go_on (wpAny_Try_except ?_)
    k_steps
    rename Fr _ _ _ _ => F₃
    rename News _ _ _ _ => N₃
    refine go_on (c_text_of (G₂.push F₃ rfl) (by omega) (by omega) (lst_base F₃ hl₂) hi hz hx (fun _ e t₃ us h₃ tk₃ R U => ?_) (fun h => absurd h hbad))
    refine A_look G₂ F₃ N₃ R U (fun h₄ h₅ F₅ R₅ U₅ => ?_)
    refine A_hitB G₂ F₅ R₅ U₅ (by kts_test) (fun h₇ g₇ tk₇ oe ot T₇ F₇ N₇ hc₇ hw₇ G₇ => ?_) rfl rfl
    have B₇ := G₇.below dp un gd
    have X₇ := G₇.kin
    have T₇' := G₇.top
    clear F₃ N₃ R U F₅ R₅ U₅ B₂ X₂ T₂
    have hwl : (Tx (List.replicate i [110, 118]).flatten).length ≤ 4 := by rw [Tx_length, List.length_flatten]; simp; omega
    dsimp only
    k_steps
    rename Fr _ _ _ _ => F₈
    rename News _ _ _ _ => N₈
    exact ⟨g₇, _, _, _, rfl, T₇, F₈, fun p hp => N₈ p (.tail _ (.tail _ hp)), ⟨_, congrArg (fun z => some (Value.str z _)) (words_nv i)⟩, rfl, rfl⟩
  · rintro m₁ g h₂ tk₂ ⟨⟨tt, f1⟩, f2, f3⟩ T F₂
    have G₂ := G.turn T
    have B₂ := G₂.below dp un gd
    have X₂ := G₂.kin
    have T₂ := G₂.top
    clear F₉ N₉ B' X' T'
    have N₂ : News g L' h₂ [] := News.nil
    replace F₂ := fr_know (Str.ofString "_law_words") F₂ f1
    dsimp only
    k_steps
    rw [show (Tx (List.replicate 2 [110, 118]).flatten == Str.ofString "nvnv") = true by decide +kernel]
    exact ret g _ _ T F₂.keep
end

def Sz4 (s : Shared) (g : Heap) (L l : Addr) (s' : Shared) : Prop :=
  ∃ h tk m a ta, s' = { s with heap := h, toks := tk } ∧ Fr g L h m ∧ m (Str.ofString "_law_script") = some (.ref l) ∧ m (Str.ofString "_law_size") = some (.int a ta) ∧ 0 ≤ a ∧ a ≤ 600
section
local macro_rules | `(tactic| walk_at "call builtin:list.extend") => `(tactic| refine Mine.stop_of ?_)
local macro_rules | `(tactic| walk_at "subscriptTail Name Slice ref ref") => `(tactic| refine Mine.stop_of ?_)

theorem c_law {l : Addr} {vs : List Value} {ns : List Int} (G : Gd (hd04.heap_39 w.params) hd04.view_39 (looseW hd04.view_39 []) mean mg mb base fr s.heap) (hd : dp + 6 < recursionLimit) (hu : un + 160 < cLine)
    (hl : s.heap.IsList l vs.toArray) (hi : IntsAre vs ns) (hz : ns.length ≤ 63)
    (ret : ∀ g' h' tk', KtsTurn (frs fr) s.heap g' → g'.StaysIn h' → Q (.bool true) { s with heap := h', toks := tk' }) :
    wpAny (model PySem.Challenge.rw_uf040037_04.row.prog w) (arA dp un gd fr) (call (.ref 154) [.ref l]) Q E s := by
  revert G; k_fill; intro G
  refine' enter0 (binds := [(Str.ofString "_law_script", .ref l)]) G ?k6 ?k7 ?k8 ?k9 ?kB ?_ ?c2 ?c3 ?c4 ?c5
  case k6 => k_is
  case k7 => k_is
  case k8 => omega
  case k9 => exact BindsTo.of_eq rfl
  case kB => exact locs rfl
  case c2 => exact rfl
  case c3 => exact rfl
  case c4 => exact rfl
  case c5 => decide
  intro L' h' tk F'
  have N' : News s.heap L' h' [] := News.nil
  have B' := G.below dp un gd
  have X' := G.kin
  have T' := G.top
  refine hide1 fun r₁ hr₁ => ?_
  k_steps
  subst hr₁
  dsimp only
  rename Fr _ _ _ _ => F₁
  rename News _ _ _ _ => N₁
  refine cut (Sz4 s s.heap L' l) ?_ ?_
  · k_steps
    · rename Fr _ _ _ _ => F₈
      exact ⟨rfl, _, _, _, _, _, rfl, F₈, rfl, rfl, fm_ge _ _ (by decide), Int.le_trans (fm_le _ _ 200 (by decide) (by decide)) (by decide)⟩
    · rename Fr _ _ _ _ => F₈
      exact ⟨rfl, _, _, _, _, _, rfl, F₈, rfl, rfl, fm_ge _ _ (by decide), Int.le_trans (fm_le _ _ 12 (by decide) (by decide)) (by decide)⟩
  clear F₁ N₁
  rintro s' ⟨h₂, tk₂, m₂, a, ta, rfl, F₂, e1, e2, ha0, ha1⟩
  replace F₂ := fr_know (Str.ofString "_law_size") (fr_know (Str.ofString "_law_script") F₂ e1) e2
  have N₂ : News s.heap L' h₂ [] := News.nil
  refine cut (Sz4 s s.heap L' l) ?_ ?_
  · k_steps
    · rename Fr _ _ _ _ => F₈
      exact ⟨rfl, _, _, _, _, _, rfl, F₈, rfl, rfl, fm_ge _ _ (by decide), fm_le _ _ 600 (by decide) (by decide)⟩
    · rename Fr _ _ _ _ => F₈
      exact ⟨rfl, _, _, _, _, _, rfl, F₈, rfl, rfl, ha0, ha1⟩
  clear F₂ N₂ e1 e2 ha0 ha1 a ta m₂
  rintro s' ⟨h₃, tk₃, m₃, a, ta, rfl, F₃, e1, e2, ha0, ha1⟩
  obtain ⟨a, rfl⟩ := Int.eq_ofNat_of_zero_le ha0
  replace F₃ := fr_know (Str.ofString "_law_size") (fr_know (Str.ofString "_law_script") F₃ e1) e2
  have N₃ : News s.heap L' h₃ [] := News.nil
  clear e1 e2 ha0
  k_steps
  rename Fr _ _ _ _ => F₅
  rename News _ _ _ _ => N₅
  refine go_on (c_law_text_by (n := a) (G.push F₅ rfl) (by omega) (by omega) (by omega) (fun h₆ tk₆ t₆ cs k₆ hLt hlc => ?_))
  have F₆ := fr_on F₅ k₆
  have N₆ := news_on N₅ k₆
  clear F₅ N₅ k₆
  dsimp only
  k_steps
  rename_i l₉ _ _ _ F₉ N₉
  refine go_on (for_text (L := L') (cs := cs) (fun i m nx => ∃ (us : List Value) (cc : Nat), nx = [(l₉, listOf us.toArray cc)] ∧ m (Str.ofString "_law_due") = some (.ref l₉) ∧ IntsAre us (flat7 (cs.take i)) ∧ m (Str.ofString "_law_script") = some (.ref l) ∧ (∃ t, m (Str.ofString "_law_size") = some (.int (a : Int) t)) ∧ (∃ t, m (Str.ofString "_law_text") = some (.str (Tx cs) t))) rfl rfl F₉ N₉ (fun Q' q => ld F₉ rfl (q _ _ _ F₉ N₉)) ⟨[], 0, rfl, rfl, .nil, rfl, ⟨_, rfl⟩, ⟨_, rfl⟩⟩ ?_ ?_ rfl rfl (fun _ => rfl) (by passes_own))
  · rintro i c tc m₁ news₁ h₄ tk₄ own hc hadr ho ⟨us, cc, rfl, f1, hI, f2, ⟨tz, f3⟩, ⟨tx, f4⟩⟩ F₄ N₄
    clear F₉ N₉
    replace F₄ := fr_know (Str.ofString "_law_due") (fr_know (Str.ofString "_law_script") (fr_know (Str.ofString "_law_size") (fr_know (Str.ofString "_law_text") F₄ f4) f3) f2) f1
    have hT₁ : (⟨#[c]⟩ : Str).length = 1 := rfl
    have hcl := hLt c (List.mem_of_getElem? hc)
    have hc126 : c ≤ 126 := hcl.2.1
    simp only [List.cons_append, List.nil_append] at N₄
    k_steps
    rename Fr _ _ _ _ => FS1
    rename News _ _ _ _ => NS1
    refine go_on (c_law_seven (n := c) (G.push FS1 rfl) (by omega) (by omega) (by omega) (fun hS1 tS1 DS1 vS1 cS1 kS1 nS1 oS1 iS1 => ?_))
    have FT1 := fr_on FS1 kS1
    have neS1 := allNe_of (news_ne NS1 nS1)
    simp only [AllNe, and_true] at neS1
    have NT1 := news_more FS1 NS1 kS1 nS1 oS1
    clear FS1 NS1 kS1 nS1 oS1
    have hsl1 := signsOf_length c 7
    have hsr1 := signsOf_isRow c 7
    have hv₈ : vS1.length = 7 := by rw [iS1.length, hsl1]
    have hil := (List.getElem?_eq_some_iff.mp hc).1
    have hu₈ : us.length ≤ 7000 := by rw [hI.length, flat7_length, List.length_take]; omega
    dsimp only
    k_steps
    rename Fr _ _ _ _ => F₉
    rename News _ _ _ _ => N₉
    refine' go_on (kl_extend (l := us ++ vS1) ?xF ?xN ?xb ?xe ?xn ?xU ?xd ?xz ?xy ?_)
    case xF => exact F₉
    case xN => exact N₉
    case xU => k_upd
    case xb => k_mem
    case xe => simp
    case xn => simp only [List.toList_toArray]; omega
    case xd => simp only [Bool.and_eq_true, not_and]; intro _; exact too_not (by simp only [List.size_toArray]; omega)
    case xz => simp only [List.toList_toArray]; rw [sizeLine_eq]; omega
    case xy => simp only [List.size_toArray]; rw [sizeLine_eq]; omega
    intro h₁ F₁ N₁
    clear F₉ N₉
    dsimp only
    k_steps
    rename Fr _ _ _ _ => F₂
    rename News _ _ _ _ => N₂
    refine TEnd.intro (nx := [(l₉, listOf (us ++ vS1).toArray (cc + 1))]) F₂ N₂ ⟨_, _, rfl, rfl, ?_, rfl, ⟨_, rfl⟩, ⟨_, rfl⟩⟩ rfl (List.forall_mem_cons.mpr ⟨by k_mem, List.forall_mem_nil _⟩) (fun p hp => .tail _ (.tail _ hp))
    rw [List.take_add_one, hc, flat7_append, Option.toList_some, flat7_one]
    exact hI.append iS1
  rintro m₁ news₁ h₄ tk₄ ⟨us, cc, rfl, f1, hI, f2, ⟨tz, f3⟩, ⟨tx, f4⟩⟩ F₄ N₄
  clear F₉ N₉
  replace F₄ := fr_know (Str.ofString "_law_due") (fr_know (Str.ofString "_law_script") (fr_know (Str.ofString "_law_size") (fr_know (Str.ofString "_law_text") F₄ f4) f3) f2) f1
  clear f1 f2 f3 f4
  rw [List.take_length] at hI
  have hdl := flat7_length cs
  have hdr := flat7_isRow cs
  dsimp only
  refine hide3 fun r₁ hr₁ => ?_
  k_steps
  subst hr₁
  dsimp only
  have hw0 := fm_ge (ns.getD (Int.toNat 2) 0) 12 (by decide)
  generalize (ns.getD (Int.toNat 2) 0).fmod 12 = wy at *
  have hp0 := fm_ge (ns.getD (Int.toNat 3) 0) ((a : Int) + 1) (by omega)
  have hp1 := fm_le (ns.getD (Int.toNat 3) 0) ((a : Int) + 1) (a : Int) (by omega) (by omega)
  generalize (ns.getD (Int.toNat 3) 0).fmod ((a : Int) + 1) = k at *
  obtain ⟨k, rfl⟩ := Int.eq_ofNat_of_zero_le hp0
  generalize ns.getD (Int.toNat 4) 0 = mo at *
  have hTl := Tx_length cs
  have hw : wy = 1 ∨ wy = 2 ∨ wy = 3 ∨ wy = 4 ∨ wy = 0 ∨ 5 ≤ wy := by omega
  rcases hw with rfl | rfl | rfl | rfl | rfl | hw5
  · k_steps
    · rename Fr _ _ _ _ => FC10
      rename News _ _ _ _ => NC10
      rw [take_text (by omega), drop_text (by omega), show Str.ofString "\n" = Tx [10] from rfl, Tx_append, Tx_append]
      refine' go_on (c_law_refused_s (G.push FC10 rfl) ?hd ?hu ?sz ?sb ?_)
      case hd => omega
      case hu => omega
      case sz => rw [List.length_append, List.length_append, List.length_take, List.length_drop]; simp; omega
      case sb => exact not_lets_mid (c := 10) (by decide)
      intro gD10 hD10 tD10 TD10 kD10
      obtain ⟨gE10, TE10, FE10, NE10⟩ := turn_call G FC10 NC10 rfl TD10 kD10
      exact ret gE10 _ _ TE10 FE10.keep
    · rename Fr _ _ _ _ => FC11
      rename News _ _ _ _ => NC11
      rw [take_text (by omega), drop_text (by omega), show Str.ofString "\t" = Tx [9] from rfl, Tx_append, Tx_append]
      refine' go_on (c_law_refused_s (G.push FC11 rfl) ?hd ?hu ?sz ?sb ?_)
      case hd => omega
      case hu => omega
      case sz => rw [List.length_append, List.length_append, List.length_take, List.length_drop]; simp; omega
      case sb => exact not_lets_mid (c := 9) (by decide)
      intro gD11 hD11 tD11 TD11 kD11
      obtain ⟨gE11, TE11, FE11, NE11⟩ := turn_call G FC11 NC11 rfl TD11 kD11
      exact ret gE11 _ _ TE11 FE11.keep
  · k_steps
    · rename Fr _ _ _ _ => FC20
      rename News _ _ _ _ => NC20
      refine' go_on (c_law_refused_n (G.push FC20 rfl) ?hd ?hu  ?_)
      case hd => omega
      case hu => omega
      intro gD20 hD20 tD20 TD20 kD20
      obtain ⟨gE20, TE20, FE20, NE20⟩ := turn_call G FC20 NC20 rfl TD20 kD20
      exact ret gE20 _ _ TE20 FE20.keep
    · rename Fr _ _ _ _ => FC21
      rename News _ _ _ _ => NC21
      refine' go_on (c_law_refused_i (G.push FC21 rfl) ?hd ?hu  ?_)
      case hd => omega
      case hu => omega
      intro gD21 hD21 tD21 TD21 kD21
      obtain ⟨gE21, TE21, FE21, NE21⟩ := turn_call G FC21 NC21 rfl TD21 kD21
      exact ret gE21 _ _ TE21 FE21.keep
    · rename Fr _ _ _ _ => FC22
      rename News _ _ _ _ => NC22
      refine' go_on (c_law_refused_l (G.push FC22 rfl) ?hd ?hu ?rl ?_)
      case hd => omega
      case hu => omega
      case rl => exact lst_led NC22 (by k_mem)
      intro gD22 hD22 tD22 TD22 kD22
      obtain ⟨gE22, TE22, FE22, NE22⟩ := turn_call G FC22 NC22 rfl TD22 kD22
      exact ret gE22 _ _ TE22 FE22.keep
    · rename Fr _ _ _ _ => FC23
      rename News _ _ _ _ => NC23
      refine' go_on (c_law_refused_l (G.push FC23 rfl) ?hd ?hu ?rl ?_)
      case hd => omega
      case hu => omega
      case rl => exact lst_led NC23 (by k_mem)
      intro gD23 hD23 tD23 TD23 kD23
      obtain ⟨gE23, TE23, FE23, NE23⟩ := turn_call G FC23 NC23 rfl TD23 kD23
      exact ret gE23 _ _ TE23 FE23.keep
    · rename Fr _ _ _ _ => FC24
      rename News _ _ _ _ => NC24
      refine' go_on (c_law_refused_t (G.push FC24 rfl) ?hd ?hu ?rl ?_)
      case hd => omega
      case hu => omega
      case rl => exact tup_led NC24 (by k_mem)
      intro gD24 hD24 tD24 TD24 kD24
      obtain ⟨gE24, TE24, FE24, NE24⟩ := turn_call G FC24 NC24 rfl TD24 kD24
      exact ret gE24 _ _ TE24 FE24.keep
    · rename Fr _ _ _ _ => FC25
      rename News _ _ _ _ => NC25
      refine' go_on (c_law_refused_b (G.push FC25 rfl) ?hd ?hu  ?_)
      case hd => omega
      case hu => omega
      intro gD25 hD25 tD25 TD25 kD25
      obtain ⟨gE25, TE25, FE25, NE25⟩ := turn_call G FC25 NC25 rfl TD25 kD25
      exact ret gE25 _ _ TE25 FE25.keep
  · have hq0 := fm_ge (mo.fdiv 24) 26 (by decide)
    have hq1 := fm_le (mo.fdiv 24) 26 25 (by decide) (by decide)
    have hs0 := fm_ge mo 6 (by decide)
    have hs1 := fm_le mo 6 5 (by decide) (by decide)
    have hb0 := fm_ge (mo.fdiv 6) 2 (by decide)
    have hb1 := fm_le (mo.fdiv 6) 2 1 (by decide) (by decide)
    k_steps
    · generalize (mo.fdiv 24).fmod 26 = q at *
      obtain ⟨q, rfl⟩ := Int.eq_ofNat_of_zero_le hq0
      rw [show (38 : Int) + (q : Int) = ((38 + q : Nat) : Int) by omega]
      rename Fr _ _ _ _ => FS2
      rename News _ _ _ _ => NS2
      refine go_on (c_law_seven (n := (38 + q)) (G.push FS2 rfl) (by omega) (by omega) (by omega) (fun hS2 tS2 DS2 vS2 cS2 kS2 nS2 oS2 iS2 => ?_))
      have FT2 := fr_on FS2 kS2
      have neS2 := allNe_of (news_ne NS2 nS2)
      simp only [AllNe, and_true] at neS2
      have NT2 := news_more FS2 NS2 kS2 nS2 oS2
      clear FS2 NS2 kS2 nS2 oS2
      have hsl2 := signsOf_length (38 + q) 7
      have hsr2 := signsOf_isRow (38 + q) 7
      generalize signsOf (38 + q) 7 = sg at *
      generalize flat7 cs = dd at *
      dsimp only
      k_steps
      rename Fr _ _ _ _ => FU3
      rename News _ _ _ _ => NU3
      refine go_on ?_
      refine' kmk_slice_ints (vs := vS2) (ns := sg) (lo := some 1) (hi := none) (ms := sg.drop 1) ?sF ?sN ?sl ?sp ?sq iS2 ?sm rfl ?_ ?ss ?st ?sz
      case sF => exact FU3
      case sN => exact NU3
      case sl => exact lst_led NU3 (by k_mem)
      case sp => first | exact IsPart.none | exact IsPart.int _ _
      case sq => first | exact IsPart.none | exact IsPart.int _ _
      case sm => exact (by have := kmk_from iS2 (x := (1 : Int)) (by decide); simpa using this)
      case ss => with_unfolding_all rfl
      case st => intro _; with_unfolding_all rfl
      case sz => rw [List.size_toArray, iS2.length, sizeLine_eq]; omega
      intro DU3 wU3 hU3 FV3 NV3 lU3 iU3 _ zU3
      replace lU3 := allLt_of lU3
      try simp only [AllLt, and_true] at lU3
      clear FU3 NU3
      have hz1 : (sg.drop 1).length = 6 := by rw [List.length_drop]; omega
      have hr1 : IsRow (sg.drop 1) := isRow_drop hsr2 1
      generalize sg.drop 1 = d1 at *
      dsimp only
      k_steps
      rename Fr _ _ _ _ => FC30
      rename News _ _ _ _ => NC30
      refine' go_on (c_law_refused_len (G.push FC30 rfl) ?hd ?hu ?la ?lb ?lc ?ld ?le ?_)
      case hd => omega
      case hu => omega
      case la => exact lst_led NC30 (by k_mem)
      case lb => assumption
      case lc => simp; omega
      case ld => exact isRow_append.mpr ⟨hdr, hr1⟩
      case le => simp; omega
      intro gD30 hD30 tD30 TD30 kD30
      obtain ⟨gE30, TE30, FE30, NE30⟩ := turn_call G FC30 NC30 rfl TD30 kD30
      exact ret gE30 _ _ TE30 FE30.keep
    · generalize flat7 cs = dd at *
      rename Fr _ _ _ _ => FU1
      rename News _ _ _ _ => NU1
      refine go_on ?_
      refine' kmk_slice_ints (vs := us) (ns := dd) (lo := none) (hi := some (k : Int)) (ms := dd.take k) ?sF ?sN ?sl ?sp ?sq hI ?sm rfl ?_ ?ss ?st ?sz
      case sF => exact FU1
      case sN => exact NU1
      case sl => exact lst_led NU1 (by k_mem)
      case sp => first | exact IsPart.none | exact IsPart.int _ _
      case sq => first | exact IsPart.none | exact IsPart.int _ _
      case sm => exact (by have := kmk_upto hI (y := (k : Int)) (by omega); simpa using this)
      case ss => with_unfolding_all rfl
      case st => intro _; with_unfolding_all rfl
      case sz => rw [List.size_toArray, hI.length, sizeLine_eq]; omega
      intro DU1 wU1 hU1 FV1 NV1 lU1 iU1 _ zU1
      replace lU1 := allLt_of lU1
      try simp only [AllLt, and_true] at lU1
      clear FU1 NU1
      have hz1 : (dd.take k).length = k := by rw [List.length_take]; omega
      have hr1 : IsRow (dd.take k) := isRow_take hdr k
      generalize dd.take k = d1 at *
      dsimp only
      k_steps
      rename Fr _ _ _ _ => FU2
      rename News _ _ _ _ => NU2
      refine go_on ?_
      refine' kmk_slice_ints (vs := us) (ns := dd) (lo := some (k : Int)) (hi := none) (ms := dd.drop k) ?sF ?sN ?sl ?sp ?sq hI ?sm rfl ?_ ?ss ?st ?sz
      case sF => exact FU2
      case sN => exact NU2
      case sl => exact lst_led NU2 (by k_mem)
      case sp => first | exact IsPart.none | exact IsPart.int _ _
      case sq => first | exact IsPart.none | exact IsPart.int _ _
      case sm => exact (by have := kmk_from hI (x := (k : Int)) (by omega); simpa using this)
      case ss => with_unfolding_all rfl
      case st => intro _; with_unfolding_all rfl
      case sz => rw [List.size_toArray, hI.length, sizeLine_eq]; omega
      intro DU2 wU2 hU2 FV2 NV2 lU2 iU2 _ zU2
      replace lU2 := allLt_of lU2
      try simp only [AllLt, and_true] at lU2
      clear FU2 NU2
      have hz2 : (dd.drop k).length = dd.length - k := List.length_drop
      have hr2 : IsRow (dd.drop k) := isRow_drop hdr k
      generalize dd.drop k = d2 at *
      dsimp only
      k_steps
      rename Fr _ _ _ _ => FC31
      rename News _ _ _ _ => NC31
      refine' go_on (c_law_refused_len (G.push FC31 rfl) ?hd ?hu ?la ?lb ?lc ?ld ?le ?_)
      case hd => omega
      case hu => omega
      case la => exact lst_led NC31 (by k_mem)
      case lb => assumption
      case lc => rw [List.length_append, List.length_append, flat_length]; omega
      case ld => exact isRow_append.mpr ⟨isRow_append.mpr ⟨hr1, isRow_flat (by omega)⟩, hr2⟩
      case le => rw [List.length_append, List.length_append, flat_length]; omega
      intro gD31 hD31 tD31 TD31 kD31
      obtain ⟨gE31, TE31, FE31, NE31⟩ := turn_call G FC31 NC31 rfl TD31 kD31
      exact ret gE31 _ _ TE31 FE31.keep
  · have hq0 := fm_ge (mo.fdiv 4) 32 (by decide)
    have hq1 := fm_le (mo.fdiv 4) 32 31 (by decide) (by decide)
    k_steps
    · rename Fr _ _ _ _ => FU40
      rename News _ _ _ _ => NU40
      refine go_on ?_
      refine' kmk_slice_ints (vs := us) (ns := flat7 cs) (lo := none) (hi := some (7 * (k : Int))) (ms := (flat7 cs).take (7 * k)) ?sF ?sN ?sl ?sp ?sq hI ?sm rfl ?_ ?ss ?st ?sz
      case sF => exact FU40
      case sN => exact NU40
      case sl => exact lst_led NU40 (by k_mem)
      case sp => first | exact IsPart.none | exact IsPart.int _ _
      case sq => first | exact IsPart.none | exact IsPart.int _ _
      case sm => exact (by have := kmk_upto hI (y := 7 * (k : Int)) (by omega); rwa [show (7 * (k : Int)).toNat = 7 * k by omega] at this)
      case ss => with_unfolding_all rfl
      case st => intro _; with_unfolding_all rfl
      case sz => rw [List.size_toArray, hI.length, sizeLine_eq]; omega
      intro DU40 wU40 hU40 FV40 NV40 lU40 iU40 _ zU40
      replace lU40 := allLt_of lU40
      try simp only [AllLt, and_true] at lU40
      clear FU40 NU40
      have hz1 : ((flat7 cs).take (7 * k)).length = 7 * k := by rw [List.length_take]; omega
      dsimp only
      k_steps
      rename Fr _ _ _ _ => FS44
      rename News _ _ _ _ => NS44
      refine go_on (c_law_seven (n := 37) (G.push FS44 rfl) (by omega) (by omega) (by omega) (fun hS44 tS44 DS44 vS44 cS44 kS44 nS44 oS44 iS44 => ?_))
      have FT44 := fr_on FS44 kS44
      have neS44 := allNe_of (news_ne NS44 nS44)
      simp only [AllNe, and_true] at neS44
      have NT44 := news_more FS44 NS44 kS44 nS44 oS44
      clear FS44 NS44 kS44 nS44 oS44
      have hsl44 := signsOf_length 37 7
      have hsr44 := signsOf_isRow 37 7
      have hfx := go_on (show (flat7 cs).take (7 * k) ++ signsOf 37 7 ++ (flat7 cs).drop (7 * k) = flat7 (cs.take k ++ [37] ++ cs.drop k) by rw [flat7_take, flat7_drop, flat7_append, flat7_append, flat7_one])
      have hcx : ∀ c ∈ cs.take k ++ [37] ++ cs.drop k, c < 128 := by
        intro c hc
        rcases List.mem_append.mp hc with hc | hc
        · rcases List.mem_append.mp hc with hc | hc
          · exact lets_lt hLt c (List.mem_of_mem_take hc)
          · rw [List.mem_singleton.mp hc]; omega
        · exact lets_lt hLt c (List.mem_of_mem_drop hc)
      have hnl : ¬ Lets (cs.take k ++ [37] ++ cs.drop k) := not_lets_mid (by decide)
      have hxl : (cs.take k ++ [37] ++ cs.drop k).length ≤ 1000 := by rw [List.length_append, List.length_append, List.length_take, List.length_drop]; simp; omega
      generalize cs.take k ++ [37] ++ cs.drop k = xs at *
      generalize signsOf 37 7 = sg at *
      generalize flat7 cs = dd at *
      dsimp only
      k_steps
      rename Fr _ _ _ _ => FU54
      rename News _ _ _ _ => NU54
      refine go_on ?_
      refine' kmk_slice_ints (vs := us) (ns := dd) (lo := some (7 * (k : Int))) (hi := none) (ms := dd.drop (7 * k)) ?sF ?sN ?sl ?sp ?sq hI ?sm rfl ?_ ?ss ?st ?sz
      case sF => exact FU54
      case sN => exact NU54
      case sl => exact lst_led NU54 (by k_mem)
      case sp => first | exact IsPart.none | exact IsPart.int _ _
      case sq => first | exact IsPart.none | exact IsPart.int _ _
      case sm => exact (by have := kmk_from hI (x := 7 * (k : Int)) (by omega); rwa [show (7 * (k : Int)).toNat = 7 * k by omega] at this)
      case ss => with_unfolding_all rfl
      case st => intro _; with_unfolding_all rfl
      case sz => rw [List.size_toArray, hI.length, sizeLine_eq]; omega
      intro DU54 wU54 hU54 FV54 NV54 lU54 iU54 _ zU54
      replace lU54 := allLt_of lU54
      try simp only [AllLt, and_true] at lU54
      clear FU54 NU54
      have hz2 : (dd.drop (7 * k)).length = dd.length - 7 * k := List.length_drop
      dsimp only
      k_steps
      rename Fr _ _ _ _ => FC44
      rename News _ _ _ _ => NC44
      refine' go_on (c_law_refused_odd (G.push FC44 rfl) ?hd ?hu ?la ?lb hxl hcx hnl ?_)
      case hd => omega
      case hu => omega
      case la => exact lst_led NC44 (by k_mem)
      case lb => rw [← show _ = flat7 xs from hfx]; assumption
      intro gD44 hD44 tD44 TD44 kD44
      obtain ⟨gE44, TE44, FE44, NE44⟩ := turn_call G FC44 NC44 rfl TD44 kD44
      exact ret gE44 _ _ TE44 FE44.keep
    · rename Fr _ _ _ _ => FU41
      rename News _ _ _ _ => NU41
      refine go_on ?_
      refine' kmk_slice_ints (vs := us) (ns := flat7 cs) (lo := none) (hi := some (7 * (k : Int))) (ms := (flat7 cs).take (7 * k)) ?sF ?sN ?sl ?sp ?sq hI ?sm rfl ?_ ?ss ?st ?sz
      case sF => exact FU41
      case sN => exact NU41
      case sl => exact lst_led NU41 (by k_mem)
      case sp => first | exact IsPart.none | exact IsPart.int _ _
      case sq => first | exact IsPart.none | exact IsPart.int _ _
      case sm => exact (by have := kmk_upto hI (y := 7 * (k : Int)) (by omega); rwa [show (7 * (k : Int)).toNat = 7 * k by omega] at this)
      case ss => with_unfolding_all rfl
      case st => intro _; with_unfolding_all rfl
      case sz => rw [List.size_toArray, hI.length, sizeLine_eq]; omega
      intro DU41 wU41 hU41 FV41 NV41 lU41 iU41 _ zU41
      replace lU41 := allLt_of lU41
      try simp only [AllLt, and_true] at lU41
      clear FU41 NU41
      have hz1 : ((flat7 cs).take (7 * k)).length = 7 * k := by rw [List.length_take]; omega
      dsimp only
      k_steps
      rename Fr _ _ _ _ => FS45
      rename News _ _ _ _ => NS45
      refine go_on (c_law_seven (n := 127) (G.push FS45 rfl) (by omega) (by omega) (by omega) (fun hS45 tS45 DS45 vS45 cS45 kS45 nS45 oS45 iS45 => ?_))
      have FT45 := fr_on FS45 kS45
      have neS45 := allNe_of (news_ne NS45 nS45)
      simp only [AllNe, and_true] at neS45
      have NT45 := news_more FS45 NS45 kS45 nS45 oS45
      clear FS45 NS45 kS45 nS45 oS45
      have hsl45 := signsOf_length 127 7
      have hsr45 := signsOf_isRow 127 7
      have hfx := go_on (show (flat7 cs).take (7 * k) ++ signsOf 127 7 ++ (flat7 cs).drop (7 * k) = flat7 (cs.take k ++ [127] ++ cs.drop k) by rw [flat7_take, flat7_drop, flat7_append, flat7_append, flat7_one])
      have hcx : ∀ c ∈ cs.take k ++ [127] ++ cs.drop k, c < 128 := by
        intro c hc
        rcases List.mem_append.mp hc with hc | hc
        · rcases List.mem_append.mp hc with hc | hc
          · exact lets_lt hLt c (List.mem_of_mem_take hc)
          · rw [List.mem_singleton.mp hc]; omega
        · exact lets_lt hLt c (List.mem_of_mem_drop hc)
      have hnl : ¬ Lets (cs.take k ++ [127] ++ cs.drop k) := not_lets_mid (by decide)
      have hxl : (cs.take k ++ [127] ++ cs.drop k).length ≤ 1000 := by rw [List.length_append, List.length_append, List.length_take, List.length_drop]; simp; omega
      generalize cs.take k ++ [127] ++ cs.drop k = xs at *
      generalize signsOf 127 7 = sg at *
      generalize flat7 cs = dd at *
      dsimp only
      k_steps
      rename Fr _ _ _ _ => FU55
      rename News _ _ _ _ => NU55
      refine go_on ?_
      refine' kmk_slice_ints (vs := us) (ns := dd) (lo := some (7 * (k : Int))) (hi := none) (ms := dd.drop (7 * k)) ?sF ?sN ?sl ?sp ?sq hI ?sm rfl ?_ ?ss ?st ?sz
      case sF => exact FU55
      case sN => exact NU55
      case sl => exact lst_led NU55 (by k_mem)
      case sp => first | exact IsPart.none | exact IsPart.int _ _
      case sq => first | exact IsPart.none | exact IsPart.int _ _
      case sm => exact (by have := kmk_from hI (x := 7 * (k : Int)) (by omega); rwa [show (7 * (k : Int)).toNat = 7 * k by omega] at this)
      case ss => with_unfolding_all rfl
      case st => intro _; with_unfolding_all rfl
      case sz => rw [List.size_toArray, hI.length, sizeLine_eq]; omega
      intro DU55 wU55 hU55 FV55 NV55 lU55 iU55 _ zU55
      replace lU55 := allLt_of lU55
      try simp only [AllLt, and_true] at lU55
      clear FU55 NU55
      have hz2 : (dd.drop (7 * k)).length = dd.length - 7 * k := List.length_drop
      dsimp only
      k_steps
      rename Fr _ _ _ _ => FC45
      rename News _ _ _ _ => NC45
      refine' go_on (c_law_refused_odd (G.push FC45 rfl) ?hd ?hu ?la ?lb hxl hcx hnl ?_)
      case hd => omega
      case hu => omega
      case la => exact lst_led NC45 (by k_mem)
      case lb => rw [← show _ = flat7 xs from hfx]; assumption
      intro gD45 hD45 tD45 TD45 kD45
      obtain ⟨gE45, TE45, FE45, NE45⟩ := turn_call G FC45 NC45 rfl TD45 kD45
      exact ret gE45 _ _ TE45 FE45.keep
    · generalize (mo.fdiv 4).fmod 32 = q at *
      obtain ⟨q, rfl⟩ := Int.eq_ofNat_of_zero_le hq0
      rename Fr _ _ _ _ => FU42
      rename News _ _ _ _ => NU42
      refine go_on ?_
      refine' kmk_slice_ints (vs := us) (ns := flat7 cs) (lo := none) (hi := some (7 * (k : Int))) (ms := (flat7 cs).take (7 * k)) ?sF ?sN ?sl ?sp ?sq hI ?sm rfl ?_ ?ss ?st ?sz
      case sF => exact FU42
      case sN => exact NU42
      case sl => exact lst_led NU42 (by k_mem)
      case sp => first | exact IsPart.none | exact IsPart.int _ _
      case sq => first | exact IsPart.none | exact IsPart.int _ _
      case sm => exact (by have := kmk_upto hI (y := 7 * (k : Int)) (by omega); rwa [show (7 * (k : Int)).toNat = 7 * k by omega] at this)
      case ss => with_unfolding_all rfl
      case st => intro _; with_unfolding_all rfl
      case sz => rw [List.size_toArray, hI.length, sizeLine_eq]; omega
      intro DU42 wU42 hU42 FV42 NV42 lU42 iU42 _ zU42
      replace lU42 := allLt_of lU42
      try simp only [AllLt, and_true] at lU42
      clear FU42 NU42
      have hz1 : ((flat7 cs).take (7 * k)).length = 7 * k := by rw [List.length_take]; omega
      dsimp only
      k_steps
      rename Fr _ _ _ _ => FS46
      rename News _ _ _ _ => NS46
      refine go_on (c_law_seven (n := q) (G.push FS46 rfl) (by omega) (by omega) (by omega) (fun hS46 tS46 DS46 vS46 cS46 kS46 nS46 oS46 iS46 => ?_))
      have FT46 := fr_on FS46 kS46
      have neS46 := allNe_of (news_ne NS46 nS46)
      simp only [AllNe, and_true] at neS46
      have NT46 := news_more FS46 NS46 kS46 nS46 oS46
      clear FS46 NS46 kS46 nS46 oS46
      have hsl46 := signsOf_length q 7
      have hsr46 := signsOf_isRow q 7
      have hfx := go_on (show (flat7 cs).take (7 * k) ++ signsOf q 7 ++ (flat7 cs).drop (7 * k) = flat7 (cs.take k ++ [q] ++ cs.drop k) by rw [flat7_take, flat7_drop, flat7_append, flat7_append, flat7_one])
      have hcx : ∀ c ∈ cs.take k ++ [q] ++ cs.drop k, c < 128 := by
        intro c hc
        rcases List.mem_append.mp hc with hc | hc
        · rcases List.mem_append.mp hc with hc | hc
          · exact lets_lt hLt c (List.mem_of_mem_take hc)
          · rw [List.mem_singleton.mp hc]; omega
        · exact lets_lt hLt c (List.mem_of_mem_drop hc)
      have hnl : ¬ Lets (cs.take k ++ [q] ++ cs.drop k) := not_lets_mid (by unfold IsLet; omega)
      have hxl : (cs.take k ++ [q] ++ cs.drop k).length ≤ 1000 := by rw [List.length_append, List.length_append, List.length_take, List.length_drop]; simp; omega
      generalize cs.take k ++ [q] ++ cs.drop k = xs at *
      generalize signsOf q 7 = sg at *
      generalize flat7 cs = dd at *
      dsimp only
      k_steps
      rename Fr _ _ _ _ => FU56
      rename News _ _ _ _ => NU56
      refine go_on ?_
      refine' kmk_slice_ints (vs := us) (ns := dd) (lo := some (7 * (k : Int))) (hi := none) (ms := dd.drop (7 * k)) ?sF ?sN ?sl ?sp ?sq hI ?sm rfl ?_ ?ss ?st ?sz
      case sF => exact FU56
      case sN => exact NU56
      case sl => exact lst_led NU56 (by k_mem)
      case sp => first | exact IsPart.none | exact IsPart.int _ _
      case sq => first | exact IsPart.none | exact IsPart.int _ _
      case sm => exact (by have := kmk_from hI (x := 7 * (k : Int)) (by omega); rwa [show (7 * (k : Int)).toNat = 7 * k by omega] at this)
      case ss => with_unfolding_all rfl
      case st => intro _; with_unfolding_all rfl
      case sz => rw [List.size_toArray, hI.length, sizeLine_eq]; omega
      intro DU56 wU56 hU56 FV56 NV56 lU56 iU56 _ zU56
      replace lU56 := allLt_of lU56
      try simp only [AllLt, and_true] at lU56
      clear FU56 NU56
      have hz2 : (dd.drop (7 * k)).length = dd.length - 7 * k := List.length_drop
      dsimp only
      k_steps
      rename Fr _ _ _ _ => FC46
      rename News _ _ _ _ => NC46
      refine' go_on (c_law_refused_odd (G.push FC46 rfl) ?hd ?hu ?la ?lb hxl hcx hnl ?_)
      case hd => omega
      case hu => omega
      case la => exact lst_led NC46 (by k_mem)
      case lb => rw [← show _ = flat7 xs from hfx]; assumption
      intro gD46 hD46 tD46 TD46 kD46
      obtain ⟨gE46, TE46, FE46, NE46⟩ := turn_call G FC46 NC46 rfl TD46 kD46
      exact ret gE46 _ _ TE46 FE46.keep
    · generalize (mo.fdiv 4).fmod 32 = q at *
      obtain ⟨q, rfl⟩ := Int.eq_ofNat_of_zero_le hq0
      rename Fr _ _ _ _ => FU43
      rename News _ _ _ _ => NU43
      refine go_on ?_
      refine' kmk_slice_ints (vs := us) (ns := flat7 cs) (lo := none) (hi := some (7 * (k : Int))) (ms := (flat7 cs).take (7 * k)) ?sF ?sN ?sl ?sp ?sq hI ?sm rfl ?_ ?ss ?st ?sz
      case sF => exact FU43
      case sN => exact NU43
      case sl => exact lst_led NU43 (by k_mem)
      case sp => first | exact IsPart.none | exact IsPart.int _ _
      case sq => first | exact IsPart.none | exact IsPart.int _ _
      case sm => exact (by have := kmk_upto hI (y := 7 * (k : Int)) (by omega); rwa [show (7 * (k : Int)).toNat = 7 * k by omega] at this)
      case ss => with_unfolding_all rfl
      case st => intro _; with_unfolding_all rfl
      case sz => rw [List.size_toArray, hI.length, sizeLine_eq]; omega
      intro DU43 wU43 hU43 FV43 NV43 lU43 iU43 _ zU43
      replace lU43 := allLt_of lU43
      try simp only [AllLt, and_true] at lU43
      clear FU43 NU43
      have hz1 : ((flat7 cs).take (7 * k)).length = 7 * k := by rw [List.length_take]; omega
      dsimp only
      k_steps
      rename Fr _ _ _ _ => FS47
      rename News _ _ _ _ => NS47
      refine go_on (c_law_seven (n := q) (G.push FS47 rfl) (by omega) (by omega) (by omega) (fun hS47 tS47 DS47 vS47 cS47 kS47 nS47 oS47 iS47 => ?_))
      have FT47 := fr_on FS47 kS47
      have neS47 := allNe_of (news_ne NS47 nS47)
      simp only [AllNe, and_true] at neS47
      have NT47 := news_more FS47 NS47 kS47 nS47 oS47
      clear FS47 NS47 kS47 nS47 oS47
      have hsl47 := signsOf_length q 7
      have hsr47 := signsOf_isRow q 7
      have hfx := go_on (show (flat7 cs).take (7 * k) ++ signsOf q 7 ++ (flat7 cs).drop (7 * k) = flat7 (cs.take k ++ [q] ++ cs.drop k) by rw [flat7_take, flat7_drop, flat7_append, flat7_append, flat7_one])
      have hcx : ∀ c ∈ cs.take k ++ [q] ++ cs.drop k, c < 128 := by
        intro c hc
        rcases List.mem_append.mp hc with hc | hc
        · rcases List.mem_append.mp hc with hc | hc
          · exact lets_lt hLt c (List.mem_of_mem_take hc)
          · rw [List.mem_singleton.mp hc]; omega
        · exact lets_lt hLt c (List.mem_of_mem_drop hc)
      have hnl : ¬ Lets (cs.take k ++ [q] ++ cs.drop k) := not_lets_mid (by unfold IsLet; omega)
      have hxl : (cs.take k ++ [q] ++ cs.drop k).length ≤ 1000 := by rw [List.length_append, List.length_append, List.length_take, List.length_drop]; simp; omega
      generalize cs.take k ++ [q] ++ cs.drop k = xs at *
      generalize signsOf q 7 = sg at *
      generalize flat7 cs = dd at *
      dsimp only
      k_steps
      rename Fr _ _ _ _ => FU57
      rename News _ _ _ _ => NU57
      refine go_on ?_
      refine' kmk_slice_ints (vs := us) (ns := dd) (lo := some (7 * (k : Int))) (hi := none) (ms := dd.drop (7 * k)) ?sF ?sN ?sl ?sp ?sq hI ?sm rfl ?_ ?ss ?st ?sz
      case sF => exact FU57
      case sN => exact NU57
      case sl => exact lst_led NU57 (by k_mem)
      case sp => first | exact IsPart.none | exact IsPart.int _ _
      case sq => first | exact IsPart.none | exact IsPart.int _ _
      case sm => exact (by have := kmk_from hI (x := 7 * (k : Int)) (by omega); rwa [show (7 * (k : Int)).toNat = 7 * k by omega] at this)
      case ss => with_unfolding_all rfl
      case st => intro _; with_unfolding_all rfl
      case sz => rw [List.size_toArray, hI.length, sizeLine_eq]; omega
      intro DU57 wU57 hU57 FV57 NV57 lU57 iU57 _ zU57
      replace lU57 := allLt_of lU57
      try simp only [AllLt, and_true] at lU57
      clear FU57 NU57
      have hz2 : (dd.drop (7 * k)).length = dd.length - 7 * k := List.length_drop
      dsimp only
      k_steps
      rename Fr _ _ _ _ => FC47
      rename News _ _ _ _ => NC47
      refine' go_on (c_law_refused_odd (G.push FC47 rfl) ?hd ?hu ?la ?lb hxl hcx hnl ?_)
      case hd => omega
      case hu => omega
      case la => exact lst_led NC47 (by k_mem)
      case lb => rw [← show _ = flat7 xs from hfx]; assumption
      intro gD47 hD47 tD47 TD47 kD47
      obtain ⟨gE47, TE47, FE47, NE47⟩ := turn_call G FC47 NC47 rfl TD47 kD47
      exact ret gE47 _ _ TE47 FE47.keep
  · k_steps
    rename Fr _ _ _ _ => F₅
    rename News _ _ _ _ => N₅
    refine go_on (c_row_of (cs := cs) (G.push F₅ rfl) (by omega) (by omega) (by omega) (fun h => absurd hLt h) (fun _ h₆ tk₆ D₆ v₆ c₆ k₆ n₆ o₆ i₆ => ?_))
    have F₆ := fr_on F₅ k₆
    have ne₆ := allNe_of (news_ne N₅ n₆)
    simp only [AllNe, and_true] at ne₆
    have N₆ := news_more F₅ N₅ k₆ n₆ o₆
    clear F₅ N₅ k₆ n₆ o₆
    dsimp only
    k_steps
    rename Fr _ _ _ _ => F₇
    rename News _ _ _ _ => N₇
    refine go_on (c_text_of (xs := cs) (G.push F₇ rfl) (by omega) (by omega) (lst_led N₇ (.head _)) hI (by omega) (lets_lt hLt) (fun h => absurd hLt h) (fun _ h₈ tk₈ t₈ k₈ => ?_))
    have F₈ := fr_on F₇ k₈
    have N₈ := news_on N₇ k₈
    clear F₇ N₇ k₈
    dsimp only
    k_steps
    · rename Fr _ _ _ _ => F₉
      exact ret _ _ _ KtsTurn.refl F₉.keep
    · rename Fr _ _ _ _ => F₉
      rw [beq_self_eq_true]
      exact ret _ _ _ KtsTurn.refl F₉.keep
  · k_steps <;> try (exfalso; omega)
    rename Fr _ _ _ _ => F₅
    rename News _ _ _ _ => N₅
    refine go_on (c_row_of (cs := cs) (G.push F₅ rfl) (by omega) (by omega) (by omega) (fun h => absurd hLt h) (fun _ h₆ tk₆ D₆ v₆ c₆ k₆ n₆ o₆ i₆ => ?_))
    have F₆ := fr_on F₅ k₆
    have ne₆ := allNe_of (news_ne N₅ n₆)
    simp only [AllNe, and_true] at ne₆
    have N₆ := news_more F₅ N₅ k₆ n₆ o₆
    clear F₅ N₅ k₆ n₆ o₆
    dsimp only
    k_steps
    rename Fr _ _ _ _ => F₇
    rename News _ _ _ _ => N₇
    refine go_on (c_text_of (xs := cs) (G.push F₇ rfl) (by omega) (by omega) (lst_led N₇ (.head _)) hI (by omega) (lets_lt hLt) (fun h => absurd hLt h) (fun _ h₈ tk₈ t₈ k₈ => ?_))
    have F₈ := fr_on F₇ k₈
    have N₈ := news_on N₇ k₈
    clear F₇ N₇ k₈
    dsimp only
    k_steps
    · rename Fr _ _ _ _ => F₉
      exact ret _ _ _ KtsTurn.refl F₉.keep
    · rename Fr _ _ _ _ => F₉
      rw [beq_self_eq_true]
      exact ret _ _ _ KtsTurn.refl F₉.keep
end

end
end Mine
end

namespace Mine
open PySem PySem.W PyProof.Rows
theorem good_true {c : ClaimW} {cl : Str → Option Addr} {mean : ExcName → Option Value} {args : List WData} {s₁ : Shared} {h' : Heap} {tk : Nat} (hg : s₁.gens = #[]) (hr : ∀ cls, c.raises args cls = false) (hp : c.post args (.bool true) args = true) (k : s₁.heap.StaysIn h') :
    GoodWG c cl mean args s₁ (.ok (.ret (.bool true))) { s₁ with heap := h', toks := tk } :=
  GoodW.toG ⟨.inl ⟨_, .bool true, [], rfl, hr, .bool true, hp, fun _ => ⟨List.nodup_nil, fun _ h => nomatch h⟩⟩, k, rfl, hg⟩
end Mine
theorem PySem.Challenge.cw_uf040037_04_holds : PySem.Challenge.rw_uf040037_04.Holds := by
  refine Mine.hd04 ?_
  k_fill
  intro w s₀ s₁ mg mb G Y fa o pm cd doc dV kV ho hd hcd hD hmg hg args vals as hpre hlay hrd hwl hlo
  have KX := kIn_of Y
  refine Ground.open G ?_
  intro T B D TE TW
  wrow_args hpre hlay hrd hwl hlo
  have hf : mg (Str.ofString "law") = some (.ref 154) := mg_of KX T.g (by k_is)
  obtain rfl : fa = 154 := Value.ref.inj (Option.some.inj (hmg.symm.trans hf))
  rename s₁.heap.IsList _ _ => hL
  rename IntsAre _ _ => hI
  refine Mine.c_law (dp := 301) (un := 4) (gd := some []) (fr := []) ⟨fun _ _ e => e, trivial, KX, T, KX, T, ktsDicts_nil⟩ (by decide) (by decide) hL hI (by omega) fun g' h' tk' T' k' => ?_
  have k : s₁.heap.StaysIn h' := fun b o e => k' b o (Mine.turn_nil T' b o e)
  exact Mine.good_true hg (fun _ => rfl) (postW_of (X := (true == true)) rfl (w_eq_bool (k := true) (l := true) (w_res rfl) w_lit) rfl) k
