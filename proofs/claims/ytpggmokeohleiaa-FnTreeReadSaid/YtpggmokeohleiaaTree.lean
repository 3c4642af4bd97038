/- Trees of fields: what is read and packed, in plain terms. No condition. -/
import Derived.Test.YtpggmokeohleiaaVb
import Derived.Test.YtpggmokeohleiaaD0
set_option linter.unusedVariables false
set_option linter.unusedSimpArgs false
set_option linter.unusedSectionVars false

/- Plain: what a by-value function comes to, and whole numbers. -/
namespace Go.V
open Go

/-! ### A function of the rounds that are left comes to r -/
def Ev {α : Type} (f : Nat → Option α) (Q : α → Prop) : Prop := ∃ r, Q r ∧ ∃ K, ∀ k, K ≤ k → f k = some r

section
variable {α β γ : Type} {Q : α → Prop} {P : β → Prop}

theorem Ev.ret {r : α} (h : Q r) : Ev (fun _ => some r) Q := ⟨r, h, 0, fun _ _ => rfl⟩
theorem Ev.mono {Q' : α → Prop} {f : Nat → Option α} (h : Ev f Q) (hq : ∀ r, Q r → Q' r) : Ev f Q' := by
  obtain ⟨r, h1, h2⟩ := h
  exact ⟨r, hq r h1, h2⟩
theorem Ev.bind {f : Nat → Option β} {g : Nat → β → Option α} (h : Ev f P) (h' : ∀ y, P y → Ev (fun k => g k y) Q) : Ev (fun k => (f k).bind (g k)) Q := by
  obtain ⟨y, h1, K, h2⟩ := h
  obtain ⟨r, h3, K', h4⟩ := h' y h1
  refine ⟨r, h3, max K K', fun k hk => ?_⟩
  show (f k).bind (g k) = some r
  rw [h2 k (by omega)]
  exact h4 k (by omega)
theorem Ev.some_bind {y : β} {g : Nat → β → Option α} (h : Ev (fun k => g k y) Q) : Ev (fun k => (some y).bind (g k)) Q := h
theorem Ev.ite {c : Prop} [Decidable c] {f g : Nat → Option α} (h1 : c → Ev f Q) (h2 : ¬ c → Ev g Q) : Ev (fun k => if c then f k else g k) Q := by
  by_cases hc : c
  · simpa only [if_pos hc] using h1 hc
  · simpa only [if_neg hc] using h2 hc
theorem Ev.pos {c : Prop} [Decidable c] {f g : Nat → Option α} (hc : c) (h1 : Ev f Q) : Ev (fun k => if c then f k else g k) Q := by
  simpa only [if_pos hc] using h1
theorem Ev.neg {c : Prop} [Decidable c] {f g : Nat → Option α} (hc : ¬ c) (h1 : Ev g Q) : Ev (fun k => if c then f k else g k) Q := by
  simpa only [if_neg hc] using h1
theorem Ev.succ {f : Nat → Option α} (h : Ev (fun k => f (k + 1)) Q) : Ev f Q := by
  obtain ⟨r, h1, K, h2⟩ := h
  refine ⟨r, h1, K + 1, fun k hk => ?_⟩
  obtain ⟨m, rfl⟩ : ∃ m, k = m + 1 := ⟨k - 1, by omega⟩
  exact h2 m (by omega)
theorem Ev.comp {f : Nat → Option α} {g : Nat → Nat} (h : Ev f Q) (hg : ∀ k, k ≤ g k) : Ev (fun k => f (g k)) Q := by
  obtain ⟨r, h1, K, h2⟩ := h
  exact ⟨r, h1, K, fun k hk => h2 _ (Nat.le_trans hk (hg k))⟩
theorem Ev.get {f : Nat → Option α} {r : α} (h : Ev f (· = r)) : ∃ k, f k = some r := by
  obtain ⟨r', rfl, K, h⟩ := h
  exact ⟨K, h K (Nat.le_refl _)⟩
/-- What it comes to, once known, may be used. -/
theorem Ev.bind_eq {f : Nat → Option β} {y : β} {g : Nat → β → Option α} (h : Ev f (· = y)) (h' : Ev (fun k => g k y) Q) : Ev (fun k => (f k).bind (g k)) Q :=
  h.bind fun _ hy => by subst hy; exact h'
theorem Ev.of_eq {f : Nat → Option α} {r : α} (h : ∀ k, f k = some r) (hq : Q r) : Ev f Q := ⟨r, hq, 0, fun k _ => h k⟩
end

/-! ### Whole numbers -/
theorem w64_id {n : Int} (h : -9223372036854775808 ≤ n ∧ n ≤ 9223372036854775807) : w64 n = n := by
  show IntKind.i64.wrap n = n
  rw [IntKind.wrap_i64]; omega
theorem w64_eq (n : Int) : w64 n = (n + 9223372036854775808) % 18446744073709551616 - 9223372036854775808 := IntKind.wrap_i64 n
theorem w64_bd (n : Int) : -9223372036854775808 ≤ w64 n ∧ w64 n ≤ 9223372036854775807 := by rw [w64_eq]; omega
theorem wu64_eq (n : Int) : wu64 n = n % 18446744073709551616 := by
  show IntKind.u64.wrap n = _
  simp [IntKind.wrap, IntKind.bits, IntKind.signed]
theorem wu64_id {n : Int} (h : 0 ≤ n ∧ n ≤ 18446744073709551615) : wu64 n = n := by rw [wu64_eq]; omega
theorem wu8_eq (n : Int) : wu8 n = n % 256 := IntKind.wrap_u8 n
theorem w64_w64 (n : Int) : w64 (w64 n) = w64 n := w64_id (w64_bd n)
theorem w64_wu64 (n : Int) : w64 (wu64 n) = w64 n := by rw [wu64_eq, w64_eq, w64_eq]; omega

theorem n8_bd (x : UInt8) : 0 ≤ n8 x ∧ n8 x ≤ 255 := by
  have := x.toNat_lt
  simp only [n8]; omega
theorem b8_n8 (x : UInt8) : b8 (n8 x) = x := by simp [b8, n8]
theorem n8_b8 {n : Int} (h : 0 ≤ n ∧ n ≤ 255) : n8 (b8 n) = n := by
  simp only [n8, b8]
  rw [UInt8.toNat_ofNat']
  omega
theorem b8_eq {a b : Int} (h : a % 256 = b % 256) (ha : 0 ≤ a) (hb : 0 ≤ b) : b8 a = b8 b := by
  simp only [b8]
  apply UInt8.toNat_inj.1
  rw [UInt8.toNat_ofNat', UInt8.toNat_ofNat']
  omega

theorem ofInt_toNat (n : Nat) (x : Int) : (BitVec.ofInt n x).toNat = (x % (2 ^ n : Nat)).toNat := BitVec.toNat_ofInt x

/-- The lowest bits. -/
theorem and_low (x : Int) (j : Nat) (hj : j ≤ 63) : bitI .and .i64 x (2 ^ j - 1 : Nat) = x % (2 ^ j : Nat) := by
  have hpow : (2 : Nat) ^ j ≤ 2 ^ 63 := Nat.pow_le_pow_right (by omega) hj
  have hpos : 0 < (2 : Nat) ^ j := Nat.pow_pos (by omega)
  show w64 ((BitVec.ofInt 64 x &&& BitVec.ofInt 64 ((2 ^ j - 1 : Nat) : Int)).toNat : Int) = _
  rw [BitVec.toNat_and, ofInt_toNat, ofInt_toNat]
  have e1 : ((((2 ^ j - 1 : Nat) : Int)) % ((2 ^ 64 : Nat) : Int)).toNat = 2 ^ j - 1 := by
    rw [Int.emod_eq_of_lt (by omega) (by norm_cast; omega)]; rfl
  rw [e1, Nat.and_two_pow_sub_one_eq_mod]
  have e2 : (((x % ((2 ^ 64 : Nat) : Int)).toNat % 2 ^ j : Nat) : Int) = x % ((2 ^ j : Nat) : Int) := by
    have h0 : 0 ≤ x % ((2 ^ 64 : Nat) : Int) := Int.emod_nonneg _ (by decide)
    rw [Int.natCast_emod, Int.toNat_of_nonneg h0]
    refine Int.emod_emod_of_dvd x ?_
    have : (2 : Nat) ^ j ∣ 2 ^ 64 := Nat.pow_dvd_pow 2 (by omega)
    exact_mod_cast this
  rw [e2]
  have h1 : 0 ≤ x % ((2 ^ j : Nat) : Int) := Int.emod_nonneg _ (by omega)
  have h2 : x % ((2 ^ j : Nat) : Int) < ((2 ^ j : Nat) : Int) := Int.emod_lt_of_pos _ (by omega)
  exact w64_id (by omega)
theorem and1 (x : Int) : bitI .and .i64 x 1 = x % 2 := and_low x 1 (by omega)
theorem and127 (x : Int) : bitI .and .i64 x 127 = x % 128 := and_low x 7 (by omega)
theorem and255 (x : Int) : bitI .and .i64 x 255 = x % 256 := and_low x 8 (by omega)
theorem and30 (x : Int) : bitI .and .i64 x 1073741823 = x % 1073741824 := and_low x 30 (by omega)
theorem and32 (x : Int) : bitI .and .i64 x 4294967295 = x % 4294967296 := and_low x 32 (by omega)

/-- Bits set above a number's own. -/
theorem or_high (a c s : Nat) (ha : a < 2 ^ s) (h : a + c * 2 ^ s < 2 ^ 64) : (BitVec.ofInt 64 (a : Int) ||| BitVec.ofInt 64 ((c * 2 ^ s : Nat) : Int)).toNat = a + c * 2 ^ s := by
  rw [BitVec.toNat_or, ofInt_toNat, ofInt_toNat]
  have e1 : ((a : Int) % ((2 ^ 64 : Nat) : Int)).toNat = a := by
    rw [Int.emod_eq_of_lt (by omega) (by norm_cast; omega)]; rfl
  have e2 : (((c * 2 ^ s : Nat) : Int) % ((2 ^ 64 : Nat) : Int)).toNat = c * 2 ^ s := by
    rw [Int.emod_eq_of_lt (by omega) (by norm_cast; omega)]; rfl
  rw [e1, e2, Nat.or_comm, Nat.mul_comm c, ← Nat.two_pow_add_eq_or_of_lt ha]
  omega

theorem shl64 (x : Int) (s : Nat) (hs : s ≤ 64) : shlI .i64 x (s : Int) = w64 (x * 2 ^ s) := by
  simp only [shlI, IntKind.bits, Int.toNat_natCast]
  rw [Nat.min_eq_left hs]
theorem shlu64 (x : Int) (s : Nat) (hs : s ≤ 64) : shlI .u64 x (s : Int) = wu64 (x * 2 ^ s) := by
  simp only [shlI, IntKind.bits, Int.toNat_natCast]
  rw [Nat.min_eq_left hs]
theorem shr64 (k : IntKind) (x : Int) (s : Nat) (hs : s ≤ k.bits) : shrI k x (s : Int) = x / 2 ^ s := by
  simp only [shrI, Int.toNat_natCast]
  rw [Nat.min_eq_left hs, Int.fdiv_eq_ediv_of_nonneg _ (by exact Int.pow_nonneg (by omega))]

theorem xor_m1 (x : Int) (h : -9223372036854775808 ≤ x ∧ x ≤ 9223372036854775807) : bitI .xor .i64 (-1) x = -1 - x := by
  have e : ((BitVec.ofInt 64 (-1) ^^^ BitVec.ofInt 64 x).toNat : Int) = (-1 - x) % 18446744073709551616 := by
    have h1 : BitVec.ofInt 64 (-1) = BitVec.allOnes 64 := by decide
    rw [h1, BitVec.allOnes_xor, BitVec.toNat_not, ofInt_toNat]
    have h0 : 0 ≤ x % ((2 ^ 64 : Nat) : Int) := Int.emod_nonneg _ (by decide)
    have h2 : x % ((2 ^ 64 : Nat) : Int) < ((2 ^ 64 : Nat) : Int) := Int.emod_lt_of_pos _ (by decide)
    simp only [Nat.reducePow] at h0 h2 ⊢
    omega
  show w64 ((BitVec.ofInt 64 (-1) ^^^ BitVec.ofInt 64 x).toNat : Int) = -1 - x
  rw [e, w64_eq]
  omega
end Go.V

/- Plain: varints, zigzag: what they are. -/
namespace Go.V
open Go

/-- A varint at the head of bytes, i of which are read already: its number and how many bytes more. -/
def uvn : List UInt8 → Nat → Nat → Option (Nat × Nat)
  | [], _, _ => none
  | c :: t, i, acc =>
    if i = 9 ∧ 1 < c.toNat then none
    else if c.toNat < 128 then some (acc + c.toNat * 2 ^ (7 * i), 1)
    else match uvn t (i + 1) (acc + (c.toNat - 128) * 2 ^ (7 * i)) with
      | some (n, k) => some (n, k + 1)
      | none => none

theorem uvn_le : ∀ {l : List UInt8} {i acc n k : Nat}, uvn l i acc = some (n, k) → 1 ≤ k ∧ k ≤ l.length
  | [], _, _, _, _, h => by cases h
  | c :: t, i, acc, n, k, h => by
    simp only [uvn] at h
    split at h
    · cases h
    · split at h
      · simp only [Option.some.injEq, Prod.mk.injEq] at h
        simp only [List.length_cons]
        omega
      · split at h
        · rename_i h1
          have := uvn_le h1
          simp only [Option.some.injEq, Prod.mk.injEq] at h
          simp only [List.length_cons]
          omega
        · cases h

/-- What UvarGet tells. -/
def uvGet (l : List UInt8) (a : Int) : Int × Int × Bool :=
  if a < 0 then (0, 0, false) else match uvn (l.drop a.toNat) 0 0 with
    | some (n, k) => (w64 n, a + k, true)
    | none => (0, 0, false)

def uvOut (l : List UInt8) (a i acc : Nat) : Unit ⊕ (Int × Int) :=
  match uvn (l.drop (a + i)) i acc with
  | some (n, k) => .inr (w64 n, ((a + i + k : Nat) : Int))
  | none => .inl ()

/-- A byte's lower bits, set above what is there. -/
theorem uv_set (c : UInt8) (i acc : Nat) (hi : i ≤ 9) (ha : acc < 2 ^ (7 * i)) (h9 : i = 9 → c.toNat ≤ 1) :
    bitI .or .u64 (acc : Int) (shlI .u64 (wu64 (n8 (b8 (bitI .and .u8 (n8 c) 127)))) (w64 (7 * (i : Int)))) = ((acc + c.toNat % 128 * 2 ^ (7 * i) : Nat) : Int) := by
  have hc := c.toNat_lt
  have e1 : bitI .and .u8 (n8 c) 127 = ((c.toNat % 128 : Nat) : Int) := by
    show IntKind.u8.wrap (((BitVec.ofInt 8 (c.toNat : Int) &&& BitVec.ofInt 8 127).toNat : Nat) : Int) = _
    rw [BitVec.toNat_and, ofInt_toNat, ofInt_toNat]
    have h1 : ((c.toNat : Int) % ((2 ^ 8 : Nat) : Int)).toNat = c.toNat := by
      simp only [Nat.reducePow]; omega
    have h2 : ((127 : Int) % ((2 ^ 8 : Nat) : Int)).toNat = 2 ^ 7 - 1 := by decide
    rw [h1, h2, Nat.and_two_pow_sub_one_eq_mod, IntKind.wrap_u8]
    simp only [Nat.reducePow]
    omega
  rw [e1, n8_b8 (by omega), wu64_id (by omega), w64_id (by omega)]
  have e2 : (7 * (i : Int)) = ((7 * i : Nat) : Int) := by omega
  rw [e2, shlu64 _ _ (by omega)]
  have hlt : c.toNat % 128 * 2 ^ (7 * i) < 2 ^ 64 := by
    by_cases h : i = 9
    · subst h
      have := h9 rfl
      have h3 : c.toNat % 128 ≤ 1 := by omega
      calc c.toNat % 128 * 2 ^ (7 * 9) ≤ 1 * 2 ^ (7 * 9) := Nat.mul_le_mul_right _ h3
        _ < 2 ^ 64 := by decide
    · have h3 : c.toNat % 128 < 2 ^ 7 := by omega
      calc c.toNat % 128 * 2 ^ (7 * i) < 2 ^ 7 * 2 ^ (7 * i) := Nat.mul_lt_mul_of_pos_right h3 (Nat.pow_pos (by omega))
        _ = 2 ^ (7 + 7 * i) := by rw [Nat.pow_add]
        _ ≤ 2 ^ 64 := Nat.pow_le_pow_right (by omega) (by omega)
  have hsum : acc + c.toNat % 128 * 2 ^ (7 * i) < 2 ^ 64 := by
    by_cases h : i = 9
    · subst h
      have := h9 rfl
      have h3 : c.toNat % 128 * 2 ^ (7 * 9) ≤ 1 * 2 ^ (7 * 9) := Nat.mul_le_mul_right _ (by omega)
      have h4 : (2 : Nat) ^ (7 * 9) + 2 ^ (7 * 9) = 2 ^ 64 := by decide
      omega
    · have h3 : (c.toNat % 128 + 1) * 2 ^ (7 * i) ≤ 2 ^ 7 * 2 ^ (7 * i) := Nat.mul_le_mul_right _ (by omega)
      have h4 : 2 ^ 7 * 2 ^ (7 * i) ≤ 2 ^ 64 := by
        rw [← Nat.pow_add]; exact Nat.pow_le_pow_right (by omega) (by omega)
      rw [Nat.add_mul] at h3
      omega
  have e3 : wu64 (((c.toNat % 128 : Nat) : Int) * 2 ^ (7 * i)) = ((c.toNat % 128 * 2 ^ (7 * i) : Nat) : Int) := by
    rw [Int.natCast_mul, Int.natCast_pow]
    have : (((c.toNat % 128 : Nat) : Int) * 2 ^ (7 * i)) = ((c.toNat % 128 * 2 ^ (7 * i) : Nat) : Int) := by
      rw [Int.natCast_mul, Int.natCast_pow]; rfl
    rw [show ((2 : Nat) : Int) = 2 from rfl, this]
    refine wu64_id ⟨by omega, ?_⟩
    have : (2 : Nat) ^ 64 = 18446744073709551616 := by decide
    omega
  rw [e3]
  show wu64 (((BitVec.ofInt 64 (acc : Int) ||| BitVec.ofInt 64 ((c.toNat % 128 * 2 ^ (7 * i) : Nat) : Int)).toNat : Nat) : Int) = _
  rw [or_high acc _ (7 * i) ha hsum]
  refine wu64_id ⟨by omega, ?_⟩
  have : (2 : Nat) ^ 64 = 18446744073709551616 := by decide
  omega

/-- The same over signed numbers. -/
theorem spec_uv_set (c : UInt8) (i acc : Nat) (hi : i ≤ 9) (ha : acc < 2 ^ (7 * i)) (h9 : i = 9 → c.toNat ≤ 1) :
    bitI .or .i64 (acc : Int) (shlI .i64 (bitI .and .i64 (n8 c) 127) (w64 (7 * (i : Int)))) = w64 ((acc + c.toNat % 128 * 2 ^ (7 * i) : Nat) : Int) := by
  have h := uv_set c i acc hi ha h9
  rw [← h]
  have hc := c.toNat_lt
  have e1 : bitI .and .i64 (n8 c) 127 = ((c.toNat % 128 : Nat) : Int) := by
    rw [and127]; simp only [n8]; omega
  have e0 : bitI .and .u8 (n8 c) 127 = ((c.toNat % 128 : Nat) : Int) := by
    show IntKind.u8.wrap (((BitVec.ofInt 8 (c.toNat : Int) &&& BitVec.ofInt 8 127).toNat : Nat) : Int) = _
    rw [BitVec.toNat_and, ofInt_toNat, ofInt_toNat]
    have h1 : ((c.toNat : Int) % ((2 ^ 8 : Nat) : Int)).toNat = c.toNat := by
      simp only [Nat.reducePow]; omega
    have h2 : ((127 : Int) % ((2 ^ 8 : Nat) : Int)).toNat = 2 ^ 7 - 1 := by decide
    rw [h1, h2, Nat.and_two_pow_sub_one_eq_mod, IntKind.wrap_u8]
    simp only [Nat.reducePow]
    omega
  rw [e0, n8_b8 (by omega), wu64_id (by omega), e1, w64_id (by omega)]
  have e2 : (7 * (i : Int)) = ((7 * i : Nat) : Int) := by omega
  rw [e2, shlu64 _ _ (by omega), shl64 _ _ (by omega)]
  show w64 (((BitVec.ofInt 64 (acc : Int) ||| BitVec.ofInt 64 (w64 (((c.toNat % 128 : Nat) : Int) * 2 ^ (7 * i)))).toNat : Nat) : Int) = w64 (wu64 (((BitVec.ofInt 64 (acc : Int) ||| BitVec.ofInt 64 (wu64 (((c.toNat % 128 : Nat) : Int) * 2 ^ (7 * i)))).toNat : Nat) : Int))
  rw [w64_wu64]
  have e3 : ∀ x : Int, BitVec.ofInt 64 (w64 x) = BitVec.ofInt 64 (wu64 x) := by
    intro x
    apply BitVec.eq_of_toNat_eq
    rw [ofInt_toNat, ofInt_toNat, w64_eq, wu64_eq]
    simp only [Nat.reducePow]
    congr 1
    omega
  rw [e3]
end Go.V

/- Plain: varints as the program and the reference read them. -/
namespace Go.Proofs.Ytpggmokeohleiaa
open Go Go.V

theorem dtrue {p : Prop} [Decidable p] (h : p) : decide p = true := decide_eq_true h
theorem dfalse {p : Prop} [Decidable p] (h : ¬ p) : ¬ decide p = true := by simpa using h

theorem drop_get {l : List UInt8} {a : Nat} (h : a < l.length) : l.drop a = l.getD a 0 :: l.drop (a + 1) := by
  rw [List.drop_eq_getElem_cons h]
  simp [List.getD_eq_getElem?_getD, h]

theorem impl_uvarL (l : Bs) (a : Nat) (hl : l.length ≤ 274877906944) : ∀ (d i acc : Nat), i + d = 9 → acc < 2 ^ (7 * i) → (ha : a + i ≤ l.length + 9 ∧ a ≤ 9223372036854775807) →
    Ev (fun k => impl_UvarGetl1 k l (a : Int) (acc : Int) (i : Int)) (· = uvOut l a i acc) := by
  intro d
  induction d with
  | zero =>
    intro i acc hi hacc ha
    obtain rfl : i = 9 := by omega
    apply Ev.succ
    simp only [impl_UvarGetl1]
    refine Ev.pos (by decide) ?_
    by_cases hlt : a + 9 < l.length
    · refine Ev.pos (dtrue (by rw [w64_id (by omega)]; omega)) ?_
      rw [show w64 ((a : Int) + (9 : Nat)) = ((a + 9 : Nat) : Int) by rw [w64_id (by omega)]; omega]
      refine Ev.pos ⟨by omega, by omega⟩ ?_
      refine Ev.pos (by decide) ?_
      simp only [Int.toNat_natCast]
      rw [uvOut, drop_get hlt]
      obtain ⟨c, hcc⟩ : ∃ c, l.getD (a + 9) 0 = c := ⟨_, rfl⟩
      simp only [hcc]
      by_cases hc : 1 < c.toNat
      · refine Ev.pos (dtrue (by simp only [n8]; omega)) (Ev.ret ?_)
        simp only [uvn]
        rw [if_pos (by simp [hc])]
      · refine Ev.neg (dfalse (by simp only [n8]; omega)) ?_
        simp only [impl_UvarGetj2]
        refine Ev.pos (by decide) (Ev.pos (dtrue (by simp only [n8]; omega)) (Ev.ret ?_))
        rw [uv_set c 9 acc (by omega) hacc (fun _ => by omega)]
        simp only [uvn]
        rw [if_neg (by omega), if_pos (by omega)]
        simp only [Sum.inr.injEq, Prod.mk.injEq]
        refine ⟨by rw [Nat.mod_eq_of_lt (by omega)], ?_⟩
        rw [w64_id (show _ ∧ _ by rw [w64_id (by omega)]; omega), w64_id (by omega)]
        omega
    · refine Ev.neg (dfalse (by rw [w64_id (by omega)]; omega)) (Ev.ret ?_)
      rw [uvOut, List.drop_eq_nil_of_le (by omega)]
      rfl
  | succ d ih =>
    intro i acc hi hacc ha
    apply Ev.succ
    simp only [impl_UvarGetl1]
    refine Ev.pos (dtrue (by omega)) ?_
    by_cases hlt : a + i < l.length
    · refine Ev.pos (dtrue (by rw [w64_id (by omega)]; omega)) ?_
      rw [show w64 ((a : Int) + (i : Int)) = ((a + i : Nat) : Int) by rw [w64_id (by omega)]; omega]
      refine Ev.pos ⟨by omega, by omega⟩ ?_
      refine Ev.neg (by simp; omega) ?_
      simp only [Int.toNat_natCast]
      rw [uvOut, drop_get hlt]
      obtain ⟨c, hcc⟩ : ∃ c, l.getD (a + i) 0 = c := ⟨_, rfl⟩
      simp only [hcc]
      simp only [impl_UvarGetj2]
      refine Ev.pos (by rw [w64_id (by omega)]; omega) ?_
      rw [uv_set c i acc (by omega) hacc (fun h => by omega)]
      by_cases hc : c.toNat < 128
      · refine Ev.pos (dtrue (by simp only [n8]; omega)) (Ev.ret ?_)
        simp only [uvn]
        rw [if_neg (by omega), if_pos hc, Nat.mod_eq_of_lt (by omega)]
        simp only [Sum.inr.injEq, Prod.mk.injEq, true_and]
        rw [w64_id (show _ ∧ _ by rw [w64_id (by omega)]; omega), w64_id (by omega)]
        omega
      · refine Ev.neg (dfalse (by simp only [n8]; omega)) ?_
        rw [w64_id (show _ ∧ _ by omega)]
        have hm : c.toNat % 128 = c.toNat - 128 := by have := c.toNat_lt; omega
        have hnew : acc + c.toNat % 128 * 2 ^ (7 * i) < 2 ^ (7 * (i + 1)) := by
          have h3 : (c.toNat % 128 + 1) * 2 ^ (7 * i) ≤ 2 ^ 7 * 2 ^ (7 * i) := Nat.mul_le_mul_right _ (by omega)
          rw [Nat.add_mul] at h3
          have h4 : 2 ^ 7 * 2 ^ (7 * i) = 2 ^ (7 * (i + 1)) := by rw [← Nat.pow_add]; congr 1; omega
          omega
        refine (ih (i + 1) _ (by omega) hnew (by omega)).mono fun r hr => ?_
        rw [hr, uvOut]
        simp only [uvn]
        rw [if_neg (by omega), if_neg hc, ← hm, show a + (i + 1) = a + i + 1 by omega]
        cases uvn (l.drop (a + i + 1)) (i + 1) (acc + c.toNat % 128 * 2 ^ (7 * i)) with
        | none => rfl
        | some x =>
          obtain ⟨n, m⟩ := x
          simp only [Sum.inr.injEq, Prod.mk.injEq, true_and]
          omega
    · refine Ev.neg (dfalse (by rw [w64_id (by omega)]; omega)) (Ev.ret ?_)
      rw [uvOut, List.drop_eq_nil_of_le (by omega)]
      rfl

theorem impl_UvarGet_ev (l : Bs) (a : Int) (hl : l.length ≤ 274877906944) (ha : a ≤ 9223372036854775807) : Ev (fun k => impl_UvarGet k l a) (· = uvGet l a) := by
  simp only [impl_UvarGet]
  by_cases h0 : a < 0
  · refine Ev.pos (dtrue h0) (Ev.ret ?_)
    simp [uvGet, h0]
  · refine Ev.neg (dfalse h0) ?_
    obtain ⟨n, rfl⟩ : ∃ n : Nat, a = n := ⟨a.toNat, by omega⟩
    by_cases hn : n ≤ l.length
    · refine Ev.bind_eq (impl_uvarL l n hl 9 0 0 rfl (by decide) (by omega)) ?_
      simp only [uvOut, uvGet, Nat.add_zero, Int.toNat_natCast]
      rw [if_neg (by omega)]
      cases uvn (l.drop n) 0 0 with
      | none => exact Ev.ret rfl
      | some x => exact Ev.ret (by simp)
    · refine Ev.bind_eq (y := (.inl () : Unit ⊕ (Int × Int))) ?_ ?_
      · apply Ev.succ
        simp only [impl_UvarGetl1]
        refine Ev.pos (by decide) (Ev.neg (dfalse ?_) (Ev.ret rfl))
        rw [w64_id (by omega)]; omega
      · refine Ev.ret ?_
        simp only [uvGet, Int.toNat_natCast]
        rw [if_neg (by omega), List.drop_eq_nil_of_le (by omega)]
        rfl

theorem spec_uvarL (l : Bs) (a : Nat) (hl : l.length ≤ 274877906944) : ∀ (d i acc : Nat), i + d = 9 → acc < 2 ^ (7 * i) → (ha : a < l.length) →
    Ev (fun k => spec_UvarGetl1 k l (a : Int) (acc : Int) (i : Int)) (fun r => (match r with | .inl _ => (0, 0, false) | .inr x => x) = match uvn (l.drop (a + i)) i acc with | some (n, k) => (w64 n, ((a + i + k : Nat) : Int), true) | none => (0, 0, false)) := by
  intro d
  induction d with
  | zero =>
    intro i acc hi hacc ha
    obtain rfl : i = 9 := by omega
    apply Ev.succ
    simp only [spec_UvarGetl1]
    refine Ev.pos (by decide) ?_
    rw [show w64 ((a : Int) + (9 : Nat)) = ((a + 9 : Nat) : Int) by rw [w64_id (by omega)]; omega]
    by_cases hlt : a + 9 < l.length
    · refine Ev.pos (dtrue (by omega)) ?_
      refine Ev.pos ⟨by omega, by omega⟩ ?_
      refine Ev.pos (by decide) ?_
      simp only [Int.toNat_natCast]
      rw [drop_get hlt]
      obtain ⟨c, hcc⟩ : ∃ c, l.getD (a + 9) 0 = c := ⟨_, rfl⟩
      simp only [hcc]
      have hb := n8_bd c
      rw [w64_id (n := n8 c) (by omega)]
      by_cases hc : 1 < c.toNat
      · simp only [uvn]
        rw [if_pos (by simp [hc])]
        by_cases hc2 : c.toNat < 128
        · refine Ev.pos (dtrue (by simp only [n8]; omega)) (Ev.pos (by decide) (Ev.pos (dtrue (by simp only [n8]; omega)) (Ev.ret rfl)))
        · refine Ev.neg (dfalse (by simp only [n8]; omega)) ?_
          rw [show w64 ((9 : Nat) + 1 : Int) = 10 by decide]
          apply Ev.succ
          simp only [spec_UvarGetl1]
          exact Ev.neg (by decide) (Ev.ret rfl)
      · refine Ev.pos (dtrue (by simp only [n8]; omega)) (Ev.pos (by decide) (Ev.neg (dfalse (by simp only [n8]; omega)) ?_))
        simp only [spec_UvarGetj2]
        refine Ev.ret ?_
        simp only [uvn]
        rw [if_neg (by omega), if_pos (by omega)]
        simp only [Prod.mk.injEq, and_true]
        refine ⟨?_, by rw [w64_id (show _ ∧ _ by rw [w64_id (by omega)]; omega), w64_id (by omega)]; omega⟩
        rw [spec_uv_set c 9 acc (by omega) hacc (fun _ => by omega), Nat.mod_eq_of_lt (by omega)]
    · refine Ev.neg (dfalse (by omega)) (Ev.ret ?_)
      rw [List.drop_eq_nil_of_le (by omega)]
      rfl
  | succ d ih =>
    intro i acc hi hacc ha
    apply Ev.succ
    simp only [spec_UvarGetl1]
    refine Ev.pos (dtrue (by omega)) ?_
    rw [show w64 ((a : Int) + (i : Int)) = ((a + i : Nat) : Int) by rw [w64_id (by omega)]; omega]
    by_cases hlt : a + i < l.length
    · refine Ev.pos (dtrue (by omega)) ?_
      refine Ev.pos ⟨by omega, by omega⟩ ?_
      refine Ev.pos (by rw [w64_id (by omega)]; omega) ?_
      simp only [Int.toNat_natCast]
      rw [drop_get hlt]
      obtain ⟨c, hcc⟩ : ∃ c, l.getD (a + i) 0 = c := ⟨_, rfl⟩
      simp only [hcc]
      have hb := n8_bd c
      rw [w64_id (n := n8 c) (by omega), spec_uv_set c i acc (by omega) hacc (fun h => by omega)]
      have hm8 : c.toNat % 128 < 128 := Nat.mod_lt _ (by omega)
      have hnew : acc + c.toNat % 128 * 2 ^ (7 * i) < 2 ^ (7 * (i + 1)) := by
        have h3 : (c.toNat % 128 + 1) * 2 ^ (7 * i) ≤ 2 ^ 7 * 2 ^ (7 * i) := Nat.mul_le_mul_right _ (by omega)
        rw [Nat.add_mul] at h3
        have h4 : 2 ^ 7 * 2 ^ (7 * i) = 2 ^ (7 * (i + 1)) := by rw [← Nat.pow_add]; congr 1; omega
        omega
      have h63 : (2 : Nat) ^ (7 * (i + 1)) ≤ 2 ^ 63 := Nat.pow_le_pow_right (by omega) (by omega)
      by_cases hc : c.toNat < 128
      · refine Ev.pos (dtrue (by simp only [n8]; omega)) (Ev.neg (by simp; omega) ?_)
        simp only [spec_UvarGetj2]
        refine Ev.ret ?_
        simp only [uvn]
        rw [if_neg (by omega), if_pos hc]
        rw [Nat.mod_eq_of_lt hc] at hnew ⊢
        simp only [Prod.mk.injEq, and_true]
        refine ⟨trivial, ?_⟩
        rw [w64_id (show _ ∧ _ by rw [w64_id (by omega)]; omega), w64_id (by omega)]; omega
      · refine Ev.neg (dfalse (by simp only [n8]; omega)) ?_
        rw [w64_id (n := (i : Int) + 1) (by omega)]
        have hm : c.toNat % 128 = c.toNat - 128 := by have := c.toNat_lt; omega
        rw [w64_id (n := ((acc + c.toNat % 128 * 2 ^ (7 * i) : Nat) : Int)) (by
          have : (2 : Nat) ^ 63 = 9223372036854775808 := by decide
          omega)]
        refine (ih (i + 1) _ (by omega) hnew (by omega)).mono fun r hr => ?_
        rw [hr]
        simp only [uvn]
        rw [if_neg (by omega), if_neg hc, ← hm, show a + (i + 1) = a + i + 1 by omega]
        cases uvn (l.drop (a + i + 1)) (i + 1) (acc + c.toNat % 128 * 2 ^ (7 * i)) with
        | none => rfl
        | some x =>
          obtain ⟨n, m⟩ := x
          simp only [Prod.mk.injEq, true_and, and_true]
          omega
    · refine Ev.neg (dfalse (by omega)) (Ev.ret ?_)
      rw [List.drop_eq_nil_of_le (by omega)]
      rfl

theorem spec_UvarGet_ev (l : Bs) (a : Int) (hl : l.length ≤ 274877906944) : Ev (fun k => spec_UvarGet k l a) (· = uvGet l a) := by
  simp only [spec_UvarGet]
  by_cases h0 : a < 0
  · refine Ev.pos (dtrue h0) (Ev.ret ?_)
    simp [uvGet, h0]
  · refine Ev.neg (dfalse h0) ?_
    obtain ⟨n, rfl⟩ : ∃ n : Nat, a = n := ⟨a.toNat, by omega⟩
    by_cases hn : n < l.length
    · refine Ev.neg (dfalse (by omega)) (Ev.bind (spec_uvarL l n hl 9 0 0 rfl (by decide) hn) fun y hy => ?_)
      simp only [uvGet, Int.toNat_natCast]
      rw [if_neg (by omega)]
      simp only [Nat.add_zero] at hy
      cases y with
      | inl u =>
        refine Ev.ret ?_
        simp only at hy
        rw [hy]
        cases uvn (l.drop n) 0 0 with
        | none => rfl
        | some x => simp
      | inr x =>
        refine Ev.ret ?_
        simp only at hy
        rw [hy]
        cases uvn (l.drop n) 0 0 with
        | none => rfl
        | some x => simp
    · refine Ev.pos (dtrue (by omega)) (Ev.ret ?_)
      simp only [uvGet, Int.toNat_natCast]
      rw [if_neg (by omega), List.drop_eq_nil_of_le (by omega)]
      rfl
end Go.Proofs.Ytpggmokeohleiaa

/- Plain: varints written and read again; zigzag. -/
namespace Go.V
open Go

/-! ### Varints written -/
def uvPut (u : Nat) : List UInt8 :=
  if u < 128 then [UInt8.ofNat u] else UInt8.ofNat (u % 128 + 128) :: uvPut (u / 128)
termination_by u
decreasing_by omega

theorem uvPut_small {u : Nat} (h : u < 128) : uvPut u = [UInt8.ofNat u] := by rw [uvPut, if_pos h]
theorem uvPut_big {u : Nat} (h : ¬ u < 128) : uvPut u = UInt8.ofNat (u % 128 + 128) :: uvPut (u / 128) := by rw [uvPut, if_neg h]
theorem uvPut_pos (u : Nat) : 0 < (uvPut u).length := by
  by_cases h : u < 128
  · rw [uvPut_small h]; simp
  · rw [uvPut_big h]; simp
theorem uvPut_len : ∀ (d u : Nat), u < 2 ^ (7 * d) → 0 < d → (uvPut u).length ≤ d
  | 0, _, _, h => by omega
  | d + 1, u, h, _ => by
    by_cases hu : u < 128
    · rw [uvPut_small hu]; simp
    · rw [uvPut_big hu]
      have h1 : 2 ^ (7 * (d + 1)) = 2 ^ (7 * d) * 128 := by rw [show 7 * (d + 1) = 7 * d + 7 by omega, Nat.pow_add]
      have h2 : u / 128 < 2 ^ (7 * d) := by omega
      have h3 : 0 < d := by
        rcases Nat.eq_zero_or_pos d with rfl | h
        · simp at h2; omega
        · exact h
      have := uvPut_len d (u / 128) h2 h3
      simp only [List.length_cons]; omega
theorem uvPut_len10 {u : Nat} (h : u < 2 ^ 64) : (uvPut u).length ≤ 10 :=
  uvPut_len 10 u (Nat.lt_of_lt_of_le h (by decide)) (by omega)

theorem ofNat_toNat {n : Nat} (h : n < 256) : (UInt8.ofNat n).toNat = n := by rw [UInt8.toNat_ofNat']; omega

/-- What is written is read. -/
theorem uvn_put : ∀ (d u i acc : Nat) (t : List UInt8), u < 2 ^ (7 * d) → i + d ≤ 11 → u * 2 ^ (7 * i) < 2 ^ 64 → uvn (uvPut u ++ t) i acc = some (acc + u * 2 ^ (7 * i), (uvPut u).length)
  | 0, u, i, acc, t, h, _, _ => by
    have hu : u = 0 := by simpa using h
    subst hu
    rw [uvPut_small (by omega)]
    simp [uvn]
  | d + 1, u, i, acc, t, h, hi, h64 => by
    by_cases hu : u < 128
    · rw [uvPut_small hu]
      simp only [List.cons_append, List.nil_append, uvn]
      rw [ofNat_toNat (by omega), if_neg, if_pos hu]
      · rfl
      · rintro ⟨rfl, h1⟩
        have : 2 * 2 ^ (7 * 9) ≤ u * 2 ^ (7 * 9) := Nat.mul_le_mul_right _ (by omega)
        have h2 : 2 * 2 ^ (7 * 9) = 2 ^ 64 := by decide
        omega
    · rw [uvPut_big hu]
      simp only [List.cons_append, uvn]
      rw [ofNat_toNat (by omega)]
      have hlow : 128 * 2 ^ (7 * i) ≤ u * 2 ^ (7 * i) := Nat.mul_le_mul_right _ (by omega)
      have hi9 : i ≠ 9 ∧ i < 9 := by
        have : i < 9 := by
          apply Classical.byContradiction
          intro hn
          have h1 : 2 ^ (7 * 9) ≤ 2 ^ (7 * i) := Nat.pow_le_pow_right (by omega) (by omega)
          have h2 : 128 * 2 ^ (7 * 9) ≤ 128 * 2 ^ (7 * i) := Nat.mul_le_mul_left _ h1
          have h3 : 2 ^ 64 < 128 * 2 ^ (7 * 9) := by decide
          omega
        omega
      rw [if_neg (by omega), if_neg (by omega)]
      have hp : 2 ^ (7 * (i + 1)) = 128 * 2 ^ (7 * i) := by rw [show 7 * (i + 1) = 7 * i + 7 by omega, Nat.pow_add]; omega
      have h1 : 2 ^ (7 * (d + 1)) = 2 ^ (7 * d) * 128 := by rw [show 7 * (d + 1) = 7 * d + 7 by omega, Nat.pow_add]
      have hdm : u = 128 * (u / 128) + u % 128 := by omega
      have key : u / 128 * 2 ^ (7 * (i + 1)) + u % 128 * 2 ^ (7 * i) = u * 2 ^ (7 * i) := by
        rw [hp, ← Nat.mul_assoc, ← Nat.add_mul]
        congr 1; omega
      rw [uvn_put d (u / 128) (i + 1) _ t (by omega) (by omega) (by omega)]
      simp only [Option.some.injEq, Prod.mk.injEq, List.length_cons, and_true]
      rw [show u % 128 + 128 - 128 = u % 128 by omega]
      omega
theorem uvn_uvPut {u : Nat} (h : u < 2 ^ 64) (t : List UInt8) : uvn (uvPut u ++ t) 0 0 = some (u, (uvPut u).length) := by
  have := uvn_put 11 u 0 0 t (Nat.lt_of_lt_of_le h (by decide)) (by omega) (by simpa using h)
  simpa using this

/-- The writing is no longer than what was read. -/
theorem uvn_min : ∀ {l : List UInt8} {i acc n k : Nat}, uvn l i acc = some (n, k) → ∃ v, n = acc + v * 2 ^ (7 * i) ∧ (uvPut v).length ≤ k
  | [], _, _, _, _, h => by cases h
  | c :: t, i, acc, n, k, h => by
    simp only [uvn] at h
    split at h
    · cases h
    · split at h
      · rename_i hc
        simp only [Option.some.injEq, Prod.mk.injEq] at h
        exact ⟨c.toNat, h.1.symm, by rw [uvPut_small hc]; simp; omega⟩
      · rename_i hc
        split at h
        · rename_i n' k' h1
          obtain ⟨v, h2, h3⟩ := uvn_min h1
          simp only [Option.some.injEq, Prod.mk.injEq] at h
          obtain ⟨rfl, rfl⟩ := h
          have hp : 2 ^ (7 * (i + 1)) = 128 * 2 ^ (7 * i) := by rw [show 7 * (i + 1) = 7 * i + 7 by omega, Nat.pow_add]; omega
          refine ⟨(c.toNat - 128) + v * 128, ?_, ?_⟩
          · rw [h2, hp, Nat.add_mul, Nat.mul_assoc]; omega
          · by_cases hv : (c.toNat - 128) + v * 128 < 128
            · rw [uvPut_small hv]; simp
            · rw [uvPut_big hv]
              have hc2 := c.toNat_lt
              rw [show ((c.toNat - 128) + v * 128) / 128 = v by omega]
              simp only [List.length_cons]; omega
        · cases h
theorem uvn_lt : ∀ {l : List UInt8} {i acc n k : Nat}, uvn l i acc = some (n, k) → i ≤ 9 → acc < 2 ^ (7 * i) → n < 2 ^ 64
  | [], _, _, _, _, h, _, _ => by cases h
  | c :: t, i, acc, n, k, h, hi, ha => by
    have hc2 := c.toNat_lt
    simp only [uvn] at h
    split at h
    · cases h
    · rename_i h9
      split at h
      · rename_i hc
        simp only [Option.some.injEq, Prod.mk.injEq] at h
        rw [← h.1]
        by_cases h10 : i = 9
        · subst h10
          have h3 : c.toNat * 2 ^ (7 * 9) ≤ 1 * 2 ^ (7 * 9) := Nat.mul_le_mul_right _ (by omega)
          have h4 : (2 : Nat) ^ (7 * 9) + 2 ^ (7 * 9) = 2 ^ 64 := by decide
          omega
        · have h3 : (c.toNat + 1) * 2 ^ (7 * i) ≤ 2 ^ 7 * 2 ^ (7 * i) := Nat.mul_le_mul_right _ (by omega)
          have h4 : 2 ^ 7 * 2 ^ (7 * i) ≤ 2 ^ 64 := by rw [← Nat.pow_add]; exact Nat.pow_le_pow_right (by omega) (by omega)
          rw [Nat.add_mul] at h3
          omega
      · rename_i hc
        split at h
        · rename_i n' k' h1
          simp only [Option.some.injEq, Prod.mk.injEq] at h
          rw [← h.1]
          have h10 : i ≠ 9 := by
            rintro rfl
            omega
          refine uvn_lt h1 (by omega) ?_
          have h3 : (c.toNat - 128 + 1) * 2 ^ (7 * i) ≤ 2 ^ 7 * 2 ^ (7 * i) := Nat.mul_le_mul_right _ (by omega)
          have h4 : 2 ^ 7 * 2 ^ (7 * i) = 2 ^ (7 * (i + 1)) := by rw [← Nat.pow_add]; congr 1; omega
          rw [Nat.add_mul] at h3
          omega
        · cases h

/-- More bytes behind, and fewer. -/
theorem uvn_app : ∀ {l : List UInt8} {i acc n k : Nat} (t : List UInt8), uvn l i acc = some (n, k) → uvn (l ++ t) i acc = some (n, k)
  | [], _, _, _, _, _, h => by cases h
  | c :: l, i, acc, n, k, t, h => by
    simp only [List.cons_append, uvn] at h ⊢
    split at h
    · cases h
    · rename_i h1
      rw [if_neg h1]
      split at h
      · rename_i h2
        rw [if_pos h2]; exact h
      · rename_i h2
        rw [if_neg h2]
        split at h
        · rename_i h3
          rw [uvn_app t h3]; exact h
        · cases h
/-- Of fewer bytes than were read there is none. -/
theorem uvn_cut : ∀ {l : List UInt8} {i acc n k : Nat} (m : Nat), uvn l i acc = some (n, k) → m < k → uvn (l.take m) i acc = none
  | [], _, _, _, _, _, h, _ => by cases h
  | c :: l, i, acc, n, k, 0, _, _ => by simp [uvn]
  | c :: l, i, acc, n, k, m + 1, h, hm => by
    simp only [List.take_succ_cons, uvn] at h ⊢
    split at h
    · cases h
    · rename_i h1
      rw [if_neg h1]
      split at h
      · simp only [Option.some.injEq, Prod.mk.injEq] at h; omega
      · rename_i h2
        rw [if_neg h2]
        split at h
        · rename_i n' k' h3
          simp only [Option.some.injEq, Prod.mk.injEq] at h
          rw [uvn_cut m h3 (by omega)]
        · cases h
theorem uvn_take {l : List UInt8} {i acc n k : Nat} (m : Nat) (h : uvn l i acc = some (n, k)) (hm : k ≤ m) : uvn (l.take m) i acc = some (n, k) := by
  induction l generalizing i acc n k m with
  | nil => cases h
  | cons c l ih =>
    have hk := (uvn_le h).1
    obtain ⟨m, rfl⟩ : ∃ q, m = q + 1 := ⟨m - 1, by omega⟩
    simp only [List.take_succ_cons, uvn] at h ⊢
    split at h
    · cases h
    · rename_i h1
      rw [if_neg h1]
      split at h
      · rename_i h2
        rw [if_pos h2]; exact h
      · rename_i h2
        rw [if_neg h2]
        split at h
        · rename_i n' k' h3
          simp only [Option.some.injEq, Prod.mk.injEq] at h
          rw [ih m h3 (by omega)]
          simp [h]
        · cases h

/-! ### Zigzag -/
def zag (x : Int) : Int := if x % 2 = 1 then -1 - x % 18446744073709551616 / 2 else x % 18446744073709551616 / 2
def zig (x : Int) : Int := if x < 0 then -1 - w64 (2 * x) else w64 (2 * x)
theorem zag_bd (x : Int) : -9223372036854775808 ≤ zag x ∧ zag x ≤ 9223372036854775807 := by unfold zag; split <;> omega
theorem zig_bd (x : Int) : -9223372036854775808 ≤ zig x ∧ zig x ≤ 9223372036854775807 := by
  have := w64_bd (2 * x)
  unfold zig; split <;> omega
theorem zag_zig {x : Int} (h : -9223372036854775808 ≤ x ∧ x ≤ 9223372036854775807) : zag (zig x) = x := by
  unfold zag zig
  rw [w64_eq]
  split <;> split <;> omega
/-- The number that is written for x. -/
def zigN (x : Int) : Nat := (zig x % 18446744073709551616).toNat
theorem zigN_lt (x : Int) : zigN x < 2 ^ 64 := by
  have : (2 : Nat) ^ 64 = 18446744073709551616 := by decide
  unfold zigN; omega
theorem w64_zigN (x : Int) : w64 (zigN x) = zig x := by
  have := zig_bd x
  unfold zigN
  rw [w64_eq]; omega
theorem zigN_zag {u : Nat} (h : u < 2 ^ 64) : zigN (zag (w64 u)) = u := by
  have : (2 : Nat) ^ 64 = 18446744073709551616 := by decide
  unfold zigN zig zag
  rw [w64_eq]
  split
  · split <;> (rw [w64_eq]; omega)
  · split <;> (rw [w64_eq]; omega)
theorem zag_zigN {x : Int} (h : -9223372036854775808 ≤ x ∧ x ≤ 9223372036854775807) : zag (w64 (zigN x)) = x := by rw [w64_zigN, zag_zig h]

theorem xor0 (x : Int) (h : -9223372036854775808 ≤ x ∧ x ≤ 9223372036854775807) : bitI .xor .i64 x 0 = x := by
  show w64 (((BitVec.ofInt 64 x ^^^ BitVec.ofInt 64 0).toNat : Nat) : Int) = x
  have : BitVec.ofInt 64 0 = 0#64 := by decide
  rw [this, BitVec.xor_zero, ofInt_toNat, w64_eq]
  simp only [Nat.reducePow]
  omega
theorem xor_comm (x y : Int) : bitI .xor .i64 x y = bitI .xor .i64 y x := by
  show w64 (((BitVec.ofInt 64 x ^^^ BitVec.ofInt 64 y).toNat : Nat) : Int) = w64 (((BitVec.ofInt 64 y ^^^ BitVec.ofInt 64 x).toNat : Nat) : Int)
  rw [BitVec.xor_comm]
theorem xor_m1' (x : Int) (h : -9223372036854775808 ≤ x ∧ x ≤ 9223372036854775807) : bitI .xor .i64 x (-1) = -1 - x := by rw [xor_comm, xor_m1 x h]

/-- What ZigGet tells. -/
def zigGet (l : List UInt8) (a : Int) : Int × Int × Bool := if (uvGet l a).2.2 then (zag (uvGet l a).1, (uvGet l a).2.1, true) else (0, 0, false)
theorem uvGet_bd (l : List UInt8) (a : Int) : -9223372036854775808 ≤ (uvGet l a).1 ∧ (uvGet l a).1 ≤ 9223372036854775807 := by
  unfold uvGet
  split
  · simp
  · split
    · exact w64_bd _
    · simp

/-- The bytes that ZigPut tells. -/
def zigPut (x : Int) : List UInt8 := uvPut (zigN x)
theorem zigPut_len (x : Int) : (zigPut x).length ≤ 10 := uvPut_len10 (zigN_lt x)
end Go.V

/- Plain: zigzag, and varints written, of both sides. -/
namespace Go.Proofs.Ytpggmokeohleiaa
open Go Go.V

theorem impl_Zag_eq (k : Nat) (x : Int) : impl_Zag k x = some (zag x) := by
  simp only [impl_Zag]
  congr 1
  have h1 : shrI .u64 (wu64 x) 1 = x % 18446744073709551616 / 2 := by
    have := shr64 .u64 (wu64 x) 1 (by decide)
    rw [show ((1 : Nat) : Int) = 1 from rfl] at this
    rw [this, wu64_eq]; rfl
  rw [h1, and1, w64_id (by omega)]
  unfold zag
  split
  · rename_i h
    rw [h, show w64 (0 - 1) = -1 by decide, xor_m1' _ (by omega)]
  · rename_i h
    rw [show x % 2 = 0 by omega, show w64 (0 - 0) = 0 by decide, xor0 _ (by omega)]

theorem spec_l2Down_eq (k : Nat) (x : Int) (n : Nat) (h1 : 1 ≤ n) (h2 : n ≤ 63) : spec_l2Down k x n = some (x / 2 ^ n % (2 ^ (64 - n) : Nat)) := by
  simp only [spec_l2Down]
  rw [if_neg (by simp; omega), if_pos (by omega), if_pos (by rw [w64_id (by omega)]; omega)]
  congr 1
  rw [w64_id (n := 64 - (n : Int)) (by omega), show (64 - (n : Int)) = ((64 - n : Nat) : Int) by omega, shl64 _ _ (by omega), shr64 _ _ _ (by simp only [IntKind.bits]; omega), Int.one_mul]
  have hp : (2 : Nat) ^ (64 - n) ≤ 2 ^ 63 := Nat.pow_le_pow_right (by omega) (by omega)
  have hp0 : 0 < (2 : Nat) ^ (64 - n) := Nat.pow_pos (by omega)
  have hcast : ((2 : Int) ^ (64 - n)) = ((2 ^ (64 - n) : Nat) : Int) := by rw [Int.natCast_pow]; rfl
  have e : w64 (w64 ((2 : Int) ^ (64 - n)) - 1) = ((2 ^ (64 - n) - 1 : Nat) : Int) := by
    rw [hcast]
    have h63 : (2 : Nat) ^ 63 = 9223372036854775808 := by decide
    rw [w64_eq, w64_eq]
    omega
  rw [e, and_low _ _ (by omega)]

theorem half {x : Int} (h : -9223372036854775808 ≤ x ∧ x ≤ 9223372036854775807) : x / 2 ^ 1 % ((2 ^ (64 - 1) : Nat) : Int) = x % 18446744073709551616 / 2 := by
  simp only [Nat.reduceSub, Nat.reducePow]
  rw [show (2 : Int) ^ 1 = 2 from rfl]
  omega

theorem spec_Zag_eq (k : Nat) (x : Int) (h : -9223372036854775808 ≤ x ∧ x ≤ 9223372036854775807) : spec_Zag k x = some (zag x) := by
  simp only [spec_Zag]
  have h1 := spec_l2Down_eq k x 1 (by omega) (by omega)
  rw [half h, show ((1 : Nat) : Int) = 1 from rfl] at h1
  rw [h1, and1]
  unfold zag
  by_cases hx : x % 2 = 1
  · rw [if_pos (by simp [hx]), if_pos hx]
    simp only [Option.bind_some]
    rw [xor_m1 _ (by omega)]
  · rw [if_neg (by simp [hx]), if_neg hx]
    simp

theorem spec_ZigGet_ev (l : Bs) (a : Int) (hl : l.length ≤ 274877906944) : Ev (fun k => spec_ZigGet k l a) (· = zigGet l a) := by
  simp only [spec_ZigGet]
  refine Ev.bind_eq (spec_UvarGet_ev l a hl) ?_
  by_cases h : (uvGet l a).2.2 = true
  · refine Ev.neg (by simp [h]) ?_
    simp only [spec_Zag_eq _ _ (uvGet_bd l a), Option.bind_some]
    exact Ev.ret (by simp [zigGet, h])
  · refine Ev.pos (by simpa using h) (Ev.ret (by simp [zigGet, h]))

/-! ### Written -/
theorem impl_Zig_eq (k : Nat) (x : Int) (h : -9223372036854775808 ≤ x ∧ x ≤ 9223372036854775807) : impl_Zig k x = some (zig x) := by
  simp only [impl_Zig]
  congr 1
  have h1 := shl64 x 1 (by omega)
  have h2 := shr64 .i64 x 63 (by decide)
  rw [show ((1 : Nat) : Int) = 1 from rfl] at h1
  rw [show ((63 : Nat) : Int) = 63 from rfl] at h2
  rw [h1, h2, show x * 2 ^ 1 = 2 * x by omega]
  unfold zig
  have hb := w64_bd (2 * x)
  split
  · rw [show x / 2 ^ 63 = -1 by omega, xor_m1' _ hb]
  · rw [show x / 2 ^ 63 = 0 by omega, xor0 _ hb]
theorem spec_Zig_eq (k : Nat) (x : Int) : spec_Zig k x = some (zig x) := by
  simp only [spec_Zig]
  have h1 := shl64 x 1 (by omega)
  rw [show ((1 : Nat) : Int) = 1 from rfl] at h1
  rw [h1, show x * 2 ^ 1 = 2 * x by omega]
  unfold zig
  have hb := w64_bd (2 * x)
  by_cases hx : x < 0
  · rw [if_pos (dtrue hx), if_pos hx, xor_m1 _ hb]
  · rw [if_neg (dfalse hx), if_neg hx]

theorem or128 (a : Nat) (ha : a < 128) : bitI .or .u64 (a : Int) 128 = ((a + 128 : Nat) : Int) := by
  have h := or_high a 1 7 ha (by omega)
  show wu64 (((BitVec.ofInt 64 (a : Int) ||| BitVec.ofInt 64 128).toNat : Nat) : Int) = _
  rw [show ((1 * 2 ^ 7 : Nat) : Int) = 128 from rfl] at h
  rw [h, wu64_id (by omega)]
theorem andu127 (u : Nat) (hu : u < 2 ^ 64) : bitI .and .u64 (u : Int) 127 = ((u % 128 : Nat) : Int) := by
  show wu64 (((BitVec.ofInt 64 (u : Int) &&& BitVec.ofInt 64 127).toNat : Nat) : Int) = _
  rw [BitVec.toNat_and, ofInt_toNat, ofInt_toNat]
  have h64 : (2 : Nat) ^ 64 = 18446744073709551616 := by decide
  have h1 : ((u : Int) % ((2 ^ 64 : Nat) : Int)).toNat = u := by rw [h64] at hu ⊢; omega
  have h2 : ((127 : Int) % ((2 ^ 64 : Nat) : Int)).toNat = 2 ^ 7 - 1 := by decide
  rw [h1, h2, Nat.and_two_pow_sub_one_eq_mod, wu64_id (by omega)]

theorem impl_uvPutL : ∀ (d u : Nat) (out : Bs), u < 2 ^ (7 * d) → u < 2 ^ 64 → out.length + d ≤ 1000 → Ev (fun k => impl_UvarPutl1 k (u : Int) out) (fun r => 0 ≤ r.1 ∧ r.1 < 128 ∧ r.2 ++ [b8 (wu8 r.1)] = out ++ uvPut u)
  | 0, u, out, h, _, _ => by
    have hu : u = 0 := by simpa using h
    subst hu
    apply Ev.succ
    simp only [impl_UvarPutl1]
    refine Ev.neg (by decide) (Ev.ret ⟨Int.le_refl 0, by simp, ?_⟩)
    rw [uvPut_small (by omega)]
    rfl
  | d + 1, u, out, h, h64, hl => by
    apply Ev.succ
    simp only [impl_UvarPutl1]
    by_cases hu : u < 128
    · refine Ev.neg (dfalse (by omega)) (Ev.ret ⟨by omega, by omega, ?_⟩)
      rw [uvPut_small hu, wu8_eq, Int.emod_eq_of_lt (by omega) (by omega)]
      rfl
    · refine Ev.pos (dtrue (by omega)) ?_
      have h264 : (2 : Nat) ^ 64 = 18446744073709551616 := by decide
      rw [andu127 u h64, or128 _ (by omega), wu8_eq]
      have hs := shr64 .u64 (u : Int) 7 (by decide)
      rw [show ((7 : Nat) : Int) = 7 from rfl] at hs
      rw [hs, show ((u : Int) / 2 ^ 7) = ((u / 128 : Nat) : Int) by omega]
      have h1 : 2 ^ (7 * (d + 1)) = 2 ^ (7 * d) * 128 := by rw [show 7 * (d + 1) = 7 * d + 7 by omega, Nat.pow_add]
      have e : b8 (((u % 128 + 128 : Nat) : Int) % 256) = UInt8.ofNat (u % 128 + 128) := by
        rw [Int.emod_eq_of_lt (by omega) (by omega)]; rfl
      rw [e]
      refine Ev.pos (by simp only [LIM]; omega) ?_
      refine (impl_uvPutL d (u / 128) _ (by omega) (by omega) (by simp; omega)).mono fun r hr => ⟨hr.1, hr.2.1, ?_⟩
      rw [hr.2.2, uvPut_big hu]
      simp

theorem impl_UvarPut_ev (x : Int) : Ev (fun k => impl_UvarPut k x) (· = uvPut (x % 18446744073709551616).toNat) := by
  simp only [impl_UvarPut]
  have h64 : (2 : Nat) ^ 64 = 18446744073709551616 := by decide
  have hu : (x % 18446744073709551616).toNat < 2 ^ 64 := by omega
  rw [wu64_eq, show x % 18446744073709551616 = (((x % 18446744073709551616).toNat : Nat) : Int) by omega]
  rw [Int.toNat_natCast]
  refine (impl_uvPutL 10 _ [] (Nat.lt_of_lt_of_le hu (by decide)) hu (by simp)).bind fun r hr => ?_
  have hlen := congrArg List.length hr.2.2
  have := uvPut_len10 hu
  simp only [List.length_append, List.length_cons, List.length_nil] at hlen
  refine Ev.pos (by simp only [LIM]; omega) (Ev.ret ?_)
  rw [hr.2.2]; rfl

theorem down7 (x : Int) : x / 2 ^ 7 % ((2 ^ (64 - 7) : Nat) : Int) = (((x % 18446744073709551616).toNat / 128 : Nat) : Int) := by
  simp only [Nat.reduceSub, Nat.reducePow]
  rw [show (2 : Int) ^ 7 = 128 from rfl]
  omega

theorem spec_uvPutL : ∀ (d : Nat) (x : Int) (out : Bs), (x % 18446744073709551616).toNat < 2 ^ (7 * d) → out.length + d ≤ 1000 →
    Ev (fun k => spec_UvarPutl1 k x out) (fun r => r.2 ++ [b8 (wu8 r.1)] = out ++ uvPut (x % 18446744073709551616).toNat)
  | 0, x, out, h, _ => by
    have hu : x % 18446744073709551616 = 0 := by
      have : (x % 18446744073709551616).toNat = 0 := by simpa using h
      omega
    apply Ev.succ
    simp only [spec_UvarPutl1]
    have h7 := fun k => spec_l2Down_eq k x 7 (by omega) (by omega)
    simp only [down7, show ((7 : Nat) : Int) = 7 from rfl] at h7
    simp only [h7, Option.bind_some]
    refine Ev.neg (by simp [hu]) (Ev.ret ?_)
    simp only
    rw [hu, show (0 : Int).toNat = 0 from rfl, uvPut_small (by omega), wu8_eq, show x % 256 = 0 by omega]
    rfl
  | d + 1, x, out, h, hl => by
    apply Ev.succ
    simp only [spec_UvarPutl1]
    have h7 := fun k => spec_l2Down_eq k x 7 (by omega) (by omega)
    simp only [down7, show ((7 : Nat) : Int) = 7 from rfl] at h7
    simp only [h7, Option.bind_some]
    generalize hU : (x % 18446744073709551616).toNat = u at *
    by_cases hu : u < 128
    · refine Ev.neg (by simp; omega) (Ev.ret ?_)
      simp only
      rw [uvPut_small hu, wu8_eq, show x % 256 = (u : Int) by omega]
      rfl
    · refine Ev.pos (by simp; omega) (Ev.pos (by simp only [LIM]; omega) ?_)
      rw [and127, w64_id (by omega), wu8_eq]
      have e : b8 ((x % 128 + 128) % 256) = UInt8.ofNat (u % 128 + 128) := by
        rw [show (x % 128 + 128) % 256 = ((u % 128 + 128 : Nat) : Int) by omega]; rfl
      rw [e]
      have h1 : 2 ^ (7 * (d + 1)) = 2 ^ (7 * d) * 128 := by rw [show 7 * (d + 1) = 7 * d + 7 by omega, Nat.pow_add]
      have e2 : (((u / 128 : Nat) : Int) % 18446744073709551616).toNat = u / 128 := by omega
      refine (spec_uvPutL d ((u / 128 : Nat) : Int) _ (by omega) (by simp; omega)).mono fun r hr => ?_
      rw [hr, e2, uvPut_big hu]
      simp
theorem spec_UvarPut_ev (x : Int) : Ev (fun k => spec_UvarPut k x) (· = uvPut (x % 18446744073709551616).toNat) := by
  simp only [spec_UvarPut]
  have h64 : (2 : Nat) ^ 64 = 18446744073709551616 := by decide
  have hu : (x % 18446744073709551616).toNat < 2 ^ 64 := by omega
  refine (spec_uvPutL 10 x [] (Nat.lt_of_lt_of_le hu (by decide)) (by simp)).bind fun r hr => ?_
  have hlen := congrArg List.length hr
  have := uvPut_len10 hu
  simp only [List.length_append, List.length_cons, List.length_nil] at hlen
  refine Ev.pos (by simp only [LIM]; omega) (Ev.ret ?_)
  rw [hr]; rfl

theorem impl_ZigPut_ev (x : Int) (h : -9223372036854775808 ≤ x ∧ x ≤ 9223372036854775807) : Ev (fun k => impl_ZigPut k x) (· = zigPut x) := by
  simp only [impl_ZigPut, impl_Zig_eq _ _ h, Option.bind_some]
  exact Ev.bind_eq (impl_UvarPut_ev _) (Ev.ret rfl)
theorem spec_ZigPut_ev (x : Int) : Ev (fun k => spec_ZigPut k x) (· = zigPut x) := by
  simp only [spec_ZigPut, spec_Zig_eq, Option.bind_some]
  exact Ev.bind_eq (spec_UvarPut_ev _) (Ev.ret rfl)
end Go.Proofs.Ytpggmokeohleiaa

/- Plain: trees of fields as they are read. -/
namespace Go.V
open Go

/-- Type, Id, Num, Text, Many. -/
abbrev Nd := Int × (Int × (Int × (List UInt8 × Int)))
inductive Tr where
  | mk (kind id num : Int) (text : List UInt8) (kids : List Tr)

mutual
def Tr.flat : Tr → List Nd
  | .mk kind id num text kids => (kind, id, num, text, (kids.length : Int)) :: flats kids
def flats : List Tr → List Nd
  | [] => []
  | t :: ts => t.flat ++ flats ts
end
theorem Tr.flat_pos : ∀ t : Tr, 0 < t.flat.length
  | .mk _ _ _ _ _ => by simp [Tr.flat]
theorem flats_append : ∀ a b : List Tr, flats (a ++ b) = flats a ++ flats b
  | [], _ => rfl
  | t :: a, b => by simp only [List.cons_append, flats, flats_append a b, List.append_assoc]

def isKind (t : Int) (inList : Bool) : Bool :=
  if t = 1 ∨ t = 2 then !inList else decide (t = 5 ∨ t = 6 ∨ t = 8 ∨ t = 9 ∨ t = 12)
def int32B (x : Int) : Bool := decide (-2147483648 ≤ x ∧ x ≤ 2147483647)

/-- A text: its bytes, and what is left. -/
def rText (s : List UInt8) : Except Int (List UInt8 × List UInt8) :=
  match uvn s 0 0 with
  | none => .error 1
  | some (u, k) =>
    if w64 u < 0 ∨ w64 u > 300 then .error 4
    else if ((s.drop k).length : Int) < w64 u then .error 1
    else .ok ((s.drop k).take (w64 u).toNat, (s.drop k).drop (w64 u).toNat)

/-- The head of a list: how many parts, their type, and what is left. -/
def rHead (s : List UInt8) : Except Int ((Nat × Int) × List UInt8) :=
  match s with
  | [] => .error 1
  | c :: t =>
    match (if c.toNat / 16 = 15 then (match uvn t 0 0 with | none => none | some (u, k) => some (w64 u, t.drop k)) else some (((c.toNat / 16 : Nat) : Int), t)) with
    | none => .error 1
    | some (many, t) =>
      if many = 0 then .ok ((0, 0), t)
      else if isKind ((c.toNat % 16 : Nat) : Int) true = false then .error 2
      else if many < 0 ∨ many > 1500 then .error 4
      else .ok ((many.toNat, ((c.toNat % 16 : Nat) : Int)), t)

def rKids (rd : Nat → List UInt8 → Except Int (Tr × List UInt8)) : Nat → Nat → List UInt8 → Except Int (List Tr × List UInt8)
  | 0, _, s => .ok ([], s)
  | m + 1, n, s => match rd n s with
    | .error e => .error e
    | .ok (t, s) => match rKids rd m (n + t.flat.length) s with
      | .error e => .error e
      | .ok (ts, s) => .ok (t :: ts, s)

/-- The head of a part of a struct: nothing at its end; else its type, its Id, and what is left. -/
def rPart (last : Int) (s : List UInt8) : Except Int (Option (Int × Int) × List UInt8) :=
  match s with
  | [] => .error 1
  | c :: t =>
    if c.toNat = 0 then .ok (none, t)
    else if isKind ((c.toNat % 16 : Nat) : Int) false = false then .error 2
    else match (if c.toNat / 16 = 0 then (match uvn t 0 0 with | none => none | some (u, k) => some (zag (w64 u), t.drop k)) else some (last + ((c.toNat / 16 : Nat) : Int), t)) with
      | none => .error 1
      | some (id, t) =>
        if id < 1 ∨ id > 1000 then .error 3
        else if id ≤ last then .error 5
        else .ok (some (((c.toNat % 16 : Nat) : Int), id), t)

def rFields (rd : Int → Int → Nat → List UInt8 → Except Int (Tr × List UInt8)) : Nat → Int → Nat → List UInt8 → Except Int (List Tr × List UInt8)
  | 0, _, _, _ => .error 1
  | f + 1, last, n, s => match rPart last s with
    | .error e => .error e
    | .ok (none, s) => .ok ([], s)
    | .ok (some (kind, id), s) => match rd kind id n s with
      | .error e => .error e
      | .ok (t, s) => match rFields rd f id (n + t.flat.length) s with
        | .error e => .error e
        | .ok (ts, s) => .ok (t :: ts, s)

/-- A node of a type and an Id behind n others, d deep at most. -/
def rNode : Nat → Nat → Int → Int → List UInt8 → Except Int (Tr × List UInt8)
  | 0, _, _, _, _ => .error 4
  | d + 1, n, kind, id, s =>
    if n = 1500 then .error 4
    else if kind = 5 ∨ kind = 6 then match uvn s 0 0 with
      | none => .error 1
      | some (u, k) => if kind = 5 ∧ int32B (zag (w64 u)) = false then .error 3 else .ok (.mk kind id (zag (w64 u)) [] [], s.drop k)
    else if kind = 8 then match rText s with
      | .error e => .error e
      | .ok (t, s) => .ok (.mk kind id 0 t [], s)
    else if kind = 9 then match rHead s with
      | .error e => .error e
      | .ok ((many, item), s) => match rKids (fun n s => rNode d n item 0 s) many (n + 1) s with
        | .error e => .error e
        | .ok (ts, s) => .ok (.mk kind id item [] ts, s)
    else if kind = 12 then match rFields (fun kind id n s => rNode d n kind id s) s.length 0 (n + 1) s with
      | .error e => .error e
      | .ok (ts, s) => .ok (.mk kind id 0 [] ts, s)
    else .ok (.mk kind id 0 [] [], s)

/-! ### What is left is a part of what there was; a code is none of 'well' -/
def Suf (s s' : List UInt8) : Prop := ∃ m, m ≤ s.length ∧ s' = s.drop m
theorem Suf.refl (s : List UInt8) : Suf s s := ⟨0, Nat.zero_le _, rfl⟩
theorem Suf.trans {a b c : List UInt8} (h : Suf a b) (k : Suf b c) : Suf a c := by
  obtain ⟨m, h1, rfl⟩ := h
  obtain ⟨m', h2, rfl⟩ := k
  refine ⟨m + m', by simp at h2; omega, by rw [List.drop_drop]⟩
theorem Suf.drop (s : List UInt8) (k : Nat) (h : k ≤ s.length) : Suf s (s.drop k) := ⟨k, h, rfl⟩
theorem Suf.cons (c : UInt8) (s : List UInt8) : Suf (c :: s) s := ⟨1, by simp, rfl⟩
theorem Suf.len {a b : List UInt8} (h : Suf a b) : b.length ≤ a.length := by
  obtain ⟨m, _, rfl⟩ := h
  simp
def Good {α : Type} (s : List UInt8) : Except Int (α × List UInt8) → Prop
  | .error e => e ≠ 0
  | .ok (_, s') => Suf s s'

theorem rText_good (s : List UInt8) : Good s (rText s) := by
  unfold rText
  split
  · simp [Good]
  · rename_i u k h
    have hk := (uvn_le h).2
    split
    · simp [Good]
    · split
      · simp [Good]
      · rename_i h1 h2
        exact (Suf.drop s k hk).trans (Suf.drop _ _ (by omega))
theorem rHead_good (s : List UInt8) : Good s (rHead s) := by
  unfold rHead
  split
  · simp [Good]
  · rename_i c t
    generalize hx : (if c.toNat / 16 = 15 then (match uvn t 0 0 with | none => none | some (u, k) => some (w64 u, t.drop k)) else some (((c.toNat / 16 : Nat) : Int), t)) = x
    have hs : ∀ m t', x = some (m, t') → Suf (c :: t) t' := by
      intro m t' h
      subst hx
      split at h
      · split at h
        · cases h
        · rename_i u k hu
          simp only [Option.some.injEq, Prod.mk.injEq] at h
          rw [← h.2]
          exact (Suf.cons c t).trans (Suf.drop _ _ (uvn_le hu).2)
      · simp only [Option.some.injEq, Prod.mk.injEq] at h
        rw [← h.2]
        exact Suf.cons c t
    cases x with
    | none => simp [Good]
    | some x =>
      obtain ⟨m, t'⟩ := x
      have := hs m t' rfl
      simp only
      split
      · exact this
      · split
        · simp [Good]
        · split
          · simp [Good]
          · exact this
theorem rPart_good (last : Int) (s : List UInt8) : Good s (rPart last s) := by
  unfold rPart
  split
  · simp [Good]
  · rename_i c t
    split
    · exact Suf.cons c t
    · split
      · simp [Good]
      · generalize hx : (if c.toNat / 16 = 0 then (match uvn t 0 0 with | none => none | some (u, k) => some (zag (w64 u), t.drop k)) else some (last + ((c.toNat / 16 : Nat) : Int), t)) = x
        have hs : ∀ m t', x = some (m, t') → Suf (c :: t) t' := by
          intro m t' h
          subst hx
          split at h
          · split at h
            · cases h
            · rename_i u k hu
              simp only [Option.some.injEq, Prod.mk.injEq] at h
              rw [← h.2]
              exact (Suf.cons c t).trans (Suf.drop _ _ (uvn_le hu).2)
          · simp only [Option.some.injEq, Prod.mk.injEq] at h
            rw [← h.2]
            exact Suf.cons c t
        cases x with
        | none => simp [Good]
        | some x =>
          obtain ⟨m, t'⟩ := x
          have := hs m t' rfl
          simp only
          split
          · simp [Good]
          · split
            · simp [Good]
            · exact this
theorem rKids_good {rd : Nat → List UInt8 → Except Int (Tr × List UInt8)} (h : ∀ n s, Good s (rd n s)) : ∀ m n s, Good s (rKids rd m n s)
  | 0, _, s => Suf.refl s
  | m + 1, n, s => by
    have h1 := h n s
    simp only [rKids]
    split
    · rename_i e he
      rw [he] at h1; exact h1
    · rename_i t s1 he
      rw [he] at h1
      have h2 := rKids_good h m (n + t.flat.length) s1
      split
      · rename_i e he2
        rw [he2] at h2; exact h2
      · rename_i ts s2 he2
        rw [he2] at h2
        exact Suf.trans h1 h2
theorem rFields_good {rd : Int → Int → Nat → List UInt8 → Except Int (Tr × List UInt8)} (h : ∀ k i n s, Good s (rd k i n s)) : ∀ f last n s, Good s (rFields rd f last n s)
  | 0, _, _, _ => by simp [rFields, Good]
  | f + 1, last, n, s => by
    have h0 := rPart_good last s
    simp only [rFields]
    split
    · rename_i e he
      rw [he] at h0; exact h0
    · rename_i s1 he
      rw [he] at h0; exact h0
    · rename_i kind id s1 he
      rw [he] at h0
      have h1 := h kind id n s1
      split
      · rename_i e he1
        rw [he1] at h1; exact h1
      · rename_i t s2 he1
        rw [he1] at h1
        have h2 := rFields_good h f id (n + t.flat.length) s2
        split
        · rename_i e he2
          rw [he2] at h2; exact h2
        · rename_i ts s3 he2
          rw [he2] at h2
          exact Suf.trans h0 (Suf.trans h1 h2)
theorem rNode_good : ∀ d n kind id s, Good s (rNode d n kind id s)
  | 0, _, _, _, _ => by simp [rNode, Good]
  | d + 1, n, kind, id, s => by
    simp only [rNode]
    split
    · simp [Good]
    · split
      · split
        · simp [Good]
        · rename_i u k hu
          split
          · simp [Good]
          · exact Suf.drop _ _ (uvn_le hu).2
      · split
        · have := rText_good s
          split
          · rename_i e he
            rw [he] at this; exact this
          · rename_i t s1 he
            rw [he] at this; exact this
        · split
          · have := rHead_good s
            split
            · rename_i e he
              rw [he] at this; exact this
            · rename_i many item s1 he
              rw [he] at this
              have h2 := rKids_good (rd := fun n s => rNode d n item 0 s) (fun n s => rNode_good d n item 0 s) many (n + 1) s1
              split
              · rename_i e he2
                rw [he2] at h2; exact h2
              · rename_i ts s2 he2
                rw [he2] at h2
                exact Suf.trans this h2
          · split
            · have h2 := rFields_good (rd := fun kind id n s => rNode d n kind id s) (fun k i n s => rNode_good d n k i s) s.length 0 (n + 1) s
              split
              · rename_i e he2
                rw [he2] at h2; exact h2
              · rename_i ts s2 he2
                rw [he2] at h2
                exact h2
            · exact Suf.refl s
end Go.V
namespace Go.V
/-! ### How many nodes there are -/
def Cnt {α : Type} (n : Nat) (len : α → Nat) : Except Int (α × List UInt8) → Prop
  | .error _ => True
  | .ok (x, _) => n + len x ≤ 1500
theorem rKids_cnt {rd : Nat → List UInt8 → Except Int (Tr × List UInt8)} (h : ∀ n s, n ≤ 1500 → Cnt n (fun t => t.flat.length) (rd n s)) : ∀ m n s, n ≤ 1500 → Cnt n (fun ts => (flats ts).length) (rKids rd m n s)
  | 0, n, s, hn => by simpa [rKids, Cnt, flats] using hn
  | m + 1, n, s, hn => by
    have h1 := h n s hn
    simp only [rKids]
    split
    · trivial
    · rename_i t s1 he
      rw [he] at h1
      have h2 := rKids_cnt h m (n + t.flat.length) s1 h1
      split
      · trivial
      · rename_i ts s2 he2
        rw [he2] at h2
        simp only [Cnt, flats, List.length_append] at h2 ⊢
        omega
theorem rFields_cnt {rd : Int → Int → Nat → List UInt8 → Except Int (Tr × List UInt8)} (h : ∀ k i n s, n ≤ 1500 → Cnt n (fun t => t.flat.length) (rd k i n s)) : ∀ f last n s, n ≤ 1500 → Cnt n (fun ts => (flats ts).length) (rFields rd f last n s)
  | 0, _, _, _, _ => by simp [rFields, Cnt]
  | f + 1, last, n, s, hn => by
    simp only [rFields]
    split
    · trivial
    · simpa [Cnt, flats] using hn
    · rename_i kind id s1 he
      have h1 := h kind id n s1 hn
      split
      · trivial
      · rename_i t s2 he1
        rw [he1] at h1
        have h2 := rFields_cnt h f id (n + t.flat.length) s2 h1
        split
        · trivial
        · rename_i ts s3 he2
          rw [he2] at h2
          simp only [Cnt, flats, List.length_append] at h2 ⊢
          omega
theorem rNode_cnt : ∀ d n kind id s, n ≤ 1500 → Cnt n (fun t => t.flat.length) (rNode d n kind id s)
  | 0, _, _, _, _, _ => by simp [rNode, Cnt]
  | d + 1, n, kind, id, s, hn => by
    simp only [rNode]
    split
    · trivial
    · rename_i h15
      have hn1 : n + 1 ≤ 1500 := by omega
      split
      · split
        · trivial
        · split
          · trivial
          · simpa [Cnt, Tr.flat, flats] using hn1
      · split
        · split
          · trivial
          · simpa [Cnt, Tr.flat, flats] using hn1
        · split
          · split
            · trivial
            · rename_i many item s1 he
              have h2 := rKids_cnt (rd := fun n s => rNode d n item 0 s) (fun n s hn => rNode_cnt d n item 0 s hn) many (n + 1) s1 hn1
              split
              · trivial
              · rename_i ts s2 he2
                rw [he2] at h2
                simp only [Cnt, Tr.flat, List.length_cons] at h2 ⊢
                omega
          · split
            · have h2 := rFields_cnt (rd := fun kind id n s => rNode d n kind id s) (fun k i n s hn => rNode_cnt d n k i s hn) s.length 0 (n + 1) s hn1
              split
              · trivial
              · rename_i ts s2 he2
                rw [he2] at h2
                simp only [Cnt, Tr.flat, List.length_cons] at h2 ⊢
                omega
            · simpa [Cnt, Tr.flat, flats] using hn1
end Go.V
namespace Go.V
theorem rPart_shorter {last : Int} {s s' : List UInt8} {x : Option (Int × Int)} (h : rPart last s = .ok (x, s')) : s'.length < s.length := by
  unfold rPart at h
  split at h
  · cases h
  · rename_i c t
    split at h
    · cases h; simp
    · split at h
      · cases h
      · split at h
        · cases h
        · rename_i id t' hx
          have ht : t'.length ≤ t.length := by
            split at hx
            · split at hx
              · cases hx
              · simp only [Option.some.injEq, Prod.mk.injEq] at hx
                rw [← hx.2]; simp
            · simp only [Option.some.injEq, Prod.mk.injEq] at hx
              rw [← hx.2]; simp
          split at h
          · cases h
          · split at h
            · cases h
            · cases h
              simp only [List.length_cons]; omega
theorem rKids_len {rd : Nat → List UInt8 → Except Int (Tr × List UInt8)} : ∀ m n s, match rKids rd m n s with | .error _ => True | .ok (ts, _) => ts.length = m
  | 0, _, _ => by simp [rKids]
  | m + 1, n, s => by
    simp only [rKids]
    cases rd n s with
    | error e => trivial
    | ok x =>
      obtain ⟨t, s1⟩ := x
      have := rKids_len (rd := rd) m (n + t.flat.length) s1
      simp only
      revert this
      cases rKids rd m (n + t.flat.length) s1 with
      | error e => exact fun _ => trivial
      | ok x =>
        obtain ⟨ts, s2⟩ := x
        intro h
        simp only [List.length_cons]
        exact congrArg (· + 1) h
end Go.V

/- Plain: trees as the reference reads them. -/
namespace Go.Proofs.Ytpggmokeohleiaa
open Go Go.V

theorem set_mid {α : Type} (l r : List α) (x y : α) : (l ++ x :: r).set l.length y = l ++ y :: r := by
  rw [List.set_append_right _ _ (Nat.le_refl _)]; simp
theorem getD_mid {α : Type} (l r : List α) (x d : α) : (l ++ x :: r).getD l.length d = x := by
  simp [List.getD_eq_getElem?_getD]

theorem spec_l1In_eq (k : Nat) (a b c : Int) : spec_l1In k a b c = some (decide (b ≤ a ∧ a ≤ c)) := by
  simp only [spec_l1In]
  by_cases h : a ≥ b
  · rw [if_pos (dtrue h)]; simp only [Option.some.injEq, decide_eq_decide]; omega
  · rw [if_neg (dfalse h)]; simp; omega
theorem spec_l4Int_eq (k : Nat) (x : Int) : spec_l4Int k x = some (int32B x) := by
  simp only [spec_l4Int, spec_l1In_eq, Option.bind_some, int32B]
theorem spec_l4Kind_eq (k : Nat) (t : Int) : spec_l4Kind k t = some (isKind t false) := by
  simp only [spec_l4Kind, isKind, beq_iff_eq]
  repeat' split
  all_goals first | rfl | (simp; omega) | omega
theorem spec_l4Item_eq (k : Nat) (t : Int) : spec_l4Item k t = some (isKind t true) := by
  simp only [spec_l4Item, spec_l4Kind_eq, Option.bind_some, isKind, bne_iff_ne]
  by_cases h1 : t = 1
  · subst h1; decide
  · by_cases h2 : t = 2
    · subst h2; decide
    · by_cases h3 : t = 5 ∨ t = 6 ∨ t = 8 ∨ t = 9 ∨ t = 12 <;> simp [h1, h2, h3]

theorem uvGet_nat (b : Bs) (a : Nat) : uvGet b a = match uvn (b.drop a) 0 0 with | some (n, k) => (w64 n, ((a + k : Nat) : Int), true) | none => (0, 0, false) := by
  simp only [uvGet, Int.toNat_natCast]
  rw [if_neg (by omega)]
  cases uvn (b.drop a) 0 0 with
  | none => rfl
  | some x => simp

def PText (b : Bs) (x : Except Int (Bs × Bs)) (r : Bs × Int × Int) : Prop :=
  match x with
  | .error e => r.2.2 = e ∧ r.1 = []
  | .ok (t, s) => ∃ q : Nat, q ≤ b.length ∧ s = b.drop q ∧ r = (t, (q : Int), 0)
def PHead (b : Bs) (x : Except Int ((Nat × Int) × Bs)) (r : Int × Int × Int × Int) : Prop :=
  match x with
  | .error e => r = (0, 0, 0, e)
  | .ok ((m, item), s) => m ≤ 1500 ∧ ∃ q : Nat, q ≤ b.length ∧ s = b.drop q ∧ r = ((m : Int), item, (q : Int), 0)
def PPart (b : Bs) (x : Except Int (Option (Int × Int) × Bs)) (r : Int × Int × Int × Int) : Prop :=
  match x with
  | .error e => r = (0, 0, 0, e)
  | .ok (none, s) => ∃ q : Nat, q ≤ b.length ∧ s = b.drop q ∧ r = (0, 0, (q : Int), 0)
  | .ok (some (kind, id), s) => kind ≠ 0 ∧ 0 ≤ id ∧ id ≤ 1000 ∧ ∃ q : Nat, q ≤ b.length ∧ s = b.drop q ∧ r = (kind, id, (q : Int), 0)

theorem spec_l4Text_ev (b : Bs) (a : Nat) (hl : b.length ≤ 274877906944) (ha : a ≤ b.length) :
    Ev (fun k => spec_l4Text k b a) (PText b (rText (b.drop a))) := by
  simp only [spec_l4Text]
  refine Ev.bind_eq (spec_UvarGet_ev b a hl) ?_
  rw [uvGet_nat]
  unfold rText
  cases hu : uvn (b.drop a) 0 0 with
  | none => exact Ev.pos (by simp) (Ev.ret ⟨rfl, rfl⟩)
  | some x =>
    obtain ⟨u, m⟩ := x
    simp only
    have hm := (uvn_le hu).2
    rw [List.length_drop] at hm
    have key : Ev (fun k => spec_l4Textj1 k b (w64 u) ((a + m : Nat) : Int) (decide (w64 u < 0 ∨ w64 u > 300))) (PText b (if w64 u < 0 ∨ w64 u > 300 then Except.error 4 else if (((b.drop a).drop m).length : Int) < w64 u then Except.error 1 else
        Except.ok (((b.drop a).drop m).take (w64 u).toNat, ((b.drop a).drop m).drop (w64 u).toNat))) := by
      simp only [spec_l4Textj1]
      by_cases h1 : w64 u < 0 ∨ w64 u > 300
      · rw [if_pos h1]
        exact Ev.pos (dtrue h1) (Ev.ret ⟨rfl, rfl⟩)
      · rw [if_neg h1]
        refine Ev.neg (dfalse h1) ?_
        have e1 : (((b.drop a).drop m).length : Int) = (b.length : Int) - ((a + m : Nat) : Int) := by simp; omega
        rw [w64_id (n := (b.length : Int) - ((a + m : Nat) : Int)) (by omega), e1]
        by_cases h2 : (b.length : Int) - ((a + m : Nat) : Int) < w64 u
        · rw [if_pos h2]
          exact Ev.pos (dtrue h2) (Ev.ret ⟨rfl, rfl⟩)
        · rw [if_neg h2]
          refine Ev.neg (dfalse h2) ?_
          rw [w64_id (n := ((a + m : Nat) : Int) + w64 u) (by omega)]
          refine Ev.pos (by omega) (Ev.ret ⟨a + m + (w64 u).toNat, by omega, ?_, ?_⟩)
          · rw [List.drop_drop, List.drop_drop]; congr 1; omega
          · simp only [Prod.mk.injEq, and_true]
            refine ⟨?_, by omega⟩
            rw [List.drop_drop, List.take_drop]
            congr 1
            congr 1
            omega
    refine Ev.neg (by simp) ?_
    by_cases h1 : w64 u < 0
    · refine Ev.pos (dtrue h1) ?_
      simpa [h1] using key
    · refine Ev.neg (dfalse h1) ?_
      simpa [h1] using key

theorem spec_l4Many_ev (b : Bs) (a : Nat) (hl : b.length ≤ 274877906944) (ha : a ≤ b.length) :
    Ev (fun k => spec_l4Many k b a) (PHead b (rHead (b.drop a))) := by
  simp only [spec_l4Many]
  unfold rHead
  by_cases hlt : a < b.length
  · refine Ev.neg (dfalse (by omega)) (Ev.pos ⟨by omega, by omega⟩ ?_)
    rw [drop_get hlt, Int.toNat_natCast]
    obtain ⟨c, hcc⟩ : ∃ c, b.getD a 0 = c := ⟨_, rfl⟩
    simp only [hcc]
    have hb := n8_bd c
    have hc := c.toNat_lt
    rw [w64_id (n := n8 c) (by omega)]
    have e1 : w64 ((n8 c).tdiv 16) = ((c.toNat / 16 : Nat) : Int) := by
      rw [Int.tdiv_eq_ediv_of_nonneg (by omega), w64_id (by omega)]; simp only [n8]; omega
    have e2 : (n8 c).tmod 16 = ((c.toNat % 16 : Nat) : Int) := by
      rw [Int.tmod_eq_emod_of_nonneg (by omega)]; simp only [n8]; omega
    rw [e1, e2, w64_id (n := (a : Int) + 1) (by omega), show (a : Int) + 1 = ((a + 1 : Nat) : Int) by omega]
    have key : ∀ (many : Int) (q : Nat), q ≤ b.length → -9223372036854775808 ≤ many → Ev (fun k => spec_l4Manyj1 k (q : Int) many ((c.toNat % 16 : Nat) : Int)) (PHead b (if many = 0 then Except.ok ((0, 0), b.drop q) else if isKind ((c.toNat % 16 : Nat) : Int) true = false then Except.error 2 else
        if many < 0 ∨ many > 1500 then Except.error 4 else Except.ok ((many.toNat, ((c.toNat % 16 : Nat) : Int)), b.drop q))) := by
      intro many q hq _
      simp only [spec_l4Manyj1, spec_l4Item_eq, Option.bind_some]
      by_cases h0 : many = 0
      · rw [if_pos h0]
        exact Ev.pos (by simp [h0]) (Ev.ret ⟨by omega, q, hq, rfl, rfl⟩)
      · rw [if_neg h0]
        refine Ev.neg (by simp [h0]) ?_
        cases hk : isKind ((c.toNat % 16 : Nat) : Int) true with
        | false => exact Ev.pos (by simp) (Ev.ret (by simp [PHead]))
        | true =>
          refine Ev.neg (by simp) ?_
          by_cases h1 : many < 0
          · exact Ev.pos (dtrue h1) (Ev.ret (by simp [PHead, h1]))
          · refine Ev.neg (dfalse h1) ?_
            by_cases h2 : many > 1500
            · exact Ev.pos (dtrue h2) (Ev.ret (by simp [PHead, h2]))
            · refine Ev.neg (dfalse h2) (Ev.ret ?_)
              rw [if_neg (by simp), if_neg (by omega)]
              refine ⟨by omega, q, hq, rfl, ?_⟩
              simp only [Prod.mk.injEq, and_true]
              omega
    by_cases h15 : c.toNat / 16 = 15
    · rw [if_pos h15]
      refine Ev.pos (by simp [h15]) (Ev.bind_eq (spec_UvarGet_ev b ((a + 1 : Nat) : Int) hl) ?_)
      rw [uvGet_nat]
      cases hu : uvn (b.drop (a + 1)) 0 0 with
      | none => exact Ev.pos (by simp) (Ev.ret rfl)
      | some x =>
        obtain ⟨u, m⟩ := x
        have hm := (uvn_le hu).2
        rw [List.length_drop] at hm
        refine Ev.neg (by simp) ?_
        simp only [List.drop_drop]
        exact key (w64 u) (a + 1 + m) (by omega) (w64_bd _).1
    · rw [if_neg h15]
      refine Ev.neg (by simp; omega) ?_
      exact key _ (a + 1) (by omega) (by omega)
  · refine Ev.pos (dtrue (by omega)) (Ev.ret ?_)
    rw [List.drop_eq_nil_of_le (by omega)]
    rfl

theorem spec_l4Head_ev (b : Bs) (a : Nat) (last : Int) (hl : b.length ≤ 274877906944) (ha : a ≤ b.length) (hlast : 0 ≤ last ∧ last ≤ 1000) :
    Ev (fun k => spec_l4Head k b a last) (PPart b (rPart last (b.drop a))) := by
  simp only [spec_l4Head]
  unfold rPart
  by_cases hlt : a < b.length
  · refine Ev.neg (dfalse (by omega)) (Ev.pos ⟨by omega, by omega⟩ ?_)
    rw [drop_get hlt, Int.toNat_natCast]
    obtain ⟨c, hcc⟩ : ∃ c, b.getD a 0 = c := ⟨_, rfl⟩
    simp only [hcc]
    have hb := n8_bd c
    have hc := c.toNat_lt
    rw [w64_id (n := n8 c) (by omega)]
    have e1 : w64 ((n8 c).tdiv 16) = ((c.toNat / 16 : Nat) : Int) := by
      rw [Int.tdiv_eq_ediv_of_nonneg (by omega), w64_id (by omega)]; simp only [n8]; omega
    have e2 : (n8 c).tmod 16 = ((c.toNat % 16 : Nat) : Int) := by
      rw [Int.tmod_eq_emod_of_nonneg (by omega)]; simp only [n8]; omega
    rw [e1, e2, w64_id (n := (a : Int) + 1) (by omega), show (a : Int) + 1 = ((a + 1 : Nat) : Int) by omega]
    by_cases h0 : c.toNat = 0
    · rw [if_pos h0]
      exact Ev.pos (by simp only [n8]; simp [h0]) (Ev.ret ⟨a + 1, by omega, rfl, rfl⟩)
    · rw [if_neg h0]
      refine Ev.neg (by simp only [n8]; simp; omega) ?_
      simp only [spec_l4Kind_eq, Option.bind_some]
      cases hk : isKind ((c.toNat % 16 : Nat) : Int) false with
      | false =>
        rw [if_pos rfl]
        exact Ev.pos (by simp) (Ev.ret rfl)
      | true =>
        rw [if_neg (by simp)]
        refine Ev.neg (by simp) ?_
        have hk0 : ((c.toNat % 16 : Nat) : Int) ≠ 0 := by
          intro h
          rw [h] at hk
          revert hk; decide
        have key : ∀ (id : Int) (q : Nat), q ≤ b.length → Ev (fun k => spec_l4Headj1 k (q : Int) last ((c.toNat % 16 : Nat) : Int) id) (PPart b (if id < 1 ∨ id > 1000 then Except.error 3 else if id ≤ last then Except.error 5 else
            Except.ok (some (((c.toNat % 16 : Nat) : Int), id), b.drop q))) := by
          intro id q hq
          simp only [spec_l4Headj1, spec_l1In_eq, Option.bind_some]
          by_cases h1 : id < 1 ∨ id > 1000
          · rw [if_pos h1]
            exact Ev.pos (by simp; omega) (Ev.ret rfl)
          · rw [if_neg h1]
            refine Ev.neg (by simp; omega) ?_
            by_cases h2 : id ≤ last
            · rw [if_pos h2]
              exact Ev.pos (dtrue h2) (Ev.ret rfl)
            · rw [if_neg h2]
              exact Ev.neg (dfalse h2) (Ev.ret ⟨hk0, by omega, by omega, q, hq, rfl, rfl⟩)
        by_cases hm0 : c.toNat / 16 = 0
        · rw [if_pos hm0]
          refine Ev.pos (by simp [hm0]) (Ev.bind_eq (spec_ZigGet_ev b ((a + 1 : Nat) : Int) hl) ?_)
          simp only [zigGet, uvGet_nat]
          cases hu : uvn (b.drop (a + 1)) 0 0 with
          | none => exact Ev.pos (by simp) (Ev.ret rfl)
          | some x =>
            obtain ⟨u, m⟩ := x
            have hm := (uvn_le hu).2
            rw [List.length_drop] at hm
            refine Ev.neg (by simp) ?_
            simp only [List.drop_drop]
            exact key (zag (w64 u)) (a + 1 + m) (by omega)
        · rw [if_neg hm0]
          refine Ev.neg (by simp; omega) ?_
          rw [w64_id (by omega)]
          exact key _ (a + 1) (by omega)
  · refine Ev.pos (dtrue (by omega)) (Ev.ret ?_)
    rw [List.drop_eq_nil_of_le (by omega)]
    rfl
end Go.Proofs.Ytpggmokeohleiaa

/- Plain: trees as the reference reads them: nodes. -/
namespace Go.Proofs.Ytpggmokeohleiaa
open Go Go.V

/-- A reader's end: a code; or the place behind, and the list. -/
def PNode (b : Bs) (L : List GNode) {α : Type} (fl : α → List GNode) (x : Except Int (α × Bs)) (r : Int × Int × List GNode) : Prop :=
  match x with
  | .error e => e ≠ 0 ∧ r.2.1 = e
  | .ok (t, s) => ∃ q : Nat, q ≤ b.length ∧ s = b.drop q ∧ (L ++ fl t).length ≤ 1500 ∧ r = ((q : Int), 0, L ++ fl t)

theorem isq {p q : Prop} [Decidable p] [Decidable q] (h : p ↔ q) : decide p = decide q := decide_eq_decide.2 h

section
variable (b : Bs) (hl : b.length ≤ 274877906944)

theorem spec_kidsL (d : Nat) (item : Int)
    (ih : ∀ (a : Nat) (kind id : Int) (L : List GNode), a ≤ b.length → L.length ≤ 1500 → Ev (fun k => spec_l4Read k b a kind id (13 - (d : Int)) L) (PNode b L Tr.flat (rNode d L.length kind id (b.drop a)))) (hd : d ≤ 12) (many : Nat) (hm : many ≤ 1500) :
    ∀ (m i a : Nat) (L : List GNode) (g : Nat → Nat), (∀ k, k ≤ g k) → i + m = many → a ≤ b.length → L.length ≤ 1500 →
    Ev (fun k => spec_l4Readl2 (spec_l4Read (g k)) k b (12 - (d : Int)) (many : Int) item (a : Int) 0 (i : Int) L) (PNode b L flats (rKids (fun n s => rNode d n item 0 s) m L.length (b.drop a))) := by
  intro m
  induction m with
  | zero =>
    intro i a L g hg hi ha hL
    apply Ev.succ
    simp only [spec_l4Readl2]
    refine Ev.neg (dfalse (by omega)) (Ev.ret ⟨a, ha, rfl, by simpa [flats] using hL, by simp [flats]⟩)
  | succ m ihm =>
    intro i a L g hg hi ha hL
    apply Ev.succ
    simp only [spec_l4Readl2]
    refine Ev.pos (dtrue (by omega)) (Ev.pos (by decide) ?_)
    rw [w64_id (n := 12 - (d : Int) + 1) (by omega), show 12 - (d : Int) + 1 = 13 - (d : Int) by omega, w64_id (n := (i : Int) + 1) (by omega)]
    refine Ev.bind ((ih a item 0 L ha hL).comp (g := fun k => g (k + 1)) (fun k => by have := hg (k + 1); omega)) fun y hy => ?_
    simp only [rKids]
    cases hr : rNode d L.length item 0 (b.drop a) with
    | error e =>
      rw [hr] at hy
      obtain ⟨h0, h1⟩ := hy
      apply Ev.succ
      simp only [spec_l4Readl2]
      have hne : ¬ (y.2.1 == 0) = true := by simp [h1, h0]
      refine Ev.ite (fun _ => Ev.neg hne (Ev.ret ⟨h0, h1⟩)) (fun _ => Ev.ret ⟨h0, h1⟩)
    | ok x =>
      obtain ⟨t, s⟩ := x
      rw [hr] at hy
      obtain ⟨q, hq, rfl, hc, rfl⟩ := hy
      simp only
      have h2 := ihm (i + 1) q (L ++ t.flat) (fun k => g (k + 1)) (fun k => by have := hg (k + 1); omega) (by omega) hq hc
      rw [show ((i : Int) + 1) = ((i + 1 : Nat) : Int) by omega]
      refine h2.mono fun r hr => ?_
      rw [List.length_append] at hr
      revert hr
      cases rKids (fun n s => rNode d n item 0 s) m (L.length + t.flat.length) (b.drop q) with
      | error e => exact fun h => h
      | ok x =>
        obtain ⟨ts, s⟩ := x
        rintro ⟨q2, h1, h2, h3, h4⟩
        exact ⟨q2, h1, h2, by simpa [flats, List.append_assoc] using h3, by rw [h4]; simp [flats, List.append_assoc]⟩

theorem spec_fieldsL (d : Nat)
    (ih : ∀ (a : Nat) (kind id : Int) (L : List GNode), a ≤ b.length → L.length ≤ 1500 → Ev (fun k => spec_l4Read k b a kind id (13 - (d : Int)) L) (PNode b L Tr.flat (rNode d L.length kind id (b.drop a)))) (hd : d ≤ 12) (hl : b.length ≤ 274877906944) (L : List GNode) (hd0 : GNode) :
    ∀ (f : Nat) (a : Nat) (last : Int) (many : Nat) (R : List GNode) (g : Nat → Nat), (∀ k, k ≤ g k) → b.length - a ≤ f → a ≤ b.length → (0 ≤ last ∧ last ≤ 1000) → (L ++ hd0 :: R).length ≤ 1500 → many ≤ 1500 - (1500 - (L ++ hd0 :: R).length) →
    Ev (fun k => spec_l4Readl3 (spec_l4Read (g k)) k b (a : Int) (12 - (d : Int)) (L.length : Int) last (many : Int) (L ++ hd0 :: R))
      (fun r => match rFields (fun kind id n s => rNode d n kind id s) f last (L ++ hd0 :: R).length (b.drop a) with | .error e => e ≠ 0 ∧ r.2.1 = e | .ok (ts, s) => ∃ q : Nat, q ≤ b.length ∧ s = b.drop q ∧ (L ++ hd0 :: (R ++ flats ts)).length ≤ 1500 ∧
        r = ((q : Int), 0, L ++ (hd0.1, hd0.2.1, hd0.2.2.1, hd0.2.2.2.1, ((many + ts.length : Nat) : Int)) :: (R ++ flats ts))) := by
  intro f
  induction f with
  | zero =>
    intro a last many R g hg hf ha hlast hL hmany
    apply Ev.succ
    simp only [spec_l4Readl3]
    refine Ev.bind (spec_l4Head_ev b a last hl ha hlast) fun y hy => ?_
    rw [List.drop_eq_nil_of_le (by omega)] at hy
    have hy : y = (0, 0, 0, 1) := hy
    subst hy
    exact Ev.pos (by decide) (Ev.ret ⟨by decide, rfl⟩)
  | succ f ihf =>
    intro a last many R g hg hf ha hlast hL hmany
    apply Ev.succ
    simp only [spec_l4Readl3]
    refine Ev.bind (spec_l4Head_ev b a last hl ha hlast) fun y hy => ?_
    simp only [rFields]
    have hgood := rPart_good last (b.drop a)
    cases hp : rPart last (b.drop a) with
    | error e =>
      rw [hp] at hy hgood
      have hy : y = (0, 0, 0, e) := hy
      have hgood : e ≠ 0 := hgood
      subst hy
      exact Ev.pos (by simpa using hgood) (Ev.ret ⟨hgood, rfl⟩)
    | ok x =>
      obtain ⟨o, s⟩ := x
      rw [hp] at hy hgood
      cases o with
      | none =>
        obtain ⟨q, h1, rfl, rfl⟩ := hy
        refine Ev.neg (by simp) (Ev.pos (by simp) ?_)
        rw [Int.toNat_natCast, getD_mid, set_mid]
        refine Ev.pos ⟨by omega, by simp; omega⟩ (Ev.ret ⟨q, h1, rfl, by simpa [flats] using hL, ?_⟩)
        simp [flats]
      | some x =>
        obtain ⟨kind, id⟩ := x
        obtain ⟨hk, hid0, hid1, q, h1, rfl, rfl⟩ := hy
        have hlen : (b.drop q).length < (b.drop a).length := by
          have h2 : Suf (b.drop a) (b.drop q) := hgood
          have h3 : rPart last (b.drop a) = .ok (some (kind, id), b.drop q) := hp
          exact rPart_shorter h3
        rw [List.length_drop, List.length_drop] at hlen
        refine Ev.neg (by simp) (Ev.neg (by simpa using hk) ?_)
        simp only
        rw [w64_id (n := 12 - (d : Int) + 1) (by omega), show 12 - (d : Int) + 1 = 13 - (d : Int) by omega, w64_id (n := (many : Int) + 1) (by omega)]
        refine Ev.bind ((ih q kind id (L ++ hd0 :: R) h1 hL).comp (g := fun k => g (k + 1)) (fun k => by have := hg (k + 1); omega)) fun y hy => ?_
        cases hr : rNode d (L ++ hd0 :: R).length kind id (b.drop q) with
        | error e =>
          rw [hr] at hy
          obtain ⟨h0, h3⟩ := hy
          exact Ev.pos (by simpa [h3] using h0) (Ev.ret ⟨h0, h3⟩)
        | ok x =>
          obtain ⟨t, s⟩ := x
          rw [hr] at hy
          obtain ⟨q2, hq2, rfl, hc, rfl⟩ := hy
          simp only
          refine Ev.neg (by simp) ?_
          have hsuf : q ≤ q2 ∨ b.length ≤ q2 ∨ True := .inr (.inr trivial)
          have hg2 := rNode_good d (L ++ hd0 :: R).length kind id (b.drop q)
          rw [hr] at hg2
          have hg2 := Suf.len hg2
          rw [List.length_drop, List.length_drop] at hg2
          have e1 : (L ++ hd0 :: R) ++ t.flat = L ++ hd0 :: (R ++ t.flat) := by simp
          rw [e1] at hc ⊢
          have hpos := t.flat_pos
          have h2 := ihf q2 id (many + 1) (R ++ t.flat) (fun k => g (k + 1)) (fun k => by have := hg (k + 1); omega) (by omega) hq2 ⟨hid0, hid1⟩ hc (by
            simp only [List.length_append, List.length_cons] at hmany hc ⊢; omega)
          rw [show ((many : Int) + 1) = ((many + 1 : Nat) : Int) by omega]
          refine h2.mono fun r hr => ?_
          have e2 : (L ++ hd0 :: (R ++ t.flat)).length = (L ++ hd0 :: R).length + t.flat.length := by rw [← e1, List.length_append]
          rw [e2] at hr
          revert hr
          cases rFields (fun kind id n s => rNode d n kind id s) f id ((L ++ hd0 :: R).length + t.flat.length) (b.drop q2) with
          | error e => exact fun h => h
          | ok x =>
            obtain ⟨ts, s⟩ := x
            rintro ⟨q3, h5, h6, h7, h8⟩
            refine ⟨q3, h5, h6, by simpa [flats, List.append_assoc] using h7, ?_⟩
            rw [h8]
            simp only [flats, List.append_assoc, List.length_cons]
            rw [show many + 1 + ts.length = many + (ts.length + 1) by omega]

theorem spec_l4Read_ev (hl : b.length ≤ 274877906944) : ∀ (d : Nat), d ≤ 13 → ∀ (a : Nat) (kind id : Int) (L : List GNode), a ≤ b.length → L.length ≤ 1500 →
    Ev (fun k => spec_l4Read k b a kind id (13 - (d : Int)) L) (PNode b L Tr.flat (rNode d L.length kind id (b.drop a))) := by
  intro d
  induction d with
  | zero =>
    intro hd a kind id L ha hL
    apply Ev.succ
    simp only [spec_l4Read, spec_l4Readb]
    by_cases h : L.length = 1500
    · exact Ev.pos (by simp [h]) (Ev.ret ⟨by decide, rfl⟩)
    · exact Ev.neg (by simp; omega) (Ev.pos (by decide) (Ev.ret ⟨by decide, rfl⟩))
  | succ d ihd =>
    intro hd a kind id L ha hL
    have ih := ihd (by omega)
    apply Ev.succ
    simp only [spec_l4Read, spec_l4Readb]
    rw [show 13 - ((d + 1 : Nat) : Int) = 12 - (d : Int) by omega]
    simp only [rNode]
    by_cases h15 : L.length = 1500
    · rw [if_pos h15]
      exact Ev.pos (by simp [h15]) (Ev.ret ⟨by decide, rfl⟩)
    · rw [if_neg h15]
      refine Ev.neg (by simp; omega) (Ev.neg (dfalse (by omega)) (Ev.pos (by simp only [LIM]; omega) ?_))
      have hj : ∀ c : Bool, c = decide (kind = 5 ∨ kind = 6) → Ev (fun k => spec_l4Readj4 (spec_l4Read k) k b a kind (12 - (d : Int)) (L.length : Int) kind c (L ++ [(kind, id, 0, [], 0)])) (PNode b L Tr.flat (if kind = 5 ∨ kind = 6 then match uvn (b.drop a) 0 0 with
          | none => .error 1
          | some (u, k) => if kind = 5 ∧ int32B (zag (w64 u)) = false then .error 3 else .ok (.mk kind id (zag (w64 u)) [] [], (b.drop a).drop k)
        else if kind = 8 then match rText (b.drop a) with
          | .error e => .error e
          | .ok (t, s) => .ok (.mk kind id 0 t [], s)
        else if kind = 9 then match rHead (b.drop a) with
          | .error e => .error e
          | .ok ((many, item), s) => match rKids (fun n s => rNode d n item 0 s) many (L.length + 1) s with
            | .error e => .error e
            | .ok (ts, s) => .ok (.mk kind id item [] ts, s)
        else if kind = 12 then match rFields (fun kind id n s => rNode d n kind id s) (b.drop a).length 0 (L.length + 1) (b.drop a) with
          | .error e => .error e
          | .ok (ts, s) => .ok (.mk kind id 0 [] ts, s)
        else .ok (.mk kind id 0 [] [], b.drop a))) := by
        intro c hc
        subst hc
        have hlen1 : (L ++ [(kind, id, 0, [], 0)] : List GNode).length = L.length + 1 := by simp
        simp only [spec_l4Readj4]
        by_cases h56 : kind = 5 ∨ kind = 6
        · rw [if_pos h56]
          refine Ev.pos (dtrue h56) (Ev.bind_eq (spec_ZigGet_ev b a hl) ?_)
          simp only [zigGet, uvGet_nat]
          cases hu : uvn (b.drop a) 0 0 with
          | none => exact Ev.pos (by simp) (Ev.ret ⟨by decide, rfl⟩)
          | some x =>
            obtain ⟨u, m⟩ := x
            have hm := (uvn_le hu).2
            rw [List.length_drop] at hm
            refine Ev.neg (by simp) ?_
            simp only [spec_l4Int_eq, Option.bind_some, List.drop_drop, if_true]
            have hj1 : Ev (fun k => spec_l4Readj1 (spec_l4Read k) k (L.length : Int) (zag (w64 u)) ((a + m : Nat) : Int) (L ++ [(kind, id, 0, [], 0)])) (PNode b L Tr.flat (.ok (.mk kind id (zag (w64 u)) [] [], b.drop (a + m)))) := by
              simp only [spec_l4Readj1]
              refine Ev.pos ⟨by omega, by rw [hlen1]; omega⟩ (Ev.ret ⟨a + m, by omega, rfl, by simp [Tr.flat, flats]; omega, ?_⟩)
              rw [Int.toNat_natCast, getD_mid, set_mid]
              simp [Tr.flat, flats]
            by_cases h5 : kind = 5
            · refine Ev.pos (by simp [h5]) ?_
              cases hi : int32B (zag (w64 u)) with
              | false => exact Ev.pos (by simp) (Ev.ret (by simp [h5, PNode]))
              | true =>
                refine Ev.neg (by simp) ?_
                rw [if_neg (by simp)]
                exact hj1
            · refine Ev.neg (by simp [h5]) ?_
              rw [if_neg (by simp [h5])]
              exact hj1
        · rw [if_neg h56]
          refine Ev.neg (dfalse h56) ?_
          by_cases h8 : kind = 8
          · subst h8
            rw [if_pos rfl]
            refine Ev.pos (by decide) (Ev.bind (spec_l4Text_ev b a hl ha) fun y hy => ?_)
            refine Ev.pos ⟨by omega, by rw [hlen1]; omega⟩ (Ev.ret ?_)
            have hgood := rText_good (b.drop a)
            cases ht : rText (b.drop a) with
            | error e =>
              rw [ht] at hy hgood
              exact ⟨hgood, hy.1⟩
            | ok x =>
              obtain ⟨t, s⟩ := x
              rw [ht] at hy
              obtain ⟨q, h1, rfl, rfl⟩ := hy
              refine ⟨q, h1, rfl, by simp [Tr.flat, flats]; omega, ?_⟩
              rw [Int.toNat_natCast, getD_mid, set_mid]
              simp [Tr.flat, flats]
          · rw [if_neg h8]
            refine Ev.neg (by simpa using h8) ?_
            by_cases h9 : kind = 9
            · subst h9
              rw [if_pos rfl]
              refine Ev.pos (by decide) (Ev.bind (spec_l4Many_ev b a hl ha) fun y hy => ?_)
              refine Ev.pos ⟨by omega, by rw [hlen1]; omega⟩ ?_
              rw [Int.toNat_natCast, getD_mid, set_mid, getD_mid, set_mid]
              refine Ev.pos ⟨by omega, by simp; omega⟩ ?_
              simp only
              have hgood := rHead_good (b.drop a)
              cases hh : rHead (b.drop a) with
              | error e =>
                rw [hh] at hy hgood
                have hy : y = (0, 0, 0, e) := hy
                have hgood : e ≠ 0 := hgood
                subst hy
                refine Ev.bind (P := fun r => r.2.1 = e) (Ev.succ ?_) fun r hr => Ev.ret ⟨hgood, hr⟩
                simp only [spec_l4Readl2]
                exact Ev.neg (by simp) (Ev.ret rfl)
              | ok x =>
                obtain ⟨⟨many, item⟩, s⟩ := x
                rw [hh] at hy
                obtain ⟨hm15, q, h1, rfl, rfl⟩ := hy
                simp only
                refine Ev.bind (spec_kidsL b d item ih (by omega) many hm15 many 0 q (L ++ [((9 : Int), id, item, [], (many : Int))]) (fun k => k) (fun k => Nat.le_refl k) (by omega) h1 (by simp; omega)) fun r hr => Ev.ret ?_
                have e1 : (L ++ [((9 : Int), id, item, [], (many : Int))] : List GNode).length = L.length + 1 := by simp
                rw [e1] at hr
                have hkl := rKids_len (rd := fun n s => rNode d n item 0 s) many (L.length + 1) (b.drop q)
                revert hr hkl
                cases rKids (fun n s => rNode d n item 0 s) many (L.length + 1) (b.drop q) with
                | error e => exact fun h _ => h
                | ok x =>
                  obtain ⟨ts, s⟩ := x
                  rintro ⟨q2, h5, h6, h7, rfl⟩ hkl
                  have hkl : ts.length = many := hkl
                  subst hkl
                  refine ⟨q2, h5, h6, by simpa [Tr.flat, flats] using h7, by simp [Tr.flat, flats]⟩
            · rw [if_neg h9]
              refine Ev.neg (by simpa using h9) ?_
              by_cases h12 : kind = 12
              · subst h12
                rw [if_pos rfl]
                refine Ev.pos (by decide) ?_
                have hf := spec_fieldsL b d ih (by omega) hl L ((12 : Int), id, 0, [], 0) (b.drop a).length a 0 0 [] (fun k => k) (fun k => Nat.le_refl k) (by simp) ha (by omega) (by simp; omega) (by omega)
                refine Ev.bind hf fun r hr => Ev.ret ?_
                rw [hlen1] at hr
                revert hr
                cases rFields (fun kind id n s => rNode d n kind id s) (b.drop a).length 0 (L.length + 1) (b.drop a) with
                | error e => exact fun h => h
                | ok x =>
                  obtain ⟨ts, s⟩ := x
                  rintro ⟨q2, h5, h6, h7, rfl⟩
                  refine ⟨q2, h5, h6, by simpa [Tr.flat, flats] using h7, by simp [Tr.flat, flats]⟩
              · rw [if_neg h12]
                refine Ev.neg (by simpa using h12) (Ev.ret ⟨a, ha, rfl, by simp [Tr.flat, flats]; omega, by simp [Tr.flat, flats]⟩)
      by_cases h5 : kind = 5
      · exact Ev.pos (by simp [h5]) (hj _ (by simp [h5]))
      · exact Ev.neg (by simp [h5]) (hj _ (by simp [h5]; rfl))
end
end Go.Proofs.Ytpggmokeohleiaa

/- Plain: trees as the program reads them. -/
namespace Go.Proofs.Ytpggmokeohleiaa
open Go Go.V

theorem impl_within_eq (k : Nat) (a b c : Int) : impl_within k a b c = some (decide (b ≤ a ∧ a ≤ c)) := by
  simp only [impl_within]
  by_cases h : a ≥ b
  · rw [if_pos (dtrue h)]; simp only [Option.some.injEq, decide_eq_decide]; omega
  · rw [if_neg (dfalse h)]; simp; omega
theorem impl_isInt32_eq (k : Nat) (x : Int) : impl_isInt32 k x = some (int32B x) := by
  simp only [impl_isInt32, impl_within_eq, Option.bind_some, int32B]
theorem impl_isType_eq (k : Nat) (t : Int) (c : Bool) : impl_isType k t c = some (isKind t c) := by
  simp only [impl_isType, impl_isTypej1, isKind]
  by_cases h1 : t = 1
  · subst h1; cases c <;> decide
  · by_cases h2 : t = 2
    · subst h2; cases c <;> decide
    · by_cases h3 : t = 5 ∨ t = 6 ∨ t = 8 ∨ t = 9 ∨ t = 12
      · rcases h3 with rfl | rfl | rfl | rfl | rfl <;> cases c <;> decide
      · simp only [not_or] at h3
        simp [h1, h2, h3]
theorem impl_fail_eq (k : Nat) (b : Bs) (a : Int) (L : List GNode) (c e : Int) : impl_treeReader_fail k (b, a, L, c) e = some (b, a, (if c = 0 then e else c), L) := by
  simp only [impl_treeReader_fail]
  by_cases h : c = 0 <;> simp [h]

section
variable (b : Bs) (hl : b.length ≤ 274877906944)

theorem impl_one_bad (k : Nat) (a c : Int) (L : List GNode) (hc : c ≠ 0) : impl_treeReader_one k (b, a, L, c) = some (0, b, a, c, L) := by
  simp only [impl_treeReader_one, impl_fail_eq]
  rw [if_pos (by simpa using hc)]
  simp [hc]
theorem impl_one_end (k : Nat) (a : Nat) (L : List GNode) (h : b.length ≤ a) : impl_treeReader_one k (b, (a : Int), L, 0) = some (0, b, (a : Int), 1, L) := by
  simp only [impl_treeReader_one, impl_fail_eq]
  rw [if_neg (by simp), if_pos (dtrue (by omega))]
  simp
theorem impl_one_at (k : Nat) (a : Nat) (L : List GNode) (hl : b.length ≤ 274877906944) (h : a < b.length) : impl_treeReader_one k (b, (a : Int), L, 0) = some (n8 (b.getD a 0), b, ((a + 1 : Nat) : Int), 0, L) := by
  simp only [impl_treeReader_one]
  have hb := n8_bd (b.getD a 0)
  rw [if_neg (by simp), if_neg (dfalse (by omega)), w64_id (n := (a : Int) + 1) (by omega), w64_id (n := (a : Int) + 1 - 1) (by omega), show (a : Int) + 1 - 1 = (a : Int) by omega, if_pos ⟨by omega, by omega⟩]
  simp only [Int.toNat_natCast]
  rw [w64_id (by omega)]
  rfl

theorem impl_uvar_bad (a : Nat) (c : Int) (L : List GNode) (hl : b.length ≤ 274877906944) (ha : a ≤ b.length) (hc : c ≠ 0) : Ev (fun k => impl_treeReader_uvar k (b, (a : Int), L, c)) (· = (0, b, (a : Int), c, L)) := by
  simp only [impl_treeReader_uvar]
  refine Ev.bind_eq (impl_UvarGet_ev b a hl (by omega)) ?_
  simp only [impl_fail_eq]
  exact Ev.pos (by simpa using hc) (Ev.ret (by simp [hc]))
theorem impl_uvar_ev (a : Nat) (L : List GNode) (hl : b.length ≤ 274877906944) (ha : a ≤ b.length) : Ev (fun k => impl_treeReader_uvar k (b, (a : Int), L, 0)) (· = match uvn (b.drop a) 0 0 with | none => (0, b, (a : Int), 1, L) | some (u, m) => (w64 u, b, ((a + m : Nat) : Int), 0, L)) := by
  simp only [impl_treeReader_uvar]
  refine Ev.bind_eq (impl_UvarGet_ev b a hl (by omega)) ?_
  simp only [impl_fail_eq]
  rw [uvGet_nat]
  cases uvn (b.drop a) 0 0 with
  | none => exact Ev.neg (by simp) (Ev.pos (by simp) (Ev.ret (by simp)))
  | some x => exact Ev.neg (by simp) (Ev.neg (by simp) (Ev.ret rfl))

def QText (L : List GNode) (x : Except Int (Bs × Bs)) (r : Bs × Bs × Int × Int × List GNode) : Prop :=
  match x with
  | .error e => ∃ q : Nat, q ≤ b.length ∧ r = ([], b, (q : Int), e, L)
  | .ok (t, s) => ∃ q : Nat, q ≤ b.length ∧ s = b.drop q ∧ r = (t, b, (q : Int), 0, L)

theorem impl_text_ev (a : Nat) (L : List GNode) (hl : b.length ≤ 274877906944) (ha : a ≤ b.length) : Ev (fun k => impl_treeReader_text k (b, (a : Int), L, 0)) (QText b L (rText (b.drop a))) := by
  simp only [impl_treeReader_text]
  refine Ev.bind_eq (impl_uvar_ev b a L hl ha) ?_
  unfold rText
  cases hu : uvn (b.drop a) 0 0 with
  | none =>
    refine Ev.neg (by simp) ?_
    simp only [impl_treeReader_textj2]
    refine Ev.neg (by simp) ?_
    simp only [impl_treeReader_textj1]
    exact Ev.pos (by simp) (Ev.ret ⟨a, ha, rfl⟩)
  | some x =>
    obtain ⟨u, m⟩ := x
    have hm := (uvn_le hu).2
    rw [List.length_drop] at hm
    refine Ev.pos (by simp) ?_
    simp only [impl_within_eq, Option.bind_some, impl_fail_eq, if_true]
    by_cases h1 : w64 u < 0 ∨ w64 u > 300
    · refine Ev.pos (by simp; omega) ?_
      simp only [impl_treeReader_textj2]
      refine Ev.neg (by simp) ?_
      simp only [impl_treeReader_textj1]
      rw [if_pos h1]
      exact Ev.pos (by simp) (Ev.ret ⟨a + m, by omega, rfl⟩)
    · refine Ev.neg (by simp; omega) ?_
      simp only [impl_treeReader_textj2, impl_fail_eq, Option.bind_some, if_true]
      rw [if_neg h1]
      refine Ev.pos (by simp) ?_
      have e1 : (((b.drop a).drop m).length : Int) = (b.length : Int) - ((a + m : Nat) : Int) := by simp; omega
      rw [w64_id (n := (b.length : Int) - ((a + m : Nat) : Int)) (by omega), e1]
      by_cases h2 : (b.length : Int) - ((a + m : Nat) : Int) < w64 u
      · refine Ev.pos (dtrue (by omega)) ?_
        simp only [impl_treeReader_textj1]
        rw [if_pos h2]
        exact Ev.pos (by simp) (Ev.ret ⟨a + m, by omega, rfl⟩)
      · refine Ev.neg (dfalse (by omega)) ?_
        simp only [impl_treeReader_textj1]
        rw [if_neg h2, w64_id (n := ((a + m : Nat) : Int) + w64 u) (by omega), show ((a + m : Nat) : Int) + w64 u - w64 u = ((a + m : Nat) : Int) by omega, w64_id (n := ((a + m : Nat) : Int)) (by omega)]
        refine Ev.neg (by simp) (Ev.pos (by omega) (Ev.ret ⟨a + m + (w64 u).toNat, by omega, ?_, ?_⟩))
        · rw [List.drop_drop, List.drop_drop]; congr 1; omega
        · simp only [Prod.mk.injEq, true_and, and_true]
          refine ⟨?_, by omega⟩
          rw [List.drop_drop, List.take_drop, Int.toNat_natCast]
          congr 1
          congr 1
          omega

/-- A reader's end: a code; or the place behind, and the list. -/
def QNode (L : List GNode) {α : Type} (fl : α → List GNode) (x : Except Int (α × Bs)) (r : Bs × Int × Int × List GNode) : Prop :=
  match x with
  | .error e => e ≠ 0 ∧ r.1 = b ∧ (∃ q : Nat, q ≤ b.length ∧ r.2.1 = (q : Int)) ∧ r.2.2.1 = e
  | .ok (t, s) => ∃ q : Nat, q ≤ b.length ∧ s = b.drop q ∧ (L ++ fl t).length ≤ 1500 ∧ r = (b, (q : Int), 0, L ++ fl t)

/-- What the three readers do, d deep at most. -/
def ImplNode (d : Nat) : Prop := ∀ (a : Nat) (kind id : Int) (L : List GNode), a ≤ b.length → L.length ≤ 1500 → Ev (fun k => impl_treeReader_node k (b, (a : Int), L, 0) kind id (13 - (d : Int))) (QNode b L Tr.flat (rNode d L.length kind id (b.drop a)))

theorem impl_partsL (d : Nat) (item : Int) (ih : ImplNode b d) (hd : d ≤ 12) (many : Nat) (hm : many ≤ 1500) :
    ∀ (m i a : Nat) (L : List GNode) (g : Nat → Nat), (∀ k, k ≤ g k) → i + m = many → a ≤ b.length → L.length ≤ 1500 →
    Ev (fun k => impl_treeReader_partsl1 (impl_treeReader_node (g k)) (impl_treeReader_parts (g k)) (impl_treeReader_fields (g k)) k (12 - (d : Int)) (many : Int) item (i : Int) b (a : Int) 0 L) (QNode b L flats (rKids (fun n s => rNode d n item 0 s) m L.length (b.drop a))) := by
  intro m
  induction m with
  | zero =>
    intro i a L g hg hi ha hL
    apply Ev.succ
    simp only [impl_treeReader_partsl1]
    refine Ev.neg (dfalse (by omega)) (Ev.ret ⟨a, ha, rfl, by simpa [flats] using hL, by simp [flats]⟩)
  | succ m ihm =>
    intro i a L g hg hi ha hL
    apply Ev.succ
    simp only [impl_treeReader_partsl1]
    refine Ev.pos (dtrue (by omega)) (Ev.pos (by decide) ?_)
    rw [w64_id (n := 12 - (d : Int) + 1) (by omega), show 12 - (d : Int) + 1 = 13 - (d : Int) by omega, w64_id (n := (i : Int) + 1) (by omega)]
    refine Ev.bind ((ih a item 0 L ha hL).comp (g := fun k => g (k + 1)) (fun k => by have := hg (k + 1); omega)) fun y hy => ?_
    simp only [rKids]
    cases hr : rNode d L.length item 0 (b.drop a) with
    | error e =>
      rw [hr] at hy
      obtain ⟨h0, h1, h2, h3⟩ := hy
      apply Ev.succ
      simp only [impl_treeReader_partsl1]
      have hne : ¬ (y.2.2.1 == 0) = true := by simp [h3, h0]
      exact Ev.ite (fun _ => Ev.neg hne (Ev.ret ⟨h0, h1, h2, h3⟩)) (fun _ => Ev.ret ⟨h0, h1, h2, h3⟩)
    | ok x =>
      obtain ⟨t, s⟩ := x
      rw [hr] at hy
      obtain ⟨q, hq, rfl, hc, rfl⟩ := hy
      simp only
      have h2 := ihm (i + 1) q (L ++ t.flat) (fun k => g (k + 1)) (fun k => by have := hg (k + 1); omega) (by omega) hq hc
      rw [show ((i : Int) + 1) = ((i + 1 : Nat) : Int) by omega]
      refine h2.mono fun r hr => ?_
      rw [List.length_append] at hr
      revert hr
      cases rKids (fun n s => rNode d n item 0 s) m (L.length + t.flat.length) (b.drop q) with
      | error e => exact fun h => h
      | ok x =>
        obtain ⟨ts, s⟩ := x
        rintro ⟨q2, h1, h2, h3, h4⟩
        exact ⟨q2, h1, h2, by simpa [flats, List.append_assoc] using h3, by rw [h4]; simp [flats, List.append_assoc]⟩

/-- The parts of a list, its node being the last. -/
theorem impl_parts_ev (d : Nat) (ih : ImplNode b d) (hd : d ≤ 12) (hl : b.length ≤ 274877906944) (a : Nat) (id : Int) (L : List GNode) (ha : a ≤ b.length) (hL : L.length < 1500) :
    Ev (fun k => impl_treeReader_parts k (b, (a : Int), L ++ [((9 : Int), id, 0, [], 0)], 0) (L.length : Int) (12 - (d : Int))) (QNode b L Tr.flat (match rHead (b.drop a) with
      | .error e => .error e
      | .ok ((many, item), s) => match rKids (fun n s => rNode d n item 0 s) many (L.length + 1) s with
        | .error e => .error e
        | .ok (ts, s) => .ok (.mk 9 id item [] ts, s))) := by
  have hlen1 : (L ++ [((9 : Int), id, 0, [], 0)] : List GNode).length = L.length + 1 := by simp
  apply Ev.succ
  simp only [impl_treeReader_parts, impl_treeReader_partsb]
  unfold rHead
  by_cases hlt : a < b.length
  · rw [drop_get hlt]
    simp only [impl_one_at b _ a _ hl hlt, Option.bind_some]
    obtain ⟨c, hcc⟩ : ∃ c, b.getD a 0 = c := ⟨_, rfl⟩
    simp only [hcc]
    have hb := n8_bd c
    have hc := c.toNat_lt
    have e1 : w64 ((n8 c).tdiv 16) = ((c.toNat / 16 : Nat) : Int) := by
      rw [Int.tdiv_eq_ediv_of_nonneg (by omega), w64_id (by omega)]; simp only [n8]; omega
    have e2 : (n8 c).tmod 16 = ((c.toNat % 16 : Nat) : Int) := by
      rw [Int.tmod_eq_emod_of_nonneg (by omega)]; simp only [n8]; omega
    rw [e1, e2]
    have key : ∀ (many : Int) (q : Nat), q ≤ b.length → -9223372036854775808 ≤ many →
        Ev (fun k => impl_treeReader_partsj4 (impl_treeReader_node k) (impl_treeReader_parts k) (impl_treeReader_fields k) k (L.length : Int) (12 - (d : Int)) many ((c.toNat % 16 : Nat) : Int) b (q : Int) 0 (L ++ [((9 : Int), id, 0, [], 0)]))
          (QNode b L Tr.flat (match (if many = 0 then .ok ((0, 0), b.drop q) else if isKind ((c.toNat % 16 : Nat) : Int) true = false then .error 2 else if many < 0 ∨ many > 1500 then .error 4 else .ok ((many.toNat, ((c.toNat % 16 : Nat) : Int)), b.drop q) : Except Int ((Nat × Int) × List UInt8)) with
          | .error e => .error e
          | .ok ((many, item), s) => match rKids (fun n s => rNode d n item 0 s) many (L.length + 1) s with
            | .error e => .error e
            | .ok (ts, s) => .ok (.mk 9 id item [] ts, s))) := by
      intro many q hq _
      simp only [impl_treeReader_partsj4, impl_isType_eq, Option.bind_some, impl_fail_eq, if_true]
      refine Ev.neg (by simp) ?_
      by_cases h0 : many = 0
      · rw [if_pos h0]
        refine Ev.pos (by simp [h0]) (Ev.ret ⟨q, hq, rfl, by simp [Tr.flat, flats]; omega, by simp [Tr.flat, flats]⟩)
      · rw [if_neg h0]
        refine Ev.neg (by simp [h0]) ?_
        -- with a code that stands already, the parts end at once
        have bad : ∀ c2 : Int, c2 ≠ 0 → Ev (fun k => impl_treeReader_partsj2 (impl_treeReader_node k) (impl_treeReader_parts k) (impl_treeReader_fields k) k (L.length : Int) (12 - (d : Int)) many ((c.toNat % 16 : Nat) : Int) b (q : Int) c2 (L ++ [((9 : Int), id, 0, [], 0)])) (QNode b L Tr.flat (.error c2)) := by
          intro c2 hc2
          simp only [impl_treeReader_partsj2]
          refine Ev.pos ⟨by omega, by rw [hlen1]; omega⟩ ?_
          rw [Int.toNat_natCast, getD_mid, set_mid, getD_mid, set_mid]
          refine Ev.pos ⟨by omega, by simp; omega⟩ ?_
          refine Ev.bind (P := fun r => r.1 = b ∧ r.2.1 = (q : Int) ∧ r.2.2.1 = c2) (Ev.succ ?_) fun r hr => Ev.ret ⟨hc2, hr.1, ⟨q, hq, hr.2.1⟩, hr.2.2⟩
          simp only [impl_treeReader_partsl1]
          exact Ev.ite (fun _ => Ev.neg (by simpa using hc2) (Ev.ret ⟨rfl, rfl, rfl⟩)) (fun _ => Ev.ret ⟨rfl, rfl, rfl⟩)
        cases hk : isKind ((c.toNat % 16 : Nat) : Int) true with
        | false =>
          refine Ev.pos (by simp) ?_
          simp only [impl_treeReader_partsj3, impl_within_eq, Option.bind_some, impl_fail_eq]
          exact Ev.ite (fun _ => by simpa using bad 2 (by decide)) (fun _ => by simpa using bad 2 (by decide))
        | true =>
          refine Ev.neg (by simp) ?_
          rw [if_neg (by simp)]
          simp only [impl_treeReader_partsj3, impl_within_eq, Option.bind_some, impl_fail_eq, if_true]
          by_cases h1 : many < 0 ∨ many > 1500
          · rw [if_pos h1]
            exact Ev.pos (by simp; omega) (bad 4 (by decide))
          · rw [if_neg h1]
            refine Ev.neg (by simp; omega) ?_
            obtain ⟨m, rfl⟩ : ∃ m : Nat, many = m := ⟨many.toNat, by omega⟩
            simp only [impl_treeReader_partsj2, Int.toNat_natCast]
            refine Ev.pos ⟨by omega, by rw [hlen1]; omega⟩ ?_
            rw [getD_mid, set_mid, getD_mid, set_mid]
            refine Ev.pos ⟨by omega, by simp; omega⟩ ?_
            simp only
            refine Ev.bind (impl_partsL b d ((c.toNat % 16 : Nat) : Int) ih hd m (by omega) m 0 q (L ++ [((9 : Int), id, ((c.toNat % 16 : Nat) : Int), [], (m : Int))]) (fun k => k) (fun k => Nat.le_refl k) (by omega) hq (by simp; omega)) fun r hr => Ev.ret ?_
            have e1 : (L ++ [((9 : Int), id, ((c.toNat % 16 : Nat) : Int), [], (m : Int))] : List GNode).length = L.length + 1 := by simp
            rw [e1] at hr
            have hkl := rKids_len (rd := fun n s => rNode d n ((c.toNat % 16 : Nat) : Int) 0 s) m (L.length + 1) (b.drop q)
            revert hr hkl
            cases rKids (fun n s => rNode d n ((c.toNat % 16 : Nat) : Int) 0 s) m (L.length + 1) (b.drop q) with
            | error e => exact fun h _ => h
            | ok x =>
              obtain ⟨ts, s⟩ := x
              rintro ⟨q2, h5, h6, h7, rfl⟩ hkl
              have hkl : ts.length = m := hkl
              subst hkl
              exact ⟨q2, h5, h6, by simpa [Tr.flat, flats] using h7, by simp [Tr.flat, flats]⟩
    by_cases h15 : c.toNat / 16 = 15
    · rw [if_pos h15]
      refine Ev.pos (by simp [h15]) (Ev.bind_eq (impl_uvar_ev b (a + 1) _ hl (by omega)) ?_)
      cases hu : uvn (b.drop (a + 1)) 0 0 with
      | none =>
        simp only [impl_treeReader_partsj4]
        exact Ev.pos (by simp) (Ev.ret ⟨by decide, rfl, ⟨a + 1, by omega, rfl⟩, rfl⟩)
      | some x =>
        obtain ⟨u, m⟩ := x
        have hm := (uvn_le hu).2
        rw [List.length_drop] at hm
        simp only [List.drop_drop]
        exact key (w64 u) (a + 1 + m) (by omega) (w64_bd _).1
    · rw [if_neg h15]
      refine Ev.neg (by simp; omega) ?_
      exact key _ (a + 1) (by omega) (by omega)
  · rw [List.drop_eq_nil_of_le (by omega)]
    simp only [impl_one_end b _ a _ (show b.length ≤ a by omega), Option.bind_some]
    refine Ev.neg (by decide) ?_
    simp only [impl_treeReader_partsj4]
    exact Ev.pos (by simp) (Ev.ret ⟨by decide, rfl, ⟨a, ha, rfl⟩, rfl⟩)
end
end Go.Proofs.Ytpggmokeohleiaa

/- Plain: trees as the program reads them: structs, nodes; both sides read the same. -/
namespace Go.Proofs.Ytpggmokeohleiaa
open Go Go.V

section
variable (b : Bs)

theorem impl_fieldsL (d : Nat) (ih : ImplNode b d) (hd : d ≤ 12) (hl : b.length ≤ 274877906944) (L : List GNode) (hd0 : GNode) :
    ∀ (f : Nat) (a : Nat) (last : Int) (many : Nat) (R : List GNode) (g : Nat → Nat), (∀ k, k ≤ g k) → b.length - a ≤ f → a ≤ b.length → (0 ≤ last ∧ last ≤ 1000) → (L ++ hd0 :: R).length ≤ 1500 → many ≤ 1500 - (1500 - (L ++ hd0 :: R).length) →
    Ev (fun k => impl_treeReader_fieldsl1 (impl_treeReader_node (g k)) (impl_treeReader_parts (g k)) (impl_treeReader_fields (g k)) k (L.length : Int) (12 - (d : Int)) last b (a : Int) 0 (L ++ (hd0.1, hd0.2.1, hd0.2.2.1, hd0.2.2.2.1, (many : Int)) :: R))
      (fun r => match rFields (fun kind id n s => rNode d n kind id s) f last (L ++ hd0 :: R).length (b.drop a) with
        | .error e => e ≠ 0 ∧ r.1 = b ∧ (∃ q : Nat, q ≤ b.length ∧ r.2.1 = (q : Int)) ∧ r.2.2.1 = e
        | .ok (ts, s) => ∃ q : Nat, q ≤ b.length ∧ s = b.drop q ∧ (L ++ hd0 :: (R ++ flats ts)).length ≤ 1500 ∧
        r = (b, (q : Int), 0, L ++ (hd0.1, hd0.2.1, hd0.2.2.1, hd0.2.2.2.1, ((many + ts.length : Nat) : Int)) :: (R ++ flats ts))) := by
  intro f
  induction f with
  | zero =>
    intro a last many R g hg hf ha hlast hL hmany
    apply Ev.succ
    simp only [impl_treeReader_fieldsl1, impl_one_end b _ a _ (show b.length ≤ a by omega), Option.bind_some]
    exact Ev.pos (by simp) (Ev.ret ⟨by decide, rfl, ⟨a, ha, rfl⟩, rfl⟩)
  | succ f ihf =>
    intro a last many R g hg hf ha hlast hL hmany
    apply Ev.succ
    simp only [impl_treeReader_fieldsl1, rFields]
    by_cases hlt : a < b.length
    · simp only [impl_one_at b _ a _ hl hlt, Option.bind_some]
      have hpart : rPart last (b.drop a) = rPart last (b.getD a 0 :: b.drop (a + 1)) := by rw [drop_get hlt]
      rw [hpart]
      have hshort := fun x s' => rPart_shorter (last := last) (s := b.getD a 0 :: b.drop (a + 1)) (x := x) (s' := s')
      obtain ⟨c, hcc⟩ : ∃ c, b.getD a 0 = c := ⟨_, rfl⟩
      simp only [hcc] at hshort ⊢
      have hb := n8_bd c
      have hc := c.toNat_lt
      have e1 : w64 ((n8 c).tdiv 16) = ((c.toNat / 16 : Nat) : Int) := by
        rw [Int.tdiv_eq_ediv_of_nonneg (by omega), w64_id (by omega)]; simp only [n8]; omega
      have e2 : (n8 c).tmod 16 = ((c.toNat % 16 : Nat) : Int) := by
        rw [Int.tmod_eq_emod_of_nonneg (by omega)]; simp only [n8]; omega
      rw [e1, e2]
      refine Ev.neg (by simp) ?_
      unfold rPart at hshort ⊢
      by_cases h0 : c.toNat = 0
      · simp only [h0, if_true]
        refine Ev.pos (by simp [n8, h0]) (Ev.ret ⟨a + 1, by omega, rfl, by simpa [flats] using hL, by simp [flats]⟩)
      · simp only [h0, if_false] at hshort ⊢
        refine Ev.neg (by simp only [n8]; simp; omega) ?_
        simp only [impl_isType_eq, Option.bind_some, impl_fail_eq, if_true]
        rw [w64_id (n := last + ((c.toNat / 16 : Nat) : Int)) (by omega)]
        -- once a code stands, the parts end behind the head
        have bad2 : ∀ (c2 : Int) (id : Int) (q : Nat), c2 ≠ 0 → q ≤ b.length → ∀ (k2 : Int) (LL : List GNode) (rc : Nat → Int × Int × Int × Bs × Int × Int × (List GNode) → Option (Bs × Int × Int × (List GNode))), Ev (fun k => impl_treeReader_fieldsj2 (impl_treeReader_node (g (k + 1))) (impl_treeReader_parts (g (k + 1))) (impl_treeReader_fields (g (k + 1))) k (rc k)
            (L.length : Int) (12 - (d : Int)) k2 id b (q : Int) c2 LL) (fun r => c2 ≠ 0 ∧ r.1 = b ∧ (∃ q : Nat, q ≤ b.length ∧ r.2.1 = (q : Int)) ∧ r.2.2.1 = c2) := by
          intro c2 id q hc2 hq k2 LL rc
          simp only [impl_treeReader_fieldsj2]
          exact Ev.pos (by simpa using hc2) (Ev.ret ⟨hc2, rfl, ⟨q, hq, rfl⟩, rfl⟩)
        have bad4 : ∀ (c2 : Int) (id : Int) (q : Nat), c2 ≠ 0 → q ≤ b.length → ∀ (k2 : Int) (LL : List GNode) (rc : Nat → Int × Int × Int × Bs × Int × Int × (List GNode) → Option (Bs × Int × Int × (List GNode))), Ev (fun k => impl_treeReader_fieldsj4 (impl_treeReader_node (g (k + 1))) (impl_treeReader_parts (g (k + 1))) (impl_treeReader_fields (g (k + 1))) k (rc k)
            (L.length : Int) (12 - (d : Int)) last k2 id b (q : Int) c2 LL) (fun r => c2 ≠ 0 ∧ r.1 = b ∧ (∃ q : Nat, q ≤ b.length ∧ r.2.1 = (q : Int)) ∧ r.2.2.1 = c2) := by
          intro c2 id q hc2 hq k2 LL rc
          simp only [impl_treeReader_fieldsj4]
          refine Ev.neg (by simpa using hc2) ?_
          simp only [impl_treeReader_fieldsj3]
          exact Ev.neg (by simpa using hc2) (bad2 c2 id q hc2 hq k2 LL rc)
        cases hk : isKind ((c.toNat % 16 : Nat) : Int) false with
        | false =>
          refine Ev.pos (by simp) ?_
          simp only [impl_treeReader_fieldsj5, if_true]
          refine Ev.ite (fun _ => ?_) (fun _ => bad4 2 _ (a + 1) (by decide) (by omega) _ _ _)
          refine Ev.bind_eq (impl_uvar_bad b (a + 1) 2 _ hl (by omega) (by decide)) ?_
          simp only [impl_Zag_eq, Option.bind_some]
          exact bad4 2 _ (a + 1) (by decide) (by omega) _ _ _
        | true =>
          refine Ev.neg (by simp) ?_
          simp only [hk] at hshort
          -- behind the Id
          have key : ∀ (id : Int) (q : Nat), a < q → q ≤ b.length →
              Ev (fun k => impl_treeReader_fieldsj4 (impl_treeReader_node (g (k + 1))) (impl_treeReader_parts (g (k + 1))) (impl_treeReader_fields (g (k + 1))) k
                (fun (i : Int × Int × Int × Bs × Int × Int × (List GNode)) => impl_treeReader_fieldsl1 (impl_treeReader_node (g (k + 1))) (impl_treeReader_parts (g (k + 1))) (impl_treeReader_fields (g (k + 1))) k i.1 i.2.1 i.2.2.1 i.2.2.2.1 i.2.2.2.2.1 i.2.2.2.2.2.1 i.2.2.2.2.2.2)
                (L.length : Int) (12 - (d : Int)) last ((c.toNat % 16 : Nat) : Int) id b (q : Int) 0 (L ++ (hd0.1, hd0.2.1, hd0.2.2.1, hd0.2.2.2.1, (many : Int)) :: R))
              (fun r => match (match (if id < 1 ∨ id > 1000 then .error 3 else if id ≤ last then .error 5 else .ok (some (((c.toNat % 16 : Nat) : Int), id), b.drop q) : Except Int (Option (Int × Int) × List UInt8)) with
                | .error e => .error e
                | .ok (none, s) => .ok ([], s)
                | .ok (some (kind, id), s) => match rNode d (L ++ hd0 :: R).length kind id s with
                  | .error e => .error e
                  | .ok (t, s) => match rFields (fun kind id n s => rNode d n kind id s) f id ((L ++ hd0 :: R).length + t.flat.length) s with
                    | .error e => .error e
                    | .ok (ts, s) => .ok (t :: ts, s) : Except Int (List Tr × List UInt8)) with
                | .error e => e ≠ 0 ∧ r.1 = b ∧ (∃ q : Nat, q ≤ b.length ∧ r.2.1 = (q : Int)) ∧ r.2.2.1 = e
                | .ok (ts, s) => ∃ q : Nat, q ≤ b.length ∧ s = b.drop q ∧ (L ++ hd0 :: (R ++ flats ts)).length ≤ 1500 ∧
                  r = (b, (q : Int), 0, L ++ (hd0.1, hd0.2.1, hd0.2.2.1, hd0.2.2.2.1, ((many + ts.length : Nat) : Int)) :: (R ++ flats ts))) := by
            intro id q hq0 hq
            simp only [impl_treeReader_fieldsj4, impl_within_eq, Option.bind_some, impl_fail_eq, if_true]
            refine Ev.pos (by simp) ?_
            by_cases h1 : id < 1 ∨ id > 1000
            · rw [if_pos h1]
              refine Ev.pos (by simp; omega) ?_
              simp only [impl_treeReader_fieldsj3]
              exact Ev.neg (by simp) (bad2 3 _ q (by decide) hq _ _ _)
            · rw [if_neg h1]
              refine Ev.neg (by simp; omega) ?_
              simp only [impl_treeReader_fieldsj3, impl_fail_eq, Option.bind_some, if_true]
              refine Ev.pos (by simp) ?_
              by_cases h2 : id ≤ last
              · rw [if_pos h2]
                exact Ev.pos (dtrue h2) (bad2 5 _ q (by decide) hq _ _ _)
              · rw [if_neg h2]
                refine Ev.neg (dfalse h2) ?_
                simp only [impl_treeReader_fieldsj2]
                refine Ev.neg (by simp) (Ev.pos ⟨by omega, by simp; omega⟩ ?_)
                rw [Int.toNat_natCast, getD_mid, set_mid]
                have hL' : (L ++ ((hd0.1, hd0.2.1, hd0.2.2.1, hd0.2.2.2.1, ((many + 1 : Nat) : Int)) : GNode) :: R).length ≤ 1500 := by simpa using hL
                have eL : (L ++ ((hd0.1, hd0.2.1, hd0.2.2.1, hd0.2.2.2.1, ((many + 1 : Nat) : Int)) : GNode) :: R).length = (L ++ hd0 :: R).length := by simp
                simp only
                rw [w64_id (n := 12 - (d : Int) + 1) (by omega), show 12 - (d : Int) + 1 = 13 - (d : Int) by omega, w64_id (n := (many : Int) + 1) (by omega), show ((many : Int) + 1) = ((many + 1 : Nat) : Int) by omega]
                refine Ev.bind ((ih q ((c.toNat % 16 : Nat) : Int) id _ hq hL').comp (g := fun k => g (k + 1)) (fun k => by have := hg (k + 1); omega)) fun y hy => ?_
                rw [eL] at hy
                cases hr : rNode d (L ++ hd0 :: R).length ((c.toNat % 16 : Nat) : Int) id (b.drop q) with
                | error e =>
                  rw [hr] at hy
                  obtain ⟨hn0, h3, ⟨q2, h4, h5⟩, h6⟩ := hy
                  obtain ⟨y1, y2, y3, y4⟩ := y
                  simp only at h3 h5 h6
                  subst h3 h5 h6
                  apply Ev.succ
                  simp only [impl_treeReader_fieldsl1, impl_one_bad _ _ _ _ _ hn0, Option.bind_some]
                  exact Ev.pos (by simpa using hn0) (Ev.ret ⟨hn0, rfl, ⟨q2, h4, rfl⟩, rfl⟩)
                | ok x =>
                  obtain ⟨t, s⟩ := x
                  rw [hr] at hy
                  obtain ⟨q2, hq2, rfl, hcnt, rfl⟩ := hy
                  have hg2 := rNode_good d (L ++ hd0 :: R).length ((c.toNat % 16 : Nat) : Int) id (b.drop q)
                  rw [hr] at hg2
                  have hg2 := Suf.len hg2
                  rw [List.length_drop, List.length_drop] at hg2
                  have hpos := t.flat_pos
                  have e4 : (L ++ ((hd0.1, hd0.2.1, hd0.2.2.1, hd0.2.2.2.1, ((many + 1 : Nat) : Int)) : GNode) :: R) ++ t.flat = L ++ (hd0.1, hd0.2.1, hd0.2.2.1, hd0.2.2.2.1, ((many + 1 : Nat) : Int)) :: (R ++ t.flat) := by simp
                  rw [e4] at hcnt ⊢
                  simp only
                  have hcnt' : (L ++ hd0 :: (R ++ t.flat)).length ≤ 1500 := by simpa using hcnt
                  have h7 := ihf q2 id (many + 1) (R ++ t.flat) (fun k => g (k + 1)) (fun k => by have := hg (k + 1); omega) (by omega) hq2 (by omega) hcnt' (by
                    simp only [List.length_append, List.length_cons] at hmany hcnt' ⊢; omega)
                  refine h7.mono fun r hr => ?_
                  have e5 : (L ++ hd0 :: (R ++ t.flat)).length = (L ++ hd0 :: R).length + t.flat.length := by simp; omega
                  rw [e5] at hr
                  revert hr
                  cases rFields (fun kind id n s => rNode d n kind id s) f id ((L ++ hd0 :: R).length + t.flat.length) (b.drop q2) with
                  | error e => exact fun h => h
                  | ok x =>
                    obtain ⟨ts, s⟩ := x
                    rintro ⟨q3, h5, h6, h7, h8⟩
                    refine ⟨q3, h5, h6, by simpa [flats, List.append_assoc] using h7, ?_⟩
                    rw [h8]
                    simp only [flats, List.append_assoc, List.length_cons]
                    rw [show many + 1 + ts.length = many + (ts.length + 1) by omega]
          simp only [impl_treeReader_fieldsj5]
          by_cases hm0 : c.toNat / 16 = 0
          · refine Ev.pos (by simp only [n8]; simp; omega) (Ev.bind_eq (impl_uvar_ev b (a + 1) _ hl (by omega)) ?_)
            simp only [impl_Zag_eq, Option.bind_some]
            rw [if_pos hm0]
            cases hu : uvn (b.drop (a + 1)) 0 0 with
            | none => exact bad4 1 _ (a + 1) (by decide) (by omega) _ _ _
            | some x =>
              obtain ⟨u, m⟩ := x
              have hm := (uvn_le hu).2
              rw [List.length_drop] at hm
              simp only [List.drop_drop, Bool.true_eq_false, if_false]
              exact key (zag (w64 u)) (a + 1 + m) (by omega) (by omega)
          · refine Ev.neg (by simp only [n8]; simp; omega) ?_
            rw [if_neg hm0]
            simp only [Bool.true_eq_false, if_false]
            exact key _ (a + 1) (by omega) (by omega)
    · simp only [impl_one_end b _ a _ (show b.length ≤ a by omega), Option.bind_some]
      rw [List.drop_eq_nil_of_le (by omega)]
      exact Ev.pos (by simp) (Ev.ret ⟨by decide, rfl, ⟨a, ha, rfl⟩, rfl⟩)

theorem impl_node_ev (hl : b.length ≤ 274877906944) : ∀ (d : Nat), d ≤ 13 → ImplNode b d := by
  intro d
  induction d with
  | zero =>
    intro hd a kind id L ha hL
    apply Ev.succ
    simp only [impl_treeReader_node, impl_treeReader_nodeb, impl_treeReader_begin, impl_treeReader_beginj1, impl_fail_eq, Option.bind_some, if_true]
    rw [if_pos (dtrue (by omega)), if_pos (by decide)]
    simp only [Option.bind_some, rNode]
    exact Ev.pos (by simp) (Ev.ret ⟨by decide, rfl, ⟨a, ha, rfl⟩, rfl⟩)
  | succ d ihd =>
    intro hd a kind id L ha hL
    have ih := ihd (by omega)
    apply Ev.succ
    rw [show 13 - ((d + 1 : Nat) : Int) = 12 - (d : Int) by omega]
    simp only [impl_treeReader_node, impl_treeReader_nodeb, impl_treeReader_begin, impl_treeReader_beginj1, impl_fail_eq, Option.bind_some, if_true, rNode]
    rw [if_neg (dfalse (by omega))]
    by_cases h15 : L.length = 1500
    · rw [if_pos (by simp [h15]), if_pos h15, if_pos (by decide)]
      simp only [Option.bind_some]
      exact Ev.pos (by simp) (Ev.ret ⟨by decide, rfl, ⟨a, ha, rfl⟩, rfl⟩)
    · rw [if_neg (by simp; omega), if_neg h15]
      have hlen1 : (L ++ [(kind, id, 0, [], 0)] : List GNode).length = L.length + 1 := by simp
      rw [hlen1]
      rw [if_neg (by simp), if_pos (by simp only [LIM]; omega)]
      simp only [Option.bind_some]
      refine Ev.neg (by simp) ?_
      rw [show ((L.length + 1 : Nat) : Int) - 1 = (L.length : Int) by omega, w64_id (n := (L.length : Int)) (by omega)]
      have hj : ∀ c : Bool, c = decide (kind = 5 ∨ kind = 6) → Ev (fun k => impl_treeReader_nodej2 (impl_treeReader_node k) (impl_treeReader_parts k) (impl_treeReader_fields k) k kind (12 - (d : Int)) (L.length : Int) kind c b (a : Int) 0 (L ++ [(kind, id, 0, [], 0)])) (QNode b L Tr.flat (if kind = 5 ∨ kind = 6 then match uvn (b.drop a) 0 0 with
          | none => .error 1
          | some (u, k) => if kind = 5 ∧ int32B (zag (w64 u)) = false then .error 3 else .ok (.mk kind id (zag (w64 u)) [] [], (b.drop a).drop k)
        else if kind = 8 then match rText (b.drop a) with
          | .error e => .error e
          | .ok (t, s) => .ok (.mk kind id 0 t [], s)
        else if kind = 9 then match rHead (b.drop a) with
          | .error e => .error e
          | .ok ((many, item), s) => match rKids (fun n s => rNode d n item 0 s) many (L.length + 1) s with
            | .error e => .error e
            | .ok (ts, s) => .ok (.mk kind id item [] ts, s)
        else if kind = 12 then match rFields (fun kind id n s => rNode d n kind id s) (b.drop a).length 0 (L.length + 1) (b.drop a) with
          | .error e => .error e
          | .ok (ts, s) => .ok (.mk kind id 0 [] ts, s)
        else .ok (.mk kind id 0 [] [], b.drop a))) := by
        intro c hc
        subst hc
        simp only [impl_treeReader_nodej2]
        by_cases h56 : kind = 5 ∨ kind = 6
        · rw [if_pos h56]
          refine Ev.pos (dtrue h56) (Ev.bind_eq (impl_uvar_ev b a _ hl ha) ?_)
          simp only [impl_Zag_eq, Option.bind_some, impl_isInt32_eq, impl_fail_eq]
          have hj1 : ∀ (v : Int) (q : Nat) (c2 : Int), q ≤ b.length → Ev (fun k => impl_treeReader_nodej1 (impl_treeReader_node k) (impl_treeReader_parts k) (impl_treeReader_fields k) k (L.length : Int) v b (q : Int) c2 (L ++ [(kind, id, 0, [], 0)])) (fun r => r = (b, (q : Int), c2, L ++ [(kind, id, v, [], 0)])) := by
            intro v q c2 hq
            simp only [impl_treeReader_nodej1]
            refine Ev.pos ⟨by omega, by rw [hlen1]; omega⟩ (Ev.ret ?_)
            rw [Int.toNat_natCast, getD_mid, set_mid]
          have okk : ∀ (v : Int) (q : Nat), q ≤ b.length → Ev (fun k => impl_treeReader_nodej1 (impl_treeReader_node k) (impl_treeReader_parts k) (impl_treeReader_fields k) k (L.length : Int) v b (q : Int) 0 (L ++ [(kind, id, 0, [], 0)])) (QNode b L Tr.flat (.ok (.mk kind id v [] [], b.drop q))) := fun v q hq =>
            (hj1 v q 0 hq).mono fun r hr => ⟨q, hq, rfl, by simp [Tr.flat, flats]; omega, by rw [hr]; simp [Tr.flat, flats]⟩
          have bad : ∀ (v : Int) (q : Nat) (c2 : Int), c2 ≠ 0 → q ≤ b.length → Ev (fun k => impl_treeReader_nodej1 (impl_treeReader_node k) (impl_treeReader_parts k) (impl_treeReader_fields k) k (L.length : Int) v b (q : Int) c2 (L ++ [(kind, id, 0, [], 0)])) (QNode b L Tr.flat (.error c2)) := fun v q c2 hc2 hq =>
            (hj1 v q c2 hq).mono fun r hr => by rw [hr]; exact ⟨hc2, rfl, ⟨q, hq, rfl⟩, rfl⟩
          cases hu : uvn (b.drop a) 0 0 with
          | none =>
            simp only
            refine Ev.ite (fun _ => Ev.neg (by simp) (bad _ a 1 (by decide) ha)) (fun _ => bad _ a 1 (by decide) ha)
          | some x =>
            obtain ⟨u, m⟩ := x
            have hm := (uvn_le hu).2
            rw [List.length_drop] at hm
            simp only [List.drop_drop]
            by_cases h5 : kind = 5
            · refine Ev.pos (by simp [h5]) (Ev.pos (by simp) ?_)
              cases hi : int32B (zag (w64 u)) with
              | false =>
                refine Ev.pos (by simp) ?_
                simp only [h5, and_self, if_true]
                have := bad (zag (w64 u)) (a + m) 3 (by decide) (by omega)
                rw [h5] at this
                exact this
              | true =>
                refine Ev.neg (by simp) ?_
                rw [if_neg (by simp)]
                exact okk _ (a + m) (by omega)
            · refine Ev.neg (by simp [h5]) ?_
              rw [if_neg (by simp [h5])]
              exact okk _ (a + m) (by omega)
        · rw [if_neg h56]
          refine Ev.neg (dfalse h56) ?_
          by_cases h8 : kind = 8
          · subst h8
            rw [if_pos rfl]
            refine Ev.pos (by decide) (Ev.bind (impl_text_ev b a _ hl ha) fun y hy => ?_)
            have hgood := rText_good (b.drop a)
            cases ht : rText (b.drop a) with
            | error e =>
              rw [ht] at hy hgood
              obtain ⟨q, h1, rfl⟩ := hy
              exact Ev.pos ⟨by omega, by rw [hlen1]; omega⟩ (Ev.ret ⟨hgood, rfl, ⟨q, h1, rfl⟩, rfl⟩)
            | ok x =>
              obtain ⟨t, s⟩ := x
              rw [ht] at hy
              obtain ⟨q, h1, rfl, rfl⟩ := hy
              refine Ev.pos ⟨by omega, by rw [hlen1]; omega⟩ (Ev.ret ⟨q, h1, rfl, by simp [Tr.flat, flats]; omega, ?_⟩)
              rw [Int.toNat_natCast, getD_mid, set_mid]
              simp [Tr.flat, flats]
          · rw [if_neg h8]
            refine Ev.neg (by simpa using h8) ?_
            by_cases h9 : kind = 9
            · subst h9
              rw [if_pos rfl]
              refine Ev.pos (by decide) (Ev.bind (impl_parts_ev b d ih (by omega) hl a id L ha (by omega)) fun y hy => Ev.ret ?_)
              exact hy
            · rw [if_neg h9]
              refine Ev.neg (by simpa using h9) ?_
              by_cases h12 : kind = 12
              · subst h12
                rw [if_pos rfl]
                refine Ev.pos (by decide) ?_
                refine Ev.bind (P := QNode b L Tr.flat (match rFields (fun kind id n s => rNode d n kind id s) (b.drop a).length 0 (L.length + 1) (b.drop a) with
                  | .error e => .error e
                  | .ok (ts, s) => .ok (.mk 12 id 0 [] ts, s))) (Ev.succ ?_) fun y hy => Ev.ret hy
                simp only [impl_treeReader_fields, impl_treeReader_fieldsb]
                have hf := impl_fieldsL b d ih (by omega) hl L ((12 : Int), id, 0, [], 0) (b.drop a).length a 0 0 [] (fun k => k) (fun k => Nat.le_refl k) (by simp) ha (by omega) (by simp; omega) (by omega)
                refine Ev.bind hf fun r hr => Ev.ret ?_
                rw [hlen1] at hr
                revert hr
                cases rFields (fun kind id n s => rNode d n kind id s) (b.drop a).length 0 (L.length + 1) (b.drop a) with
                | error e => exact fun h => h
                | ok x =>
                  obtain ⟨ts, s⟩ := x
                  rintro ⟨q2, h5, h6, h7, rfl⟩
                  refine ⟨q2, h5, h6, by simpa [Tr.flat, flats] using h7, by simp [Tr.flat, flats]⟩
              · rw [if_neg h12]
                refine Ev.neg (by simpa using h12) (Ev.ret ⟨a, ha, rfl, by simp [Tr.flat, flats]; omega, by simp [Tr.flat, flats]⟩)
      by_cases h5 : kind = 5
      · exact Ev.pos (by simp [h5]) (hj _ (by simp [h5]))
      · exact Ev.neg (by simp [h5]) (hj _ (by simp [h5]; rfl))
end

/-! ### TreeRead -/
/-- What TreeRead tells: the place behind, a code, the list. -/
def treeRead (b : Bs) (a : Int) : Int × Int × List GNode :=
  if 0 ≤ a ∧ a < (b.length : Int) then match rNode 12 0 12 0 (b.drop a.toNat) with
    | .error e => (0, e, [])
    | .ok (t, s) => ((b.length : Int) - (s.length : Int), 0, t.flat)
  else (0, 1, [])

theorem impl_TreeRead_ev (b : Bs) (a : Int) (hl : b.length ≤ 274877906944) : Ev (fun k => impl_TreeRead k b a) (· = treeRead b a) := by
  simp only [impl_TreeRead, impl_within_eq, Option.bind_some]
  rw [w64_id (n := (b.length : Int) - 1) (by omega)]
  unfold treeRead
  by_cases h : 0 ≤ a ∧ a < (b.length : Int)
  · rw [if_pos h]
    refine Ev.neg (by simp; omega) ?_
    obtain ⟨n, rfl⟩ : ∃ n : Nat, a = n := ⟨a.toNat, by omega⟩
    have h1 := impl_node_ev b hl 12 (by omega) n 12 0 [] (by omega) (by simp)
    rw [Int.toNat_natCast]
    refine Ev.bind h1 fun y hy => ?_
    have hy : QNode b [] Tr.flat (rNode 12 0 12 0 (b.drop n)) y := hy
    cases hr : rNode 12 0 12 0 (b.drop n) with
    | error e =>
      rw [hr] at hy
      obtain ⟨h0, _, _, h3⟩ := hy
      exact Ev.pos (by simp [h3, h0]) (Ev.ret (by simp [h3]))
    | ok x =>
      obtain ⟨t, s⟩ := x
      rw [hr] at hy
      obtain ⟨q, hq, rfl, _, rfl⟩ := hy
      refine Ev.neg (by simp) (Ev.ret ?_)
      simp only [List.nil_append, List.length_drop, Prod.mk.injEq, true_and, and_true]
      omega
  · rw [if_neg h]
    exact Ev.pos (by simp; omega) (Ev.ret rfl)
theorem spec_TreeRead_ev (b : Bs) (a : Int) (hl : b.length ≤ 274877906944) : Ev (fun k => spec_TreeRead k b a) (· = treeRead b a) := by
  simp only [spec_TreeRead]
  unfold treeRead
  by_cases h : 0 ≤ a ∧ a < (b.length : Int)
  · rw [if_pos h]
    refine Ev.neg (dfalse (by omega)) (Ev.neg (dfalse (by omega)) ?_)
    obtain ⟨n, rfl⟩ : ∃ n : Nat, a = n := ⟨a.toNat, by omega⟩
    have h1 := spec_l4Read_ev b hl 12 (by omega) n 12 0 [] (by omega) (by simp)
    rw [Int.toNat_natCast]
    refine Ev.bind h1 fun y hy => ?_
    have hy : PNode b [] Tr.flat (rNode 12 0 12 0 (b.drop n)) y := hy
    cases hr : rNode 12 0 12 0 (b.drop n) with
    | error e =>
      rw [hr] at hy
      obtain ⟨h0, h3⟩ := hy
      exact Ev.pos (by simp [h3, h0]) (Ev.ret (by simp [h3]))
    | ok x =>
      obtain ⟨t, s⟩ := x
      rw [hr] at hy
      obtain ⟨q, hq, rfl, _, rfl⟩ := hy
      refine Ev.neg (by simp) (Ev.ret ?_)
      simp only [List.nil_append, List.length_drop, Prod.mk.injEq, and_true]
      omega
  · rw [if_neg h]
    by_cases h0 : a < 0
    · exact Ev.pos (dtrue h0) (Ev.ret rfl)
    · exact Ev.neg (dfalse h0) (Ev.pos (dtrue (by omega)) (Ev.ret rfl))
end Go.Proofs.Ytpggmokeohleiaa

/- Plain: trees of fields: right ones, their lists of nodes, their bytes. -/
namespace Go.V
open Go

def Tr.kind : Tr → Int | .mk k _ _ _ _ => k
def Tr.id : Tr → Int | .mk _ i _ _ _ => i
def Tr.num : Tr → Int | .mk _ _ n _ _ => n
def Tr.text : Tr → List UInt8 | .mk _ _ _ t _ => t
def Tr.kids : Tr → List Tr | .mk _ _ _ _ ks => ks

def i64B (n : Int) : Bool := decide (-9223372036854775808 ≤ n ∧ n ≤ 9223372036854775807)
/-- What a node has by its type, but its parts. -/
def plainB (x : Nd) : Bool :=
  if x.1 = 5 then int32B x.2.2.1 && x.2.2.2.1 == [] && x.2.2.2.2 == 0
  else if x.1 = 6 then i64B x.2.2.1 && x.2.2.2.1 == [] && x.2.2.2.2 == 0
  else if x.1 = 8 then x.2.2.1 == 0 && decide (x.2.2.2.1.length ≤ 300) && x.2.2.2.2 == 0
  else if x.1 = 9 then x.2.2.2.1 == [] && decide (0 ≤ x.2.2.2.2) && (x.2.2.2.2 == 0 && x.2.2.1 == 0 || decide (0 < x.2.2.2.2) && isKind x.2.2.1 true)
  else if x.1 = 12 then x.2.2.1 == 0 && x.2.2.2.1 == [] && decide (0 ≤ x.2.2.2.2)
  else decide (x.1 = 1 ∨ x.1 = 2) && x.2.2.1 == 0 && x.2.2.2.1 == [] && x.2.2.2.2 == 0

/-- May x be a part of a node of this type (of these parts), behind an Id? -/
def partB (kind num last : Int) (x : Nd) : Bool :=
  if kind = 9 then x.1 == num && x.2.1 == 0
  else if kind = 12 then decide (last < x.2.1 ∧ x.2.1 ≤ 1000)
  else true

/-- Some parts at the head of a list of nodes. -/
def pKids (p : List Nd → Option (Tr × List Nd)) (kind num : Int) : Nat → Int → List Nd → Option (List Tr × List Nd)
  | 0, _, L => some ([], L)
  | m + 1, last, L => match L with
    | [] => none
    | x :: _ => if partB kind num last x then match p L with
        | none => none
        | some (t, L') => match pKids p kind num m x.2.1 L' with
          | none => none
          | some (ts, L'') => some (t :: ts, L'')
      else none
/-- A right tree at the head of a list of nodes, at most d deep. -/
def pTree : Nat → List Nd → Option (Tr × List Nd)
  | 0, _ => none
  | _ + 1, [] => none
  | d + 1, x :: L => if plainB x then match pKids (pTree d) x.1 x.2.2.1 x.2.2.2.2.toNat 0 L with
      | none => none
      | some (ts, L') => some (.mk x.1 x.2.1 x.2.2.1 x.2.2.2.1 ts, L')
    else none

theorem pKids_len {p : List Nd → Option (Tr × List Nd)} {kind num : Int} : ∀ {m : Nat} {last : Int} {L : List Nd} {ts : List Tr} {L' : List Nd}, pKids p kind num m last L = some (ts, L') → ts.length = m
  | 0, _, _, _, _, h => by simp only [pKids, Option.some.injEq, Prod.mk.injEq] at h; rw [← h.1]; rfl
  | m + 1, last, L, ts, L', h => by
    simp only [pKids] at h
    split at h
    · cases h
    · split at h
      · split at h
        · cases h
        · split at h
          · cases h
          · rename_i h1
            simp only [Option.some.injEq, Prod.mk.injEq] at h
            rw [← h.1, List.length_cons, pKids_len h1]
      · cases h
theorem pKids_flat {p : List Nd → Option (Tr × List Nd)} (hp : ∀ L t L', p L = some (t, L') → L = t.flat ++ L') {kind num : Int} : ∀ {m : Nat} {last : Int} {L : List Nd} {ts : List Tr} {L' : List Nd}, pKids p kind num m last L = some (ts, L') → L = flats ts ++ L'
  | 0, _, _, _, _, h => by simp only [pKids, Option.some.injEq, Prod.mk.injEq] at h; rw [← h.1, ← h.2]; rfl
  | m + 1, last, L, ts, L', h => by
    simp only [pKids] at h
    split at h
    · cases h
    · rename_i x r
      split at h
      · split at h
        · cases h
        · rename_i t L1 h1
          split at h
          · cases h
          · rename_i ts1 L2 h2
            simp only [Option.some.injEq, Prod.mk.injEq] at h
            rw [hp _ _ _ h1, pKids_flat hp h2, ← h.1, ← h.2]
            simp [flats]
      · cases h
theorem pTree_flat : ∀ (d : Nat) (L : List Nd) (t : Tr) (L' : List Nd), pTree d L = some (t, L') → L = t.flat ++ L'
  | 0, _, _, _, h => by simp [pTree] at h
  | _ + 1, [], _, _, h => by simp [pTree] at h
  | d + 1, x :: L, t, L', h => by
    simp only [pTree] at h
    split at h
    · rename_i hpl
      split at h
      · cases h
      · rename_i ts L1 h1
        simp only [Option.some.injEq, Prod.mk.injEq] at h
        have h2 := pKids_len h1
        have h3 := pKids_flat (pTree_flat d) h1
        obtain ⟨x1, x2, x3, x4, x5⟩ := x
        rw [← h.1, ← h.2, h3]
        simp only [Tr.flat, List.cons_append, h2]
        have : 0 ≤ x5 := by
          unfold plainB at hpl
          simp only at hpl
          repeat' split at hpl
          all_goals simp at hpl
          all_goals omega
        simp only at h2 ⊢
        rw [Int.toNat_of_nonneg this]
    · cases h

/-! ### Right trees -/
mutual
/-- A right tree, at most d deep. -/
inductive Ok : Nat → Tr → Prop
  | mk {d : Nat} {kind id num : Int} {text : List UInt8} {kids : List Tr} : plainB (kind, id, num, text, (kids.length : Int)) = true → OkKids d kind num 0 kids → Ok (d + 1) (.mk kind id num text kids)
inductive OkKids : Nat → Int → Int → Int → List Tr → Prop
  | nil {d : Nat} {kind num last : Int} : OkKids d kind num last []
  | cons {d : Nat} {kind num last : Int} {t : Tr} {ts : List Tr} : (kind = 9 → t.kind = num ∧ t.id = 0) → (kind = 12 → last < t.id ∧ t.id ≤ 1000) → Ok d t → OkKids d kind num t.id ts → OkKids d kind num last (t :: ts)
end

theorem Tr.flat_head (t : Tr) : ∃ r, t.flat = (t.kind, t.id, t.num, t.text, (t.kids.length : Int)) :: r := by
  cases t; exact ⟨_, rfl⟩
theorem partB_iff (kind num last : Int) (t : Tr) (r : Nd) (h : r.1 = t.kind ∧ r.2.1 = t.id) : partB kind num last r = true ↔ (kind = 9 → t.kind = num ∧ t.id = 0) ∧ (kind = 12 → last < t.id ∧ t.id ≤ 1000) := by
  unfold partB
  rw [h.1, h.2]
  by_cases h9 : kind = 9
  · subst h9; simp
  · by_cases h12 : kind = 12
    · subst h12; simp
    · simp [h9, h12]

mutual
theorem pTree_of : ∀ {d : Nat} {t : Tr}, Ok d t → ∀ L', pTree d (t.flat ++ L') = some (t, L')
  | _, .mk kind id num text kids, .mk (d := d) h1 h2, L' => by
    simp only [Tr.flat, List.cons_append, pTree, h1, if_true, Int.toNat_natCast]
    rw [pKids_of h2 L']
theorem pKids_of : ∀ {d : Nat} {kind num last : Int} {ts : List Tr}, OkKids d kind num last ts → ∀ L', pKids (pTree d) kind num ts.length last (flats ts ++ L') = some (ts, L')
  | _, _, _, _, [], .nil, L' => by simp [pKids, flats]
  | d, kind, num, last, t :: ts, .cons h1 h2 h3 h4, L' => by
    obtain ⟨r, hr⟩ := t.flat_head
    have hp := pTree_of h3 (flats ts ++ L')
    have hk := pKids_of h4 L'
    simp only [List.length_cons, pKids, flats, List.append_assoc]
    split
    · rename_i h
      rw [hr] at h; simp at h
    · rename_i x r' h
      have hx : x = (t.kind, t.id, t.num, t.text, (t.kids.length : Int)) := by
        rw [hr] at h
        simp only [List.cons_append, List.cons.injEq] at h
        exact h.1.symm
      rw [if_pos ((partB_iff kind num last t x (by rw [hx]; exact ⟨rfl, rfl⟩)).2 ⟨h1, h2⟩), hp]
      simp only
      rw [hx]
      simp only
      rw [hk]
end
mutual
theorem ok_of_pTree : ∀ (d : Nat) (L : List Nd) (t : Tr) (L' : List Nd), pTree d L = some (t, L') → Ok d t
  | 0, _, _, _, h => by simp [pTree] at h
  | _ + 1, [], _, _, h => by simp [pTree] at h
  | d + 1, x :: L, t, L', h => by
    have hf := pTree_flat (d + 1) (x :: L) t L' h
    simp only [pTree] at h
    split at h
    · rename_i hpl
      split at h
      · cases h
      · rename_i ts L1 h1
        simp only [Option.some.injEq, Prod.mk.injEq] at h
        obtain ⟨rfl, rfl⟩ := h
        simp only [Tr.flat, List.cons_append, List.cons.injEq] at hf
        rw [hf.1] at hpl
        exact .mk hpl (ok_of_pKids d _ _ _ _ _ _ _ h1)
    · cases h
theorem ok_of_pKids : ∀ (d : Nat) (kind num : Int) (m : Nat) (last : Int) (L : List Nd) (ts : List Tr) (L' : List Nd), pKids (pTree d) kind num m last L = some (ts, L') → OkKids d kind num last ts
  | d, kind, num, 0, last, L, ts, L', h => by
    simp only [pKids, Option.some.injEq, Prod.mk.injEq] at h
    rw [← h.1]; exact .nil
  | d, kind, num, m + 1, last, L, ts, L', h => by
    simp only [pKids] at h
    split at h
    · cases h
    · rename_i x r
      split at h
      · rename_i hpb
        split at h
        · cases h
        · rename_i t L1 h1
          split at h
          · cases h
          · rename_i ts1 L2 h2
            simp only [Option.some.injEq, Prod.mk.injEq] at h
            obtain ⟨rfl, rfl⟩ := h
            have hfl := pTree_flat d _ _ _ h1
            obtain ⟨r2, hr2⟩ := t.flat_head
            rw [hr2, List.cons_append, List.cons.injEq] at hfl
            have hx := hfl.1
            obtain ⟨g1, g2⟩ := (partB_iff kind num last t x (by rw [hx]; exact ⟨rfl, rfl⟩)).1 hpb
            have := ok_of_pKids d kind num m x.2.1 L1 ts1 L2 h2
            rw [hx] at this
            exact .cons g1 g2 (ok_of_pTree d _ _ _ h1) this
      · cases h
end

theorem flats_len : ∀ ts : List Tr, ts.length ≤ (flats ts).length
  | [] => by simp
  | t :: ts => by
    have h1 := flats_len ts
    have h2 := t.flat_pos
    simp only [flats, List.length_append, List.length_cons]; omega

/-! ### Bytes -/
def headBytes (last kind id : Int) : List UInt8 :=
  if id - last ≤ 15 then [b8 (16 * (id - last) + kind)] else b8 kind :: zigPut id
def listHead (many num : Int) : List UInt8 :=
  if many ≤ 14 then [b8 (16 * many + num)] else b8 (240 + num) :: uvPut many.toNat
mutual
def Tr.enc : Tr → List UInt8
  | .mk kind _ num text kids =>
    if kind = 5 ∨ kind = 6 then zigPut num
    else if kind = 8 then uvPut text.length ++ text
    else if kind = 9 then listHead kids.length num ++ encs kids
    else if kind = 12 then encF 0 kids ++ [0]
    else []
def encs : List Tr → List UInt8
  | [] => []
  | t :: ts => t.enc ++ encs ts
def encF : Int → List Tr → List UInt8
  | _, [] => []
  | last, t :: ts => headBytes last t.kind t.id ++ t.enc ++ encF t.id ts
end
end Go.V

/- Plain: what is read is right, and no shorter than its own bytes; its bytes are read as it. -/
namespace Go.V
open Go

theorem kind_of_plain {x : Nd} (h : plainB x = true) : isKind x.1 false = true ∧ 1 ≤ x.1 ∧ x.1 ≤ 12 := by
  have h2 : x.1 = 5 ∨ x.1 = 6 ∨ x.1 = 8 ∨ x.1 = 9 ∨ x.1 = 12 ∨ x.1 = 1 ∨ x.1 = 2 := by
    unfold plainB at h
    split at h
    · omega
    split at h
    · omega
    split at h
    · omega
    split at h
    · omega
    split at h
    · omega
    simp at h; omega
  rcases h2 with h | h | h | h | h | h | h <;> rw [h] <;> decide
theorem kind_cases {k : Int} (h : isKind k false = true) : k = 5 ∨ k = 6 ∨ k = 8 ∨ k = 9 ∨ k = 12 ∨ k = 1 ∨ k = 2 := by
  unfold isKind at h
  split at h
  · omega
  · simp at h; omega
theorem item_cases {k : Int} (h : isKind k true = true) : k = 5 ∨ k = 6 ∨ k = 8 ∨ k = 9 ∨ k = 12 := by
  unfold isKind at h
  split at h
  · simp at h
  · simp at h; omega
theorem item_kind {k : Int} (h : isKind k true = true) : isKind k false = true := by
  rcases item_cases h with h | h | h | h | h <;> rw [h] <;> decide

/-- Of a varint at the head: how long its own writing is. -/
theorem uvn_len {s : List UInt8} {u k : Nat} (h : uvn s 0 0 = some (u, k)) : (uvPut u).length ≤ k ∧ u < 2 ^ 64 ∧ k ≤ s.length := by
  obtain ⟨v, h1, h2⟩ := uvn_min h
  have : u = v := by simpa using h1
  subst this
  exact ⟨h2, uvn_lt h (by omega) (by simp), (uvn_le h).2⟩
theorem zig_len {s : List UInt8} {u k : Nat} (h : uvn s 0 0 = some (u, k)) : (zigPut (zag (w64 u))).length ≤ k := by
  obtain ⟨h1, h2, _⟩ := uvn_len h
  unfold zigPut
  rw [zigN_zag h2]; exact h1

theorem rText_ok {s t s' : List UInt8} (h : rText s = .ok (t, s')) : t.length ≤ 300 ∧ (uvPut t.length ++ t).length + s'.length ≤ s.length := by
  unfold rText at h
  split at h
  · cases h
  · rename_i u k hu
    obtain ⟨h1, h2, h3⟩ := uvn_len hu
    split at h
    · cases h
    · rename_i hb
      split at h
      · cases h
      · rename_i hlt
        simp only [Except.ok.injEq, Prod.mk.injEq] at h
        have h64 : (2 : Nat) ^ 64 = 18446744073709551616 := by decide
        have hw : w64 u = u := by
          rw [w64_eq] at hb ⊢
          omega
        rw [hw] at h hlt hb
        simp only [List.length_drop] at hlt
        have hl : t.length = u := by rw [← h.1]; simp; omega
        refine ⟨by omega, ?_⟩
        rw [hl, List.length_append, hl, ← h.2]
        simp only [List.length_drop, Int.toNat_natCast]
        omega
theorem rHead_ok {s s' : List UInt8} {m : Nat} {item : Int} (h : rHead s = .ok ((m, item), s')) : m ≤ 1500 ∧ (m = 0 ∧ item = 0 ∨ 0 < m ∧ isKind item true = true) ∧ (listHead m item).length + s'.length ≤ s.length := by
  unfold rHead at h
  split at h
  · cases h
  · rename_i c t
    have hc := c.toNat_lt
    have fin : ∀ (many : Int) (t' : List UInt8), t'.length ≤ t.length → (14 < many → many ≤ 1500 → (uvPut many.toNat).length + t'.length ≤ t.length) →
        (if many = 0 then Except.ok ((0, 0), t') else if isKind ((c.toNat % 16 : Nat) : Int) true = false then Except.error 2 else if many < 0 ∨ many > 1500 then Except.error 4 else Except.ok ((many.toNat, ((c.toNat % 16 : Nat) : Int)), t') : Except Int ((Nat × Int) × List UInt8)) = .ok ((m, item), s') →
        m ≤ 1500 ∧ (m = 0 ∧ item = 0 ∨ 0 < m ∧ isKind item true = true) ∧ (listHead m item).length + s'.length ≤ (c :: t).length := by
      intro many t' ht hmany h
      split at h
      · simp only [Except.ok.injEq, Prod.mk.injEq] at h
        obtain ⟨⟨rfl, rfl⟩, rfl⟩ := h
        refine ⟨by omega, .inl ⟨rfl, rfl⟩, ?_⟩
        unfold listHead
        rw [if_pos (by omega)]
        simp only [List.length_cons, List.length_nil]
        omega
      · split at h
        · cases h
        · rename_i hk
          split at h
          · cases h
          · simp only [Except.ok.injEq, Prod.mk.injEq] at h
            obtain ⟨⟨rfl, rfl⟩, rfl⟩ := h
            refine ⟨by omega, .inr ⟨by omega, by simpa using hk⟩, ?_⟩
            unfold listHead
            split
            · simp only [List.length_cons, List.length_nil]; omega
            · have := hmany (by omega) (by omega)
              rw [Int.toNat_natCast]
              simp only [List.length_cons]; omega
    by_cases h15 : c.toNat / 16 = 15
    · rw [if_pos h15] at h
      cases hu : uvn t 0 0 with
      | none => rw [hu] at h; cases h
      | some x =>
        obtain ⟨u, k⟩ := x
        rw [hu] at h
        obtain ⟨h1, h2, h3⟩ := uvn_len hu
        refine fin (w64 u) (t.drop k) (by simp) (fun h4 h5 => ?_) h
        have h64 : (2 : Nat) ^ 64 = 18446744073709551616 := by decide
        have hw : w64 u = u := by
          rw [w64_eq] at h4 h5 ⊢
          omega
        rw [hw, Int.toNat_natCast, List.length_drop]
        omega
    · rw [if_neg h15] at h
      exact fin _ t (Nat.le_refl _) (fun h4 _ => by omega) h
theorem rPart_ok {last : Int} {s s' : List UInt8} {kind id : Int} (h : rPart last s = .ok (some (kind, id), s')) : isKind kind false = true ∧ 1 ≤ id ∧ id ≤ 1000 ∧ last < id ∧ (headBytes last kind id).length + s'.length ≤ s.length := by
  unfold rPart at h
  split at h
  · cases h
  · rename_i c t
    have hc := c.toNat_lt
    split at h
    · cases h
    · split at h
      · cases h
      · rename_i hk
        have fin : ∀ (i : Int) (t' : List UInt8), t'.length ≤ t.length → (15 < i - last → (zigPut i).length + t'.length ≤ t.length) →
            (if i < 1 ∨ i > 1000 then Except.error 3 else if i ≤ last then Except.error 5 else Except.ok (some (((c.toNat % 16 : Nat) : Int), i), t') : Except Int (Option (Int × Int) × List UInt8)) = .ok (some (kind, id), s') →
            isKind kind false = true ∧ 1 ≤ id ∧ id ≤ 1000 ∧ last < id ∧ (headBytes last kind id).length + s'.length ≤ (c :: t).length := by
          intro i t' ht hi h
          split at h
          · cases h
          · split at h
            · cases h
            · simp only [Except.ok.injEq, Prod.mk.injEq, Option.some.injEq] at h
              obtain ⟨⟨rfl, rfl⟩, rfl⟩ := h
              refine ⟨by simpa using hk, by omega, by omega, by omega, ?_⟩
              unfold headBytes
              split
              · simp only [List.length_cons, List.length_nil]; omega
              · have := hi (by omega)
                simp only [List.length_cons]; omega
        by_cases h0 : c.toNat / 16 = 0
        · rw [if_pos h0] at h
          cases hu : uvn t 0 0 with
          | none => rw [hu] at h; cases h
          | some x =>
            obtain ⟨u, k⟩ := x
            rw [hu] at h
            have h1 := zig_len hu
            have h3 := (uvn_le hu).2
            exact fin _ (t.drop k) (by simp) (fun _ => by rw [List.length_drop]; omega) h
        · rw [if_neg h0] at h
          exact fin _ t (Nat.le_refl _) (fun h4 => by omega) h
theorem rPart_end {last : Int} {s s' : List UInt8} (h : rPart last s = .ok (none, s')) : s'.length + 1 = s.length := by
  unfold rPart at h
  split at h
  · cases h
  · rename_i c t
    split at h
    · cases h; simp
    · split at h
      · cases h
      · split at h
        · cases h
        · split at h
          · cases h
          · split at h
            · cases h
            · cases h

/-- What is read is right, and its own bytes are no more than were read. -/
def Fine (d : Nat) (kind id : Int) (s : List UInt8) : Except Int (Tr × List UInt8) → Prop
  | .error _ => True
  | .ok (t, s') => t.kind = kind ∧ t.id = id ∧ Ok d t ∧ t.enc.length + s'.length ≤ s.length

theorem rKids_fine {d : Nat} {item : Int} (h : ∀ n s, Fine d item 0 s (rNode d n item 0 s)) : ∀ (m n : Nat) (last : Int) (s : List UInt8) (ts : List Tr) (s' : List UInt8), rKids (fun n s => rNode d n item 0 s) m n s = .ok (ts, s') → OkKids d 9 item last ts ∧ (encs ts).length + s'.length ≤ s.length
  | 0, n, last, s, ts, s', he => by
    simp only [rKids, Except.ok.injEq, Prod.mk.injEq] at he
    rw [← he.1, ← he.2]
    exact ⟨.nil, by simp [encs]⟩
  | m + 1, n, last, s, ts, s', he => by
    have h1 := h n s
    simp only [rKids] at he
    split at he
    · cases he
    · rename_i t s1 ht
      rw [ht] at h1
      obtain ⟨h2, h3, h4, h5⟩ := h1
      split at he
      · cases he
      · rename_i ts1 s2 hts
        simp only [Except.ok.injEq, Prod.mk.injEq] at he
        obtain ⟨rfl, rfl⟩ := he
        obtain ⟨h6, h7⟩ := rKids_fine h m _ t.id s1 ts1 s2 hts
        refine ⟨.cons (fun _ => ⟨h2, h3⟩) (fun h => by omega) h4 h6, ?_⟩
        simp only [encs, List.length_append]; omega
theorem rFields_fine {d : Nat} (h : ∀ kind id n s, isKind kind false = true → Fine d kind id s (rNode d n kind id s)) : ∀ (f : Nat) (last : Int) (n : Nat) (s : List UInt8) (ts : List Tr) (s' : List UInt8), rFields (fun kind id n s => rNode d n kind id s) f last n s = .ok (ts, s') →
    OkKids d 12 0 last ts ∧ (encF last ts ++ [0]).length + s'.length ≤ s.length
  | 0, _, _, _, _, _, he => by simp [rFields] at he
  | f + 1, last, n, s, ts, s', he => by
    simp only [rFields] at he
    split at he
    · cases he
    · rename_i s1 hp
      simp only [Except.ok.injEq, Prod.mk.injEq] at he
      obtain ⟨rfl, rfl⟩ := he
      have := rPart_end hp
      exact ⟨.nil, by simp [encF]; omega⟩
    · rename_i kind id s1 hp
      obtain ⟨g1, g2, g3, g4, g5⟩ := rPart_ok hp
      have h1 := h kind id n s1 g1
      split at he
      · cases he
      · rename_i t s2 ht
        rw [ht] at h1
        obtain ⟨h2, h3, h4, h5⟩ := h1
        split at he
        · cases he
        · rename_i ts1 s3 hts
          simp only [Except.ok.injEq, Prod.mk.injEq] at he
          obtain ⟨rfl, rfl⟩ := he
          obtain ⟨h6, h7⟩ := rFields_fine h f id _ s2 ts1 s3 hts
          rw [← h3] at h6 h7 g5 g3 g4
          rw [← h2] at g5
          refine ⟨.cons (fun h => by omega) (fun _ => ⟨g4, g3⟩) h4 h6, ?_⟩
          simp only [encF, List.length_append] at h7 ⊢
          omega
theorem rNode_fine : ∀ (d n : Nat) (kind id : Int) (s : List UInt8), isKind kind false = true → Fine d kind id s (rNode d n kind id s)
  | 0, _, _, _, _, _ => by simp [rNode, Fine]
  | d + 1, n, kind, id, s, hk => by
    simp only [rNode]
    split
    · trivial
    · split
      · rename_i h56
        split
        · trivial
        · rename_i u k hu
          have h1 := zig_len hu
          have h3 := (uvn_le hu).2
          split
          · trivial
          · rename_i h5
            refine ⟨rfl, rfl, .mk ?_ .nil, ?_⟩
            · unfold plainB
              by_cases hk5 : kind = 5
              · simp [hk5] at h5 ⊢; exact h5
              · have : kind = 6 := by omega
                have hb := zag_bd (w64 u)
                simp [this, i64B, hb]
            · simp only [Tr.enc]
              rw [if_pos h56, List.length_drop]
              omega
      · rename_i h56
        split
        · rename_i h8
          subst h8
          split
          · trivial
          · rename_i t s1 ht
            obtain ⟨g1, g2⟩ := rText_ok ht
            refine ⟨rfl, rfl, .mk ?_ .nil, ?_⟩
            · unfold plainB
              simp [g1]
            · simp only [Tr.enc]
              rw [if_neg h56, if_pos trivial]
              exact g2
        · rename_i h8
          split
          · rename_i h9
            subst h9
            split
            · trivial
            · rename_i many item s1 hh
              obtain ⟨g1, g2, g3⟩ := rHead_ok hh
              split
              · trivial
              · rename_i ts s2 hts
                have hlen := rKids_len (rd := fun n s => rNode d n item 0 s) many (n + 1) s1
                rw [hts] at hlen
                have hlen : ts.length = many := hlen
                have key : OkKids d 9 item 0 ts ∧ (encs ts).length + s2.length ≤ s1.length := by
                  rcases g2 with ⟨rfl, rfl⟩ | ⟨_, g2⟩
                  · have : ts = [] := List.eq_nil_of_length_eq_zero hlen
                    subst this
                    simp only [rKids, Except.ok.injEq, Prod.mk.injEq] at hts
                    exact ⟨.nil, by rw [← hts.2]; simp [encs]⟩
                  · exact rKids_fine (fun n s => rNode_fine d n item 0 s (item_kind g2)) many _ 0 s1 ts s2 hts
                refine ⟨rfl, rfl, .mk ?_ key.1, ?_⟩
                · unfold plainB
                  rw [hlen]
                  rcases g2 with ⟨rfl, rfl⟩ | ⟨g4, g5⟩
                  · simp
                  · simp [g5, g4]
                · simp only [Tr.enc]
                  rw [if_neg h56, if_neg h8, if_pos trivial, hlen, List.length_append]
                  have := key.2
                  omega
          · rename_i h9
            split
            · rename_i h12
              subst h12
              split
              · trivial
              · rename_i ts s2 hts
                obtain ⟨g1, g2⟩ := rFields_fine (fun k i n s hk => rNode_fine d n k i s hk) _ _ _ _ _ _ hts
                refine ⟨rfl, rfl, .mk ?_ g1, ?_⟩
                · unfold plainB; simp
                · simp only [Tr.enc]
                  rw [if_neg h56, if_neg h8, if_neg h9, if_pos trivial]
                  exact g2
            · rename_i h12
              refine ⟨rfl, rfl, .mk ?_ .nil, ?_⟩
              · have := kind_cases hk
                unfold plainB
                rw [if_neg (by simp only; omega), if_neg (by simp only; omega), if_neg (by simp only; omega), if_neg (by simp only; omega), if_neg (by simp only; omega)]
                simp; omega
              · simp only [Tr.enc]
                rw [if_neg h56, if_neg h8, if_neg h9, if_neg h12]
                simp
end Go.V

/- Plain: a right tree's bytes are read as it; of fewer bytes than were read there is an end. -/
namespace Go.V
open Go

/-! ### Read again -/
theorem b8_toNat {n : Int} (h : 0 ≤ n ∧ n ≤ 255) : (b8 n).toNat = n.toNat := by
  simp only [b8]
  rw [UInt8.toNat_ofNat']; omega

theorem w64_small {n : Nat} (h : n ≤ 9223372036854775807) : w64 (n : Int) = n := w64_id (by omega)

theorem uv_zig {x : Int} (h : -9223372036854775808 ≤ x ∧ x ≤ 9223372036854775807) (s : List UInt8) : uvn (zigPut x ++ s) 0 0 = some (zigN x, (zigPut x).length) := uvn_uvPut (zigN_lt x) s

theorem rText_put {t : List UInt8} (h : t.length ≤ 300) (s : List UInt8) : rText (uvPut t.length ++ t ++ s) = .ok (t, s) := by
  unfold rText
  have h64 : (2 : Nat) ^ 64 = 18446744073709551616 := by decide
  rw [List.append_assoc, uvn_uvPut (by omega)]
  simp only [List.drop_left, w64_small (show t.length ≤ 9223372036854775807 by omega)]
  rw [if_neg (by omega), if_neg (by simp; omega)]
  simp

theorem rHead_put {m : Nat} {item : Int} (hm : m ≤ 1500) (h : m = 0 ∧ item = 0 ∨ 0 < m ∧ isKind item true = true) (s : List UInt8) : rHead (listHead m item ++ s) = .ok ((m, item), s) := by
  have hi : 0 ≤ item ∧ item ≤ 12 := by
    rcases h with ⟨_, rfl⟩ | ⟨_, h⟩
    · omega
    · have := item_cases h; omega
  unfold listHead
  split
  · rename_i h14
    have e := b8_toNat (n := 16 * (m : Int) + item) (by omega)
    simp only [List.cons_append, List.nil_append, rHead, e]
    have e1 : (16 * (m : Int) + item).toNat / 16 = m := by omega
    have e2 : (((16 * (m : Int) + item).toNat % 16 : Nat) : Int) = item := by omega
    rw [e1, e2, if_neg (by omega)]
    simp only
    rcases h with ⟨rfl, rfl⟩ | ⟨h0, hk⟩
    · simp
    · rw [if_neg (by omega), if_neg (by simp [hk]), if_neg (by omega)]
      simp
  · rename_i h14
    have e := b8_toNat (n := 240 + item) (by omega)
    simp only [List.cons_append, rHead, e]
    have e1 : (240 + item).toNat / 16 = 15 := by omega
    have e2 : (((240 + item).toNat % 16 : Nat) : Int) = item := by omega
    have h64 : (2 : Nat) ^ 64 = 18446744073709551616 := by decide
    rw [e1, e2, if_pos rfl, uvn_uvPut (by simp; omega)]
    simp only [List.drop_left, Int.toNat_natCast, w64_small (show m ≤ 9223372036854775807 by omega)]
    rcases h with ⟨rfl, rfl⟩ | ⟨h0, hk⟩
    · omega
    · rw [if_neg (by omega), if_neg (by simp [hk]), if_neg (by omega)]

theorem rPart_put {last kind id : Int} (hk : isKind kind false = true) (hl : 0 ≤ last) (h1 : last < id) (h2 : id ≤ 1000) (s : List UInt8) : rPart last (headBytes last kind id ++ s) = .ok (some (kind, id), s) := by
  have hkk : 1 ≤ kind ∧ kind ≤ 12 := by have := kind_cases hk; omega
  unfold headBytes
  split
  · have e := b8_toNat (n := 16 * (id - last) + kind) (by omega)
    simp only [List.cons_append, List.nil_append, rPart, e]
    have e1 : (16 * (id - last) + kind).toNat / 16 = (id - last).toNat := by omega
    have e2 : (((16 * (id - last) + kind).toNat % 16 : Nat) : Int) = kind := by omega
    rw [e1, e2, if_neg (by omega), if_neg (by simp [hk]), if_neg (by omega)]
    simp only
    rw [show last + (((id - last).toNat : Nat) : Int) = id by omega, if_neg (by omega), if_neg (by omega)]
  · have e := b8_toNat (n := kind) (by omega)
    simp only [List.cons_append, rPart, e]
    have e1 : kind.toNat / 16 = 0 := by omega
    have e2 : ((kind.toNat % 16 : Nat) : Int) = kind := by omega
    rw [e1, e2, if_neg (by omega), if_neg (by simp [hk]), if_pos rfl, uv_zig (by omega)]
    simp only [List.drop_left]
    rw [zag_zigN (by omega), if_neg (by omega), if_neg (by omega)]
theorem rPart_zero (last : Int) (s : List UInt8) : rPart last (0 :: s) = .ok (none, s) := by
  simp [rPart]

theorem headBytes_pos (last kind id : Int) : 0 < (headBytes last kind id).length := by
  unfold headBytes
  split <;> simp
theorem encF_len : ∀ (last : Int) (ts : List Tr), ts.length ≤ (encF last ts).length
  | _, [] => by simp
  | last, t :: ts => by
    have h1 := encF_len t.id ts
    have h2 := headBytes_pos last t.kind t.id
    simp only [encF, List.length_append, List.length_cons]; omega

theorem rKids_again {d : Nat} (h : ∀ (t : Tr) (n : Nat) (s : List UInt8), Ok d t → n + t.flat.length ≤ 1500 → rNode d n t.kind t.id (t.enc ++ s) = .ok (t, s)) (num : Int) :
    ∀ (ts : List Tr) (last : Int) (n : Nat) (s : List UInt8), OkKids d 9 num last ts → n + (flats ts).length ≤ 1500 → rKids (fun n s => rNode d n num 0 s) ts.length n (encs ts ++ s) = .ok (ts, s)
  | [], _, _, _, _, _ => by simp [rKids, encs]
  | t :: ts, last, n, s, .cons h1 _ h3 h4, hn => by
    obtain ⟨g1, g2⟩ := h1 rfl
    simp only [flats, List.length_append] at hn
    have hh := h t n (encs ts ++ s) h3 (by omega)
    rw [g1, g2] at hh
    simp only [List.length_cons, rKids, encs, List.append_assoc, hh]
    rw [rKids_again h num ts t.id (n + t.flat.length) s h4 (by omega)]
theorem rFields_again {d : Nat} (h : ∀ (t : Tr) (n : Nat) (s : List UInt8), Ok d t → n + t.flat.length ≤ 1500 → rNode d n t.kind t.id (t.enc ++ s) = .ok (t, s)) :
    ∀ (ts : List Tr) (f : Nat) (last num : Int) (n : Nat) (s : List UInt8), OkKids d 12 num last ts → 0 ≤ last → ts.length < f → n + (flats ts).length ≤ 1500 → rFields (fun kind id n s => rNode d n kind id s) f last n (encF last ts ++ 0 :: s) = .ok (ts, s)
  | [], f, last, num, n, s, _, _, hf, _ => by
    obtain ⟨f, rfl⟩ : ∃ q, f = q + 1 := ⟨f - 1, by simp at hf; omega⟩
    simp [rFields, encF, rPart_zero]
  | t :: ts, f, last, num, n, s, .cons _ h2 h3 h4, hl, hf, hn => by
    obtain ⟨f, rfl⟩ : ∃ q, f = q + 1 := ⟨f - 1, by simp at hf; omega⟩
    obtain ⟨g1, g2⟩ := h2 rfl
    simp only [flats, List.length_append] at hn
    have hk : isKind t.kind false = true := by
      cases h3 with
      | mk hp _ => exact (kind_of_plain hp).1
    have hh := h t n (encF t.id ts ++ 0 :: s) h3 (by omega)
    simp only [rFields, encF, List.append_assoc, rPart_put hk hl g1 g2, hh]
    rw [rFields_again h ts f t.id num (n + t.flat.length) s h4 (by omega) (by simp at hf; omega) (by omega)]

theorem rNode_again : ∀ (d : Nat) (t : Tr) (n : Nat) (s : List UInt8), Ok d t → n + t.flat.length ≤ 1500 → rNode d n t.kind t.id (t.enc ++ s) = .ok (t, s)
  | 0, _, _, _, h, _ => by cases h
  | d + 1, .mk kind id num text kids, n, s, .mk hp hk, hn => by
    simp only [Tr.kind, Tr.id, Tr.flat, List.length_cons] at hn ⊢
    simp only [rNode]
    rw [if_neg (by omega)]
    have hp' := hp
    unfold plainB at hp'
    simp only at hp'
    by_cases h56 : kind = 5 ∨ kind = 6
    · rw [if_pos h56]
      have hnil : text = [] ∧ kids = [] ∧ (kind = 5 → int32B num = true) ∧ (-9223372036854775808 ≤ num ∧ num ≤ 9223372036854775807) := by
        rcases h56 with rfl | rfl
        · simp at hp'
          refine ⟨hp'.1.2, hp'.2, fun _ => hp'.1.1, ?_⟩
          have := hp'.1.1
          simp only [int32B, decide_eq_true_eq] at this
          omega
        · simp [i64B] at hp'
          exact ⟨hp'.1.2, hp'.2, fun h => by omega, hp'.1.1⟩
      obtain ⟨rfl, rfl, h5, hb⟩ := hnil
      simp only [Tr.enc]
      rw [if_pos h56, uv_zig hb]
      simp only [List.drop_left, zag_zigN hb]
      rw [if_neg]
      rintro ⟨h, h2⟩
      rw [h5 h] at h2
      cases h2
    · rw [if_neg h56]
      by_cases h8 : kind = 8
      · subst h8
        simp at hp'
        obtain ⟨⟨rfl, h1⟩, rfl⟩ := hp'
        rw [if_pos rfl]
        simp only [Tr.enc]
        rw [if_neg h56, if_pos trivial, rText_put h1]
      · rw [if_neg h8]
        by_cases h9 : kind = 9
        · subst h9
          simp at hp'
          obtain ⟨rfl, h1⟩ := hp'
          rw [if_pos rfl]
          simp only [Tr.enc]
          rw [if_neg h56, if_neg h8, if_pos trivial, List.append_assoc, rHead_put (by
            have : kids.length ≤ (flats kids).length := flats_len kids
            omega) (by
            rcases h1 with ⟨h1, h2⟩ | ⟨h1, h2⟩
            · left; exact ⟨by simp [h1], h2⟩
            · right; exact ⟨h1, h2⟩)]
          simp only
          rw [rKids_again (rNode_again d) num kids 0 (n + 1) s hk (by omega)]
        · rw [if_neg h9]
          by_cases h12 : kind = 12
          · subst h12
            simp at hp'
            obtain ⟨rfl, rfl⟩ := hp'
            rw [if_pos rfl]
            simp only [Tr.enc]
            rw [if_neg h56, if_neg h8, if_neg h9, if_pos trivial, List.append_assoc, List.singleton_append]
            have hl := encF_len 0 kids
            rw [rFields_again (rNode_again d) kids _ 0 0 (n + 1) s hk (by omega) (by simp; omega) (by omega)]
          · rw [if_neg h12]
            rw [if_neg (by omega), if_neg (by omega), if_neg h8, if_neg h9, if_neg h12] at hp'
            simp at hp'
            obtain ⟨⟨⟨_, rfl⟩, rfl⟩, rfl⟩ := hp'
            simp only [Tr.enc]
            rw [if_neg h56, if_neg h8, if_neg h9, if_neg h12]
            rfl

/-! ### How long -/
theorem headBytes_len (last kind id : Int) : (headBytes last kind id).length ≤ 11 := by
  unfold headBytes
  split
  · simp
  · have := zigPut_len id
    simp only [List.length_cons]; omega
theorem listHead_len {m : Nat} (h : m < 2 ^ 64) (num : Int) : (listHead m num).length ≤ 11 := by
  unfold listHead
  split
  · simp
  · rw [Int.toNat_natCast]
    have := uvPut_len10 h
    simp only [List.length_cons]; omega
mutual
theorem enc_len : ∀ {d : Nat} {t : Tr}, Ok d t → t.flat.length < 2 ^ 64 → t.enc.length + 11 ≤ 350 * t.flat.length
  | _, .mk kind id num text kids, .mk (d := d) h1 h2, hn => by
    have h350 := encs_len h2
    have hk := flats_len kids
    simp only [Tr.flat, List.length_cons] at hn ⊢
    simp only [Tr.enc]
    split
    · have := zigPut_len num
      omega
    · split
      · rename_i h8
        have ht : text.length ≤ 300 := by
          unfold plainB at h1
          simp only [h8] at h1
          simp at h1; omega
        have := uvPut_len10 (u := text.length) (by omega)
        simp only [List.length_append]; omega
      · split
        · have h3 := listHead_len (m := kids.length) (by omega) num
          have h4 := (h350 (by omega)).1
          simp only [List.length_append]; omega
        · split
          · have h4 := (h350 (by omega)).2
            simp only [List.length_append, List.length_cons, List.length_nil]; omega
          · simp only [List.length_nil]; omega
theorem encs_len : ∀ {d : Nat} {kind num last : Int} {ts : List Tr}, OkKids d kind num last ts → (flats ts).length < 2 ^ 64 → (encs ts).length ≤ 350 * (flats ts).length ∧ (encF last ts).length ≤ 350 * (flats ts).length
  | _, _, _, _, [], _, _ => by simp [encs, encF]
  | d, kind, num, last, t :: ts, .cons _ _ h3 h4, hn => by
    simp only [flats, List.length_append] at hn ⊢
    have h5 := enc_len h3 (by omega)
    obtain ⟨h6, h7⟩ := encs_len h4 (by omega)
    have h8 := headBytes_len last t.kind t.id
    simp only [encs, encF, List.length_append]
    omega
end

/-! ### Of a part of the bytes -/
/-- A reader that looks at what it reads alone; where there is less, it tells an end. -/
def Loc {α : Type} (f : List UInt8 → Except Int (α × List UInt8)) : Prop :=
  ∀ s x s', f s = .ok (x, s') → ∃ c, c ≤ s.length ∧ s' = s.drop c ∧ (∀ m, c ≤ m → f (s.take m) = .ok (x, (s.take m).drop c)) ∧ ∀ m, m < c → f (s.take m) = .error 1
def bindP {α β : Type} (f : List UInt8 → Except Int (α × List UInt8)) (g : α → List UInt8 → Except Int (β × List UInt8)) (s : List UInt8) : Except Int (β × List UInt8) :=
  match f s with
  | .error e => .error e
  | .ok (x, s') => g x s'
theorem Loc.bind {α β : Type} {f : List UInt8 → Except Int (α × List UInt8)} {g : α → List UInt8 → Except Int (β × List UInt8)} (hf : Loc f) (hg : ∀ x, Loc (g x)) : Loc (bindP f g) := by
  intro s y s' h
  unfold bindP at h
  cases hx : f s with
  | error e => rw [hx] at h; cases h
  | ok x =>
    obtain ⟨x, s1⟩ := x
    rw [hx] at h
    obtain ⟨c1, h1, h2, h3, h4⟩ := hf s x s1 hx
    obtain ⟨c2, h5, h6, h7, h8⟩ := hg x s1 y s' h
    subst h2
    have e : ∀ m, c1 ≤ m → (s.take m).drop c1 = (s.drop c1).take (m - c1) := fun m hm => by rw [List.drop_take]
    rw [List.length_drop] at h5
    refine ⟨c1 + c2, by omega, by rw [h6, List.drop_drop], fun m hm => ?_, fun m hm => ?_⟩
    · unfold bindP
      rw [h3 m (by omega)]
      simp only
      rw [e m (by omega), h7 (m - c1) (by omega), ← e m (by omega), List.drop_drop]
    · unfold bindP
      by_cases hc : m < c1
      · rw [h4 m hc]
      · rw [h3 m (by omega)]
        simp only
        rw [e m (by omega), h8 (m - c1) (by omega)]
theorem Loc.pure {α : Type} (x : α) : Loc fun s => .ok (x, s) := by
  intro s y s' h
  simp only [Except.ok.injEq, Prod.mk.injEq] at h
  obtain ⟨rfl, rfl⟩ := h
  exact ⟨0, Nat.zero_le _, rfl, fun m _ => rfl, fun m hm => by omega⟩
theorem Loc.fail {α : Type} (e : Int) : Loc fun _ => (.error e : Except Int (α × List UInt8)) := by
  intro s y s' h; cases h
theorem Loc.ite {α : Type} {c : Prop} [Decidable c] {f g : List UInt8 → Except Int (α × List UInt8)} (hf : Loc f) (hg : Loc g) : Loc fun s => if c then f s else g s := by
  by_cases h : c
  · simpa only [if_pos h] using hf
  · simpa only [if_neg h] using hg
theorem Loc.congr {α : Type} {f g : List UInt8 → Except Int (α × List UInt8)} (h : ∀ s, f s = g s) (hf : Loc f) : Loc g := by
  have : f = g := funext h
  exact this ▸ hf

def rUv (s : List UInt8) : Except Int (Nat × List UInt8) := match uvn s 0 0 with | none => .error 1 | some (u, k) => .ok (u, s.drop k)
theorem rUv_loc : Loc rUv := by
  intro s x s' h
  unfold rUv at h
  cases hu : uvn s 0 0 with
  | none => rw [hu] at h; cases h
  | some y =>
    obtain ⟨u, k⟩ := y
    rw [hu] at h
    simp only [Except.ok.injEq, Prod.mk.injEq] at h
    obtain ⟨rfl, rfl⟩ := h
    refine ⟨k, (uvn_le hu).2, rfl, fun m hm => ?_, fun m hm => ?_⟩
    · unfold rUv; rw [uvn_take m hu hm]
    · unfold rUv; rw [uvn_cut m hu hm]
def rByte (s : List UInt8) : Except Int (UInt8 × List UInt8) := match s with | [] => .error 1 | c :: t => .ok (c, t)
theorem rByte_loc : Loc rByte := by
  intro s x s' h
  cases s with
  | nil => cases h
  | cons c t =>
    simp only [rByte, Except.ok.injEq, Prod.mk.injEq] at h
    obtain ⟨rfl, rfl⟩ := h
    refine ⟨1, by simp, rfl, fun m hm => ?_, fun m hm => ?_⟩
    · obtain ⟨m, rfl⟩ : ∃ q, m = q + 1 := ⟨m - 1, by omega⟩
      rfl
    · obtain rfl : m = 0 := by omega
      rfl
def rTake (n : Nat) (s : List UInt8) : Except Int (List UInt8 × List UInt8) := if s.length < n then .error 1 else .ok (s.take n, s.drop n)
theorem rTake_loc (n : Nat) : Loc (rTake n) := by
  intro s x s' h
  unfold rTake at h
  split at h
  · cases h
  · simp only [Except.ok.injEq, Prod.mk.injEq] at h
    obtain ⟨rfl, rfl⟩ := h
    refine ⟨n, by omega, rfl, fun m hm => ?_, fun m hm => ?_⟩
    · unfold rTake
      rw [if_neg (by simp; omega), List.take_take, Nat.min_eq_left hm]
    · unfold rTake
      rw [if_pos (by simp; omega)]

theorem rText_loc : Loc rText := by
  refine Loc.congr (f := bindP rUv fun u s => if w64 u < 0 ∨ w64 u > 300 then .error 4 else rTake (w64 u).toNat s) (fun s => ?_) (rUv_loc.bind fun u => Loc.ite (Loc.fail 4) (rTake_loc _))
  unfold bindP rUv rText
  cases uvn s 0 0 with
  | none => rfl
  | some x =>
    obtain ⟨u, k⟩ := x
    simp only [rTake]
    split
    · rfl
    · rename_i h
      by_cases h2 : ((s.drop k).length : Int) < w64 u
      · rw [if_pos h2, if_pos (by omega)]
      · rw [if_neg h2, if_neg (by omega)]
theorem rHead_loc : Loc rHead := by
  let fin : UInt8 → Int → List UInt8 → Except Int ((Nat × Int) × List UInt8) := fun c many t => if many = 0 then .ok ((0, 0), t) else if isKind ((c.toNat % 16 : Nat) : Int) true = false then .error 2 else if many < 0 ∨ many > 1500 then .error 4 else .ok ((many.toNat, ((c.toNat % 16 : Nat) : Int)), t)
  have hfin : ∀ c many, Loc (fin c many) := fun c many => Loc.ite (Loc.pure _) (Loc.ite (Loc.fail _) (Loc.ite (Loc.fail _) (Loc.pure _)))
  refine Loc.congr (f := bindP rByte fun c => fun s => if c.toNat / 16 = 15 then bindP rUv (fun u => fin c (w64 u)) s else fin c ((c.toNat / 16 : Nat) : Int) s) (fun s => ?_) (rByte_loc.bind fun c => Loc.ite (rUv_loc.bind fun u => hfin _ _) (hfin _ _))
  unfold bindP rByte rHead
  cases s with
  | nil => rfl
  | cons c t =>
    simp only [rUv]
    split
    · cases uvn t 0 0 with
      | none => rfl
      | some x => rfl
    · rfl
theorem rPart_loc (last : Int) : Loc (rPart last) := by
  let fin : UInt8 → Int → List UInt8 → Except Int (Option (Int × Int) × List UInt8) := fun c id t => if id < 1 ∨ id > 1000 then .error 3 else if id ≤ last then .error 5 else .ok (some (((c.toNat % 16 : Nat) : Int), id), t)
  have hfin : ∀ c id, Loc (fin c id) := fun c id => Loc.ite (Loc.fail _) (Loc.ite (Loc.fail _) (Loc.pure _))
  refine Loc.congr (f := bindP rByte fun c => fun s => if c.toNat = 0 then .ok (none, s) else if isKind ((c.toNat % 16 : Nat) : Int) false = false then .error 2 else if c.toNat / 16 = 0 then bindP rUv (fun u => fin c (zag (w64 u))) s else fin c (last + ((c.toNat / 16 : Nat) : Int)) s) (fun s => ?_)
    (rByte_loc.bind fun c => Loc.ite (Loc.pure _) (Loc.ite (Loc.fail _) (Loc.ite (rUv_loc.bind fun u => hfin _ _) (hfin _ _))))
  unfold bindP rByte rPart
  cases s with
  | nil => rfl
  | cons c t =>
    simp only [rUv]
    split
    · rfl
    · split
      · rfl
      · split
        · cases uvn t 0 0 with
          | none => rfl
          | some x => rfl
        · rfl

theorem rKids_loc {rd : Nat → List UInt8 → Except Int (Tr × List UInt8)} (h : ∀ n, Loc (rd n)) : ∀ m n, Loc (rKids rd m n)
  | 0, n => Loc.congr (fun s => by simp [rKids]) (Loc.pure [])
  | m + 1, n => by
    refine Loc.congr (f := bindP (rd n) fun t => bindP (rKids rd m (n + t.flat.length)) fun ts s => .ok (t :: ts, s)) (fun s => ?_) ((h n).bind fun t => (rKids_loc h m _).bind fun ts => Loc.pure _)
    simp only [bindP, rKids]
    cases rd n s with
    | error e => rfl
    | ok x =>
      obtain ⟨t, s1⟩ := x
      simp only
      cases rKids rd m (n + t.flat.length) s1 <;> rfl
theorem rFields_loc {rd : Int → Int → Nat → List UInt8 → Except Int (Tr × List UInt8)} (h : ∀ k i n, Loc (rd k i n)) : ∀ f last n, Loc (rFields rd f last n)
  | 0, last, n => Loc.congr (fun s => by simp [rFields]) (Loc.fail 1)
  | f + 1, last, n => by
    refine Loc.congr (f := bindP (rPart last) fun o => match o with
      | none => fun s => .ok ([], s)
      | some (kind, id) => bindP (rd kind id n) fun t => bindP (rFields rd f id (n + t.flat.length)) fun ts s => .ok (t :: ts, s)) (fun s => ?_) ((rPart_loc last).bind fun o => ?_)
    · simp only [bindP, rFields]
      cases rPart last s with
      | error e => rfl
      | ok x =>
        obtain ⟨o, s1⟩ := x
        cases o with
        | none => rfl
        | some y =>
          obtain ⟨kind, id⟩ := y
          simp only [bindP]
          cases rd kind id n s1 with
          | error e => rfl
          | ok x =>
            obtain ⟨t, s2⟩ := x
            simp only
            cases rFields rd f id (n + t.flat.length) s2 <;> rfl
    · cases o with
      | none => exact Loc.pure _
      | some y =>
        obtain ⟨kind, id⟩ := y
        exact (h kind id n).bind fun t => (rFields_loc h f id _).bind fun ts => Loc.pure _
/-- More rounds than bytes are as good. -/
theorem rFields_fuel {rd : Int → Int → Nat → List UInt8 → Except Int (Tr × List UInt8)} (hg : ∀ k i n s, Good s (rd k i n s)) : ∀ (f f' : Nat) (last : Int) (n : Nat) (s : List UInt8), s.length ≤ f → s.length ≤ f' → rFields rd f last n s = rFields rd f' last n s
  | 0, 0, _, _, _, _, _ => rfl
  | 0, f' + 1, last, n, s, h, _ => by
    have : s = [] := List.eq_nil_of_length_eq_zero (by omega)
    subst this
    simp [rFields, rPart]
  | f + 1, 0, last, n, s, _, h => by
    have : s = [] := List.eq_nil_of_length_eq_zero (by omega)
    subst this
    simp [rFields, rPart]
  | f + 1, f' + 1, last, n, s, h, h' => by
    simp only [rFields]
    cases hp : rPart last s with
    | error e => rfl
    | ok x =>
      obtain ⟨o, s1⟩ := x
      have h1 := rPart_shorter hp
      cases o with
      | none => rfl
      | some y =>
        obtain ⟨kind, id⟩ := y
        simp only
        have h2 := hg kind id n s1
        cases hr : rd kind id n s1 with
        | error e => rfl
        | ok x =>
          obtain ⟨t, s2⟩ := x
          rw [hr] at h2
          have h2 : Suf s1 s2 := h2
          have h3 := h2.len
          simp only
          rw [rFields_fuel hg f f' id _ s2 (by omega) (by omega)]
theorem rNode_loc : ∀ (d n : Nat) (kind id : Int), Loc (rNode d n kind id)
  | 0, n, kind, id => Loc.congr (fun s => by simp [rNode]) (Loc.fail 4)
  | d + 1, n, kind, id => by
    by_cases h15 : n = 1500
    · exact Loc.congr (fun s => by simp [rNode, h15]) (Loc.fail 4)
    · by_cases h56 : kind = 5 ∨ kind = 6
      · refine Loc.congr (f := bindP rUv fun u s => if kind = 5 ∧ int32B (zag (w64 u)) = false then .error 3 else .ok (.mk kind id (zag (w64 u)) [] [], s)) (fun s => ?_) (rUv_loc.bind fun u => Loc.ite (Loc.fail _) (Loc.pure _))
        simp only [bindP, rNode, rUv]
        rw [if_neg h15, if_pos h56]
        cases uvn s 0 0 with
        | none => rfl
        | some x => rfl
      · by_cases h8 : kind = 8
        · refine Loc.congr (f := bindP rText fun t s => .ok (.mk kind id 0 t [], s)) (fun s => ?_) (rText_loc.bind fun t => Loc.pure _)
          simp only [bindP, rNode]
          rw [if_neg h15, if_neg h56, if_pos h8]
          cases rText s with
          | error e => rfl
          | ok x => rfl
        · by_cases h9 : kind = 9
          · refine Loc.congr (f := bindP rHead fun x => bindP (rKids (fun n s => rNode d n x.2 0 s) x.1 (n + 1)) fun ts s => .ok (.mk kind id x.2 [] ts, s)) (fun s => ?_) (rHead_loc.bind fun x => (rKids_loc (fun n => rNode_loc d n _ 0) _ _).bind fun ts => Loc.pure _)
            simp only [bindP, rNode]
            rw [if_neg h15, if_neg h56, if_neg h8, if_pos h9]
            cases rHead s with
            | error e => rfl
            | ok x =>
              obtain ⟨⟨m, item⟩, s1⟩ := x
              simp only
              cases rKids (fun n s => rNode d n item 0 s) m (n + 1) s1 with
              | error e => rfl
              | ok x => rfl
          · by_cases h12 : kind = 12
            · intro s x s' h
              have e : ∀ s, rNode (d + 1) n kind id s = bindP (rFields (fun kind id n s => rNode d n kind id s) s.length 0 (n + 1)) (fun ts s => .ok (Tr.mk kind id 0 [] ts, s)) s := by
                intro s
                simp only [bindP, rNode]
                rw [if_neg h15, if_neg h56, if_neg h8, if_neg h9, if_pos h12]
                cases rFields (fun kind id n s => rNode d n kind id s) s.length 0 (n + 1) s with
                | error e => rfl
                | ok x => rfl
              have hl : Loc (bindP (rFields (fun kind id n s => rNode d n kind id s) s.length 0 (n + 1)) fun ts s => .ok (Tr.mk kind id 0 [] ts, s)) := (rFields_loc (fun k i n => rNode_loc d n k i) _ _ _).bind fun ts => Loc.pure _
              rw [e] at h
              obtain ⟨c, h1, h2, h3, h4⟩ := hl s x s' h
              have hf : ∀ m, rNode (d + 1) n kind id (s.take m) = bindP (rFields (fun kind id n s => rNode d n kind id s) s.length 0 (n + 1)) (fun ts s => .ok (Tr.mk kind id 0 [] ts, s)) (s.take m) := by
                intro m
                rw [e]
                simp only [bindP]
                rw [rFields_fuel (fun k i n s => rNode_good d n k i s) (s.take m).length s.length 0 (n + 1) (s.take m) (Nat.le_refl _) (by simp; omega)]
              exact ⟨c, h1, h2, fun m hm => by rw [hf]; exact h3 m hm, fun m hm => by rw [hf]; exact h4 m hm⟩
            · refine Loc.congr (fun s => ?_) (Loc.pure (Tr.mk kind id 0 [] []))
              simp only [rNode]
              rw [if_neg h15, if_neg h56, if_neg h8, if_neg h9, if_neg h12]
end Go.V

/- Plain: right trees, as the reference looks at them. -/
namespace Go.Proofs.Ytpggmokeohleiaa
open Go Go.V

def BdN (x : Nd) : Prop := -9223372036854775808 ≤ x.2.2.1 ∧ x.2.2.1 ≤ 9223372036854775807
abbrev nd0 : GNode := (0, 0, 0, [], 0)

theorem spec_l4Plain_eq (k : Nat) (x : Nd) (h : BdN x) : spec_l4Plain k x = some (plainB x) := by
  obtain ⟨x1, x2, x3, x4, x5⟩ := x
  simp only [BdN] at h
  have h64 : i64B x3 = true := by simp [i64B, h]
  have key : ∀ c : Bool, c = decide (x1 = 1 ∨ x1 = 2) → spec_l4Plainj1 k x1 c x1 x2 x3 x4 x5 = some (plainB (x1, x2, x3, x4, x5)) := by
    intro c hc
    subst hc
    simp only [spec_l4Plainj1, spec_l4Int_eq, spec_l4Item_eq, Option.bind_some, plainB, h64, beq_iff_eq, decide_eq_true_eq]
    by_cases h12 : x1 = 1 ∨ x1 = 2
    · have n5 : ¬ x1 = 5 := by omega
      have n6 : ¬ x1 = 6 := by omega
      have n8 : ¬ x1 = 8 := by omega
      have n9 : ¬ x1 = 9 := by omega
      have n12 : ¬ x1 = 12 := by omega
      simp only [n5, n6, n8, n9, n12, if_false, if_pos h12]
      by_cases h3 : x3 = 0 <;> by_cases h4 : x4 = [] <;> simp [h12, h3, h4]
    · rw [if_neg h12]
      by_cases h5 : x1 = 5
      · rw [if_pos h5, if_pos h5]
        by_cases h3 : int32B x3 = true <;> by_cases h4 : x4 = [] <;> simp [h3, h4]
      · rw [if_neg h5, if_neg h5]
        by_cases h6 : x1 = 6
        · rw [if_pos h6, if_pos h6]
          by_cases h4 : x4 = [] <;> simp [h4]
        · rw [if_neg h6, if_neg h6]
          by_cases h8 : x1 = 8
          · rw [if_pos h8, if_pos h8]
            by_cases h3 : x3 = 0 <;> by_cases h4 : x4.length ≤ 300 <;> simp [h3, h4] <;> omega
          · rw [if_neg h8, if_neg h8]
            by_cases h9 : x1 = 9
            · rw [if_pos h9, if_pos h9]
              by_cases h4 : x4 = []
              · by_cases h5 : 0 ≤ x5
                · by_cases h50 : x5 = 0
                  · subst h50
                    by_cases h3 : x3 = 0 <;> simp [h3, h4]
                  · have h7 : 0 < x5 := by omega
                    simp [h4, h50, h7, h5]
                · simp [h4, h5]
              · simp [h4]
            · rw [if_neg h9, if_neg h9]
              by_cases h12' : x1 = 12
              · rw [if_pos h12', if_pos h12']
                by_cases h3 : x3 = 0 <;> by_cases h4 : x4 = [] <;> simp [h3, h4]
              · rw [if_neg h12', if_neg h12']
                simp [h12]
  simp only [spec_l4Plain]
  by_cases h1 : x1 = 1
  · rw [if_pos (by simp [h1])]
    exact key _ (by simp [h1])
  · rw [if_neg (by simp [h1])]
    exact key _ (by simp [h1]; rfl)

/-- What l4Check tells. -/
def posOf (L : List GNode) {α : Type} (x : Option (α × List Nd)) : Int :=
  match x with
  | none => -1
  | some (_, L') => (L.length : Int) - (L'.length : Int)

theorem drop_nd {L : List GNode} {a : Nat} (h : a < L.length) : L.drop a = L.getD a nd0 :: L.drop (a + 1) := by
  rw [List.drop_eq_getElem_cons h]
  simp [List.getD_eq_getElem?_getD, h]
theorem getD_mem {L : List GNode} {a : Nat} (h : a < L.length) : L.getD a nd0 ∈ L := by
  have : L.getD a nd0 = L[a] := by simp [List.getD_eq_getElem?_getD, h]
  rw [this]; exact List.getElem_mem h

/-- What the loop over the parts tells. -/
def PCheck (L : List GNode) (x : Option (List Tr × List Nd)) (r : Int ⊕ Unit) : Prop :=
  match x with
  | none => r = .inr ()
  | some (_, L') => r = .inl ((L.length : Int) - (L'.length : Int))
def BdI (x : Nd) : Prop := -9223372036854775808 ≤ x.2.1 ∧ x.2.1 ≤ 9223372036854775807

section
variable (L : List GNode)

theorem pTree_drop {d a : Nat} {t : Tr} {L' : List Nd} (h : pTree d (L.drop a) = some (t, L')) : ∃ q, a < q ∧ q ≤ L.length ∧ L' = L.drop q := by
  have h1 := pTree_flat _ _ _ _ h
  have h2 := t.flat_pos
  have h3 := congrArg List.length h1
  rw [List.length_append, List.length_drop] at h3
  refine ⟨a + t.flat.length, by omega, by omega, ?_⟩
  have h4 := congrArg (List.drop t.flat.length) h1
  rw [List.drop_left, List.drop_drop] at h4
  exact h4.symm

theorem pKids_nil (p : List Nd → Option (Tr × List Nd)) (kind num last : Int) (m : Nat) : pKids p kind num (m + 1) last [] = none := rfl
theorem pKids_bad {p : List Nd → Option (Tr × List Nd)} {kind num last : Int} {m : Nat} {x : Nd} {L : List Nd} (h : ¬ partB kind num last x = true) : pKids p kind num (m + 1) last (x :: L) = none := by
  simp only [pKids]; rw [if_neg h]
theorem pKids_none {p : List Nd → Option (Tr × List Nd)} {kind num last : Int} {m : Nat} {x : Nd} {L : List Nd} (hp : p (x :: L) = none) : pKids p kind num (m + 1) last (x :: L) = none := by
  simp only [pKids, hp]; split <;> rfl
theorem pKids_some {p : List Nd → Option (Tr × List Nd)} {kind num last : Int} {m : Nat} {x : Nd} {L L' : List Nd} {t : Tr} (h : partB kind num last x = true) (hp : p (x :: L) = some (t, L')) :
    pKids p kind num (m + 1) last (x :: L) = match pKids p kind num m x.2.1 L' with | none => none | some (ts, L'') => some (t :: ts, L'') := by
  simp only [pKids, hp]; rw [if_pos h] <;> rfl

theorem spec_checkL (hl : L.length ≤ 274877906944) (hB : ∀ x ∈ L, BdI x) (d : Nat) (hd : d ≤ 12) (ih : ∀ (a : Nat), a ≤ L.length → Ev (fun k => spec_l4Check k L (a : Int) (13 - (d : Int))) (· = posOf L (pTree d (L.drop a)))) (kind num many : Int) (e1 : Int) (e3 : Bs) :
    ∀ (f : Nat) (i next : Nat) (last : Int) (g : Nat → Nat), (∀ k, k ≤ g k) → L.length - next ≤ f → next ≤ L.length → i ≤ next →
    Ev (fun k => spec_l4Checkl1 (spec_l4Check (g k)) k L (12 - (d : Int)) (next : Int) last (i : Int) kind e1 num e3 many)
      (PCheck L (pKids (pTree d) kind num (many - (i : Int)).toNat last (L.drop next))) := by
  intro f
  induction f with
  | zero =>
    intro i next last g hg hf hn hi
    apply Ev.succ
    simp only [spec_l4Checkl1]
    rw [List.drop_eq_nil_of_le (by omega)]
    by_cases h : (i : Int) < many
    · obtain ⟨m, hm⟩ : ∃ m, (many - (i : Int)).toNat = m + 1 := ⟨(many - (i : Int)).toNat - 1, by omega⟩
      rw [hm]
      exact Ev.pos (dtrue h) (Ev.pos (dtrue (by omega)) (Ev.ret rfl))
    · rw [show (many - (i : Int)).toNat = 0 by omega]
      refine Ev.neg (dfalse h) (Ev.ret ?_)
      simp only [PCheck, pKids, List.length_nil, Sum.inl.injEq]
      omega
  | succ f ihf =>
    intro i next last g hg hf hn hi
    apply Ev.succ
    simp only [spec_l4Checkl1]
    by_cases h : (i : Int) < many
    · obtain ⟨m, hm⟩ : ∃ m, (many - (i : Int)).toNat = m + 1 := ⟨(many - (i : Int)).toNat - 1, by omega⟩
      rw [hm]
      refine Ev.pos (dtrue h) ?_
      by_cases hlt : next < L.length
      · refine Ev.neg (dfalse (by omega)) (Ev.pos ⟨by omega, by omega⟩ ?_)
        rw [Int.toNat_natCast]
        have hdrop := drop_nd hlt
        have hmem := getD_mem hlt
        have hlen1 : (L.drop next).length = L.length - next := List.length_drop
        obtain ⟨x, hx⟩ : ∃ x, L.getD next nd0 = x := ⟨_, rfl⟩
        rw [hx] at hdrop hmem
        have hid := hB x hmem
        simp only [BdI] at hid
        have hx' : L.getD next (0, 0, 0, [], 0) = x := hx
        simp only [hx']
        -- behind the part
        have fin : partB kind num last x = true → ∀ (e10 e12 : Int) (e13 : Bs) (e14 : Int), Ev (fun k => spec_l4Checkj2 (spec_l4Check (g (k + 1))) k (fun (i : (List GNode) × Int × Int × Int × Int × Int × Int × Int × Bs × Int) => spec_l4Checkl1 (spec_l4Check (g (k + 1))) k i.1 i.2.1 i.2.2.1 i.2.2.2.1 i.2.2.2.2.1 i.2.2.2.2.2.1 i.2.2.2.2.2.2.1 i.2.2.2.2.2.2.2.1 i.2.2.2.2.2.2.2.2.1 i.2.2.2.2.2.2.2.2.2) L (12 - (d : Int)) (next : Int) (i : Int) kind e1 num e3 many e10 x.2.1 e12 e13 e14)
            (PCheck L (pKids (pTree d) kind num (m + 1) last (L.drop next))) := by
          intro hpb e10 e12 e13 e14
          simp only [spec_l4Checkj2]
          rw [w64_id (n := 12 - (d : Int) + 1) (by omega), show 12 - (d : Int) + 1 = 13 - (d : Int) by omega, w64_id (n := (i : Int) + 1) (by omega)]
          refine Ev.bind ((ih next (by omega)).comp (g := fun k => g (k + 1)) (fun k => by have := hg (k + 1); omega)) fun y hy => ?_
          cases hp : pTree d (L.drop next) with
          | none =>
            rw [hp] at hy
            have hy : y = -1 := hy
            rw [hdrop] at hp ⊢
            rw [pKids_none hp]
            exact Ev.pos (dtrue (by omega)) (Ev.ret rfl)
          | some z =>
            obtain ⟨t, L'⟩ := z
            obtain ⟨q, hq1, hq2, rfl⟩ := pTree_drop L hp
            rw [hp] at hy
            have hy : y = (L.length : Int) - ((L.drop q).length : Int) := hy
            rw [List.length_drop] at hy
            have hy : y = (q : Int) := by omega
            subst hy
            refine Ev.neg (dfalse (by omega)) ?_
            rw [hdrop] at hp ⊢
            rw [pKids_some hpb hp]
            rw [show ((i : Int) + 1) = ((i + 1 : Nat) : Int) by omega]
            refine (ihf (i + 1) q x.2.1 (fun k => g (k + 1)) (fun k => by have := hg (k + 1); omega) (by omega) hq2 (by omega)).mono fun r hr => ?_
            rw [show (many - ((i + 1 : Nat) : Int)).toNat = m by omega] at hr
            revert hr
            cases pKids (pTree d) kind num m x.2.1 (L.drop q) with
            | none => exact fun h => h
            | some z => exact fun h => h
        have bad : ¬ partB kind num last x = true → PCheck L (pKids (pTree d) kind num (m + 1) last (L.drop next)) (.inr ()) := by
          intro hpb
          rw [hdrop, pKids_bad hpb]
          rfl
        by_cases h9 : kind = 9
        · refine Ev.pos (by simp [h9]) ?_
          by_cases hk : x.1 = num
          · refine Ev.neg (by simp [hk]) ?_
            by_cases hi0 : x.2.1 = 0
            · refine Ev.neg (by simp [hi0]) (Ev.neg (by simp [h9]) ?_)
              exact fin (by simp [partB, h9, hk, hi0]) _ _ _ _
            · exact Ev.pos (by simp [hi0]) (Ev.ret (bad (by simp [partB, h9, hi0])))
          · exact Ev.pos (by simp [hk]) (Ev.ret (bad (by simp [partB, h9, hk])))
        · refine Ev.neg (by simp [h9]) ?_
          by_cases h12 : kind = 12
          · refine Ev.pos (by simp [h12]) ?_
            by_cases hk : x.2.1 ≤ last
            · exact Ev.pos (dtrue hk) (Ev.ret (bad (by simp [partB, h12]; omega)))
            · refine Ev.neg (dfalse hk) ?_
              by_cases hi0 : x.2.1 > 1000
              · exact Ev.pos (dtrue hi0) (Ev.ret (bad (by simp [partB, h12]; omega)))
              · refine Ev.neg (dfalse hi0) ?_
                exact fin (by simp [partB, h12]; omega) _ _ _ _
          · refine Ev.neg (by simp [h12]) ?_
            exact fin (by simp [partB, h9, h12]) _ _ _ _
      · refine Ev.pos (dtrue (by omega)) (Ev.ret ?_)
        rw [List.drop_eq_nil_of_le (by omega)]
        rfl
    · rw [show (many - (i : Int)).toNat = 0 by omega]
      refine Ev.neg (dfalse h) (Ev.ret ?_)
      simp only [PCheck, pKids, List.length_drop, Sum.inl.injEq]
      omega

theorem spec_l4Check_ev (hl : L.length ≤ 274877906944) (hB : ∀ x ∈ L, BdI x) (hN : ∀ x ∈ L, BdN x) : ∀ (d : Nat), d ≤ 12 → ∀ (a : Nat), a ≤ L.length →
    Ev (fun k => spec_l4Check k L (a : Int) (13 - (d : Int))) (· = posOf L (pTree d (L.drop a))) := by
  intro d
  induction d with
  | zero =>
    intro hd a ha
    apply Ev.succ
    simp only [spec_l4Check, spec_l4Checkb]
    by_cases h : (a : Int) ≥ (L.length : Int)
    · exact Ev.pos (dtrue h) (Ev.ret rfl)
    · exact Ev.neg (dfalse h) (Ev.pos (dtrue (by omega)) (Ev.ret rfl))
  | succ d ihd =>
    intro hd a ha
    apply Ev.succ
    simp only [spec_l4Check, spec_l4Checkb]
    by_cases h : (a : Int) ≥ (L.length : Int)
    · refine Ev.pos (dtrue h) (Ev.ret ?_)
      rw [List.drop_eq_nil_of_le (by omega)]; rfl
    · refine Ev.neg (dfalse h) (Ev.neg (dfalse (by omega)) (Ev.pos ⟨by omega, by omega⟩ ?_))
      rw [Int.toNat_natCast]
      have hlt : a < L.length := by omega
      have hdrop := drop_nd hlt
      have hmem := getD_mem hlt
      obtain ⟨x, hx⟩ : ∃ x, L.getD a nd0 = x := ⟨_, rfl⟩
      rw [hx] at hdrop hmem
      have hx' : L.getD a (0, 0, 0, [], 0) = x := hx
      simp only [hx']
      obtain ⟨x1, x2, x3, x4, x5⟩ := x
      simp only [spec_l4Plain_eq _ (x1, x2, x3, x4, x5) (hN _ hmem), Option.bind_some]
      rw [hdrop]
      simp only [pTree]
      cases hpl : plainB (x1, x2, x3, x4, x5) with
      | false => exact Ev.pos (by simp) (Ev.ret rfl)
      | true =>
        refine Ev.neg (by simp) ?_
        rw [w64_id (n := (a : Int) + 1) (by omega), show ((a : Int) + 1) = ((a + 1 : Nat) : Int) by omega, show (13 - ((d + 1 : Nat) : Int)) = 12 - (d : Int) by omega]
        have hm := spec_checkL L hl hB d (by omega) (ihd (by omega)) x1 x3 x5 x2 x4 (L.length - (a + 1)) 0 (a + 1) 0 (fun k => k) (fun k => Nat.le_refl _) (Nat.le_refl _) (by omega) (by omega)
        refine Ev.bind hm fun r hr => ?_
        rw [show (x5 - ((0 : Nat) : Int)).toNat = x5.toNat by omega] at hr
        cases hk : pKids (pTree d) x1 x3 x5.toNat 0 (L.drop (a + 1)) with
        | none =>
          rw [hk] at hr
          have hr : r = .inr () := hr
          subst hr
          exact Ev.ret rfl
        | some z =>
          obtain ⟨ts, L'⟩ := z
          rw [hk] at hr
          have hr : r = .inl ((L.length : Int) - (L'.length : Int)) := hr
          subst hr
          exact Ev.ret rfl
end
end Go.Proofs.Ytpggmokeohleiaa

/- Plain: the bytes of a right tree, as the reference packs them. -/
namespace Go.Proofs.Ytpggmokeohleiaa
open Go Go.V

/-- A list of nodes that is a right tree. -/
def treeOk (L : List Nd) : Option Tr :=
  if 1 ≤ L.length ∧ L.length ≤ 1500 then
    match L with
    | [] => none
    | x :: _ => if x.1 = 12 ∧ x.2.1 = 0 then
        match pTree 12 L with
        | some (t, []) => some t
        | _ => none
      else none
  else none
def treePack (L : List Nd) : Bool × Bs :=
  match treeOk L with
  | none => (false, [])
  | some t => (true, t.enc)

theorem treeOk_some {L : List Nd} {t : Tr} (h : treeOk L = some t) : L = t.flat ∧ Ok 12 t ∧ t.kind = 12 ∧ t.id = 0 ∧ 1 ≤ L.length ∧ L.length ≤ 1500 ∧ pTree 12 L = some (t, []) := by
  unfold treeOk at h
  split at h
  · rename_i hlen
    split at h
    · cases h
    · rename_i x r
      split at h
      · rename_i hx
        split at h
        · rename_i t' hp
          injection h with h
          subst h
          have hf := pTree_flat _ _ _ _ hp
          rw [List.append_nil] at hf
          obtain ⟨r2, hr2⟩ := t'.flat_head
          have := hf
          rw [hr2, List.cons.injEq] at this
          rw [this.1] at hx
          exact ⟨hf, ok_of_pTree _ _ _ _ hp, hx.1, hx.2, hlen.1, hlen.2, hp⟩
        · cases h
      · cases h
  · cases h
theorem treeOk_of {t : Tr} (h : Ok 12 t) (hk : t.kind = 12) (hi : t.id = 0) (hn : t.flat.length ≤ 1500) : treeOk t.flat = some t := by
  have hp := pTree_of h []
  rw [List.append_nil] at hp
  have hpos := t.flat_pos
  obtain ⟨r2, hr2⟩ := t.flat_head
  unfold treeOk
  rw [if_pos ⟨hpos, hn⟩, hr2]
  simp only
  rw [if_pos ⟨hk, hi⟩, ← hr2, hp]

theorem head_at {L : List GNode} {a : Nat} {t : Tr} {L' : List Nd} (h : L.drop a = t.flat ++ L') : a < L.length ∧ L.getD a (0, 0, 0, [], 0) = (t.kind, t.id, t.num, t.text, (t.kids.length : Int)) ∧ a + t.flat.length ≤ L.length := by
  have hlen := congrArg List.length h
  rw [List.length_append, List.length_drop] at hlen
  have hpos := t.flat_pos
  have hlt : a < L.length := by omega
  refine ⟨hlt, ?_, by omega⟩
  obtain ⟨r, hr⟩ := t.flat_head
  rw [drop_nd hlt, hr, List.cons_append, List.cons.injEq] at h
  exact h.1
theorem drop_kids {L : List GNode} {q : Nat} {a L' : List Nd} (h : L.drop q = a ++ L') : L.drop (q + a.length) = L' := by
  have h4 := congrArg (List.drop a.length) h
  rw [List.drop_left, List.drop_drop] at h4
  exact h4
theorem b8_of {x y : Int} (h : x = y) (hy : 0 ≤ y ∧ y ≤ 255) : b8 (wu8 x) = b8 y := by
  subst h
  rw [wu8_eq, Int.emod_eq_of_lt (by omega) (by omega)]

section
variable (L : List GNode)

theorem spec_packL (hl : L.length ≤ 1500) (d : Nat) (ih : ∀ (t : Tr) (a : Nat) (L' : List Nd), Ok d t → L.drop a = t.flat ++ L' → Ev (fun k => spec_l4Pack k L (a : Int)) (· = (((a + t.flat.length : Nat) : Int), t.enc))) (kind num many : Int) (hm : many ≤ 1500) (e1 : Int) (e3 : Bs) :
    ∀ (ts : List Tr) (last : Int) (i q : Nat) (out : Bs) (L' : List Nd) (g : Nat → Nat), (∀ k, k ≤ g k) → OkKids d kind num last ts → L.drop q = flats ts ++ L' → (i : Int) + ts.length = many → out.length + 350 * (flats ts).length ≤ 1000000 →
    Ev (fun k => spec_l4Packl1 (spec_l4Pack (g k)) k L (q : Int) (i : Int) kind e1 num e3 many out) (· = (((q + (flats ts).length : Nat) : Int), out ++ encs ts)) := by
  intro ts
  induction ts with
  | nil =>
    intro last i q out L' g hg hok hd hi ho
    apply Ev.succ
    simp only [spec_l4Packl1]
    rw [List.length_nil] at hi
    exact Ev.neg (dfalse (by omega)) (Ev.ret (by simp [flats, encs]))
  | cons t ts iht =>
    intro last i q out L' g hg hok hd hi ho
    rw [List.length_cons] at hi
    cases hok with
    | cons h1 h2 h3 h4 =>
      apply Ev.succ
      simp only [spec_l4Packl1]
      refine Ev.pos (dtrue (by omega)) ?_
      simp only [flats, List.append_assoc] at hd
      simp only [flats, List.length_append] at ho
      have hat := head_at hd
      refine Ev.bind_eq ((ih t q _ h3 hd).comp (g := fun k => g (k + 1)) (fun k => by have := hg (k + 1); omega)) ?_
      have hlen := enc_len h3 (by omega)
      refine Ev.pos (by simp only [LIM]; omega) ?_
      rw [w64_id (n := (i : Int) + 1) (by omega), show ((i : Int) + 1) = ((i + 1 : Nat) : Int) by omega]
      refine (iht t.id (i + 1) (q + t.flat.length) (out ++ t.enc) L' (fun k => g (k + 1)) (fun k => by have := hg (k + 1); omega) h4 (drop_kids hd) (by omega) (by rw [List.length_append]; omega)).mono fun r hr => ?_
      rw [hr]
      simp only [flats, encs, List.length_append, List.append_assoc, Nat.add_assoc]

theorem spec_packF (hl : L.length ≤ 1500) (d : Nat) (ih : ∀ (t : Tr) (a : Nat) (L' : List Nd), Ok d t → L.drop a = t.flat ++ L' → Ev (fun k => spec_l4Pack k L (a : Int)) (· = (((a + t.flat.length : Nat) : Int), t.enc))) (num many : Int) (hm : many ≤ 1500) (e1 : Int) (e3 : Bs) :
    ∀ (ts : List Tr) (last : Int) (i q : Nat) (out : Bs) (L' : List Nd) (g : Nat → Nat), (∀ k, k ≤ g k) → 0 ≤ last → OkKids d 12 num last ts → L.drop q = flats ts ++ L' → (i : Int) + ts.length = many → out.length + 350 * (flats ts).length ≤ 1000000 →
    Ev (fun k => spec_l4Packl3 (spec_l4Pack (g k)) k L (q : Int) last (i : Int) 12 e1 num e3 many out) (· = (((q + (flats ts).length : Nat) : Int), out ++ encF last ts)) := by
  intro ts
  induction ts with
  | nil =>
    intro last i q out L' g hg hlast hok hd hi ho
    apply Ev.succ
    simp only [spec_l4Packl3]
    rw [List.length_nil] at hi
    exact Ev.neg (dfalse (by omega)) (Ev.ret (by simp [flats, encF]))
  | cons t ts iht =>
    intro last i q out L' g hg hlast hok hd hi ho
    rw [List.length_cons] at hi
    cases hok with
    | cons h1 h2 h3 h4 =>
      have h2 := h2 rfl
      apply Ev.succ
      simp only [spec_l4Packl3]
      refine Ev.pos (dtrue (by omega)) ?_
      simp only [flats, List.append_assoc] at hd
      simp only [flats, List.length_append] at ho
      obtain ⟨hat, hget, hle⟩ := head_at hd
      refine Ev.pos ⟨by omega, by omega⟩ ?_
      rw [Int.toNat_natCast, hget]
      have hpl : 1 ≤ t.kind ∧ t.kind ≤ 12 := by
        cases h3 with
        | mk hp _ => exact (kind_of_plain hp).2
      have hlen := enc_len h3 (by omega)
      have fin : ∀ (hb : Bs), hb = headBytes last t.kind t.id → ∀ (e10 e12 : Int) (e13 : Bs) (e14 : Int), Ev (fun k => spec_l4Packj4 (spec_l4Pack (g (k + 1))) k (fun (i : (List GNode) × Int × Int × Int × Int × Int × Int × Bs × Int × Bs) => spec_l4Packl3 (spec_l4Pack (g (k + 1))) k i.1 i.2.1 i.2.2.1 i.2.2.2.1 i.2.2.2.2.1 i.2.2.2.2.2.1 i.2.2.2.2.2.2.1 i.2.2.2.2.2.2.2.1 i.2.2.2.2.2.2.2.2.1 i.2.2.2.2.2.2.2.2.2) L (q : Int) (i : Int) 12 e1 num e3 many (out ++ hb) e10 t.id e12 e13 e14)
          (· = (((q + (flats (t :: ts)).length : Nat) : Int), out ++ encF last (t :: ts))) := by
        intro hb hhb e10 e12 e13 e14
        have hhl := headBytes_len last t.kind t.id
        rw [← hhb] at hhl
        simp only [spec_l4Packj4]
        refine Ev.bind_eq ((ih t q _ h3 hd).comp (g := fun k => g (k + 1)) (fun k => by have := hg (k + 1); omega)) ?_
        refine Ev.pos (by simp only [LIM, List.length_append]; omega) ?_
        rw [w64_id (n := (i : Int) + 1) (by omega), show ((i : Int) + 1) = ((i + 1 : Nat) : Int) by omega]
        refine (iht t.id (i + 1) (q + t.flat.length) (out ++ hb ++ t.enc) L' (fun k => g (k + 1)) (fun k => by have := hg (k + 1); omega) (by omega) h4 (drop_kids hd) (by omega) (by simp only [List.length_append]; omega)).mono fun r hr => ?_
        rw [hr, hhb]
        simp only [flats, encF, List.length_append, List.append_assoc, Nat.add_assoc]
      rw [w64_id (n := t.id - last) (by omega)]
      by_cases h15 : t.id - last ≤ 15
      · refine Ev.pos (dtrue h15) (Ev.pos (by simp only [LIM]; omega) ?_)
        refine fin _ ?_ _ _ _ _
        unfold headBytes
        rw [if_pos h15]
        congr 1
        refine b8_of ?_ (by omega)
        rw [w64_id (n := 16 * (t.id - last)) (by omega), w64_id (by omega)]
      · refine Ev.neg (dfalse h15) (Ev.pos (by simp only [LIM]; omega) ?_)
        refine Ev.bind_eq (spec_ZigPut_ev _) ?_
        have hz := zigPut_len t.id
        refine Ev.pos (by simp only [LIM, List.length_append, List.length_cons, List.length_nil]; omega) ?_
        rw [List.append_assoc]
        refine fin _ ?_ _ _ _ _
        unfold headBytes
        rw [if_neg h15, b8_of rfl (by omega)]
        rfl

theorem spec_l4Pack_ev (hl : L.length ≤ 1500) : ∀ (d : Nat) (t : Tr) (a : Nat) (L' : List Nd), Ok d t → L.drop a = t.flat ++ L' → Ev (fun k => spec_l4Pack k L (a : Int)) (· = (((a + t.flat.length : Nat) : Int), t.enc)) := by
  intro d
  induction d with
  | zero => intro t a L' h; cases h
  | succ d ihd =>
    intro t a L' h hd
    obtain ⟨hat, hget, hle⟩ := head_at hd
    cases h with
    | @mk _ kind id num text kids hpl hk =>
      apply Ev.succ
      simp only [spec_l4Pack, spec_l4Packb]
      refine Ev.pos ⟨by omega, by omega⟩ ?_
      rw [Int.toNat_natCast, hget]
      simp only [Tr.kind, Tr.id, Tr.num, Tr.text, Tr.kids]
      rw [w64_id (n := (a : Int) + 1) (by omega), show ((a : Int) + 1) = ((a + 1 : Nat) : Int) by omega]
      simp only [Tr.flat, List.length_cons] at hle
      have hkl := flats_len kids
      have hdk : L.drop (a + 1) = flats kids ++ L' := by
        have h1 := drop_nd hat
        rw [h1] at hd
        simp only [Tr.flat, List.cons_append, List.cons.injEq] at hd
        exact hd.2
      have hres : ((a + 1 + (flats kids).length : Nat) : Int) = ((a + (Tr.mk kind id num text kids).flat.length : Nat) : Int) := by
        simp only [Tr.flat, List.length_cons]; omega
      have key : ∀ c : Bool, c = decide (kind = 5 ∨ kind = 6) → Ev (fun k => spec_l4Packj5 (spec_l4Pack k) k L ((a + 1 : Nat) : Int) kind c kind id num text (kids.length : Int)) (· = (((a + (Tr.mk kind id num text kids).flat.length : Nat) : Int), (Tr.mk kind id num text kids).enc)) := by
        intro c hc
        simp only [spec_l4Packj5]
        by_cases h56 : kind = 5 ∨ kind = 6
        · refine Ev.pos (by simp [hc, h56]) ?_
          refine Ev.bind_eq (spec_ZigPut_ev _) (Ev.ret ?_)
          have h0 : kids = [] := by
            unfold plainB at hpl
            rcases h56 with h | h <;> simp [h] at hpl <;> exact hpl.2
          simp only [Tr.enc, if_pos h56]
          rw [← hres, h0]; rfl
        · refine Ev.neg (by simp [hc, h56]) ?_
          by_cases h8 : kind = 8
          · refine Ev.pos (by simp [h8]) ?_
            have h0 : text.length ≤ 300 ∧ kids = [] := by
              unfold plainB at hpl
              simp [h8] at hpl
              exact ⟨hpl.1.2, hpl.2⟩
            refine Ev.bind_eq (spec_UvarPut_ev _) ?_
            rw [show (((text.length : Nat) : Int) % 18446744073709551616).toNat = text.length by omega]
            have hz := uvPut_len10 (u := text.length) (by omega)
            refine Ev.pos (by simp only [LIM]; omega) (Ev.pos (by simp only [LIM]; omega) (Ev.ret ?_))
            simp only [Tr.enc, if_neg h56, if_pos h8]
            rw [← hres, h0.2]; rfl
          · refine Ev.neg (by simp [h8]) ?_
            by_cases h9 : kind = 9
            · refine Ev.pos (by simp [h9]) ?_
              have hnum : 0 ≤ num ∧ num ≤ 12 := by
                unfold plainB at hpl
                simp [h9] at hpl
                rcases hpl.2 with h | h
                · omega
                · rcases item_cases h.2 with h | h | h | h | h <;> omega
              have fin : ∀ (hb : Bs), hb = listHead kids.length num → Ev (fun k => spec_l4Packj2 (spec_l4Pack k) k L ((a + 1 : Nat) : Int) kind id num text (kids.length : Int) hb) (· = (((a + (Tr.mk kind id num text kids).flat.length : Nat) : Int), (Tr.mk kind id num text kids).enc)) := by
                intro hb hhb
                simp only [spec_l4Packj2]
                have hhl := listHead_len (m := kids.length) (by omega) num
                refine Ev.bind_eq (spec_packL L hl d ihd kind num (kids.length : Int) (by omega) id text kids 0 0 (a + 1) hb L' (fun k => k) (fun k => Nat.le_refl _) hk hdk (by omega) (by rw [hhb]; omega)) (Ev.ret ?_)
                simp only [Tr.enc, if_neg h56, if_neg h8, if_pos h9]
                rw [hres, hhb]
              by_cases h14 : (kids.length : Int) ≤ 14
              · refine Ev.pos (dtrue h14) ?_
                refine fin _ ?_
                unfold listHead
                rw [if_pos h14]
                rw [List.nil_append, b8_of (y := 16 * (kids.length : Int) + num) ?_ (by omega)]
                rw [w64_id (n := 16 * (kids.length : Int)) (by omega), w64_id (by omega)]
              · refine Ev.neg (dfalse h14) ?_
                refine Ev.bind_eq (spec_UvarPut_ev _) ?_
                rw [show (((kids.length : Nat) : Int) % 18446744073709551616).toNat = kids.length by omega]
                have hz := uvPut_len10 (u := kids.length) (by omega)
                refine Ev.pos (by simp only [LIM, List.length_append, List.length_cons, List.length_nil]; omega) ?_
                refine fin _ ?_
                unfold listHead
                rw [if_neg h14, Int.toNat_natCast]
                rw [List.nil_append, b8_of (y := 240 + num) (w64_id (by omega)) (by omega)]
                rfl
            · refine Ev.neg (by simp [h9]) ?_
              by_cases h12 : kind = 12
              · subst h12
                refine Ev.pos (by simp) ?_
                refine Ev.bind_eq (spec_packF L hl d ihd num (kids.length : Int) (by omega) id text kids 0 0 (a + 1) [] L' (fun k => k) (fun k => Nat.le_refl _) (Int.le_refl 0) hk hdk (by omega) (by rw [List.length_nil]; omega)) ?_
                have he := (encs_len hk (by omega)).2
                refine Ev.pos (by simp only [LIM, List.nil_append]; omega) (Ev.ret ?_)
                simp only [Tr.enc, if_neg h56, if_neg h8, if_neg h9, if_true]
                rw [hres]; rfl
              · refine Ev.neg (by simp [h12]) (Ev.ret ?_)
                have h0 : kids = [] := by
                  unfold plainB at hpl
                  simp only [not_or] at h56
                  simp only [h56.1, h56.2, h8, h9, h12, if_false] at hpl
                  simp at hpl
                  exact hpl.2
                simp only [Tr.enc, if_neg h56, if_neg h8, if_neg h9, if_neg h12]
                rw [← hres, h0]; rfl
      by_cases h5 : kind = 5
      · refine Ev.pos (by simp [h5]) (key _ (by simp [h5]))
      · refine Ev.neg (by simp [h5]) (key _ (by simp [h5]; rfl))

theorem spec_TreeOk_ev (hB : ∀ x ∈ L, BdI x) (hN : ∀ x ∈ L, BdN x) : Ev (fun k => spec_TreeOk k L) (· = (treeOk L).isSome) := by
  simp only [spec_TreeOk, spec_l1In_eq, Option.bind_some]
  unfold treeOk
  by_cases hlen : 1 ≤ L.length ∧ L.length ≤ 1500
  · refine Ev.neg (by simp; omega) (Ev.pos (by omega) ?_)
    rw [if_pos hlen]
    cases L with
    | nil => simp at hlen
    | cons x r =>
      simp only [List.getD_cons_zero]
      by_cases h12 : x.1 = 12
      · refine Ev.neg (by simp [h12]) ?_
        by_cases h0 : x.2.1 = 0
        · refine Ev.neg (by simp [h0]) ?_
          rw [if_pos ⟨h12, h0⟩]
          refine Ev.bind_eq (spec_l4Check_ev (x :: r) (by omega) hB hN 12 (by omega) 0 (by omega)) (Ev.ret ?_)
          rw [List.drop_zero]
          cases hp : pTree 12 (x :: r) with
          | none => simp only [posOf]; simp; omega
          | some z =>
            obtain ⟨t, L'⟩ := z
            cases L' with
            | nil => simp [posOf]
            | cons y r' => simp [posOf]; omega
        · exact Ev.pos (by simp [h0]) (Ev.ret (by simp [h0]))
      · exact Ev.pos (by simp [h12]) (Ev.ret (by simp [h12]))
  · refine Ev.pos (by simp; omega) (Ev.ret (by rw [if_neg hlen]; rfl))

theorem spec_TreePack_ev (hB : ∀ x ∈ L, BdI x) (hN : ∀ x ∈ L, BdN x) : Ev (fun k => spec_TreePack k L) (· = treePack L) := by
  simp only [spec_TreePack]
  refine Ev.bind_eq (spec_TreeOk_ev L hB hN) ?_
  unfold treePack
  cases h : treeOk L with
  | none => exact Ev.pos rfl (Ev.ret rfl)
  | some t =>
    refine Ev.neg (by simp) ?_
    obtain ⟨h1, h2, _, _, _, h6, _⟩ := treeOk_some h
    refine Ev.bind_eq (spec_l4Pack_ev L h6 12 t 0 [] h2 (by rw [List.drop_zero, List.append_nil]; exact h1)) (Ev.ret rfl)
end
end Go.Proofs.Ytpggmokeohleiaa

/- Plain: the bytes of a right tree, as they are packed. -/
namespace Go.V
open Go

/-! ### A part of a list put anew -/
def patch {α : Type} (A : List α) (q : Nat) (X : List α) : List α := A.take q ++ X ++ A.drop (q + X.length)
theorem patch_len {α : Type} {A X : List α} {q : Nat} (h : q + X.length ≤ A.length) : (patch A q X).length = A.length := by
  simp only [patch, List.length_append, List.length_take, List.length_drop]; omega
theorem patch_nil {α : Type} (A : List α) (q : Nat) : patch A q [] = A := by simp [patch]
theorem patch_patch {α : Type} {A X Y : List α} {q : Nat} (h : q + X.length ≤ A.length) : patch (patch A q X) (q + X.length) Y = patch A q (X ++ Y) := by
  have h1 : (A.take q ++ X).length = q + X.length := by rw [List.length_append, List.length_take]; omega
  simp only [patch]
  rw [List.take_left' h1, show q + X.length + Y.length = (A.take q ++ X).length + Y.length by rw [h1], ← List.drop_drop, List.drop_left, List.drop_drop]
  simp [Nat.add_assoc]
theorem patch_set {α : Type} {A X : List α} {q : Nat} (h : q < A.length) (v : α) : (patch A (q + 1) X).set q v = patch A q (v :: X) := by
  have h1 : A.take (q + 1) = A.take q ++ [A[q]] := by rw [List.take_succ_eq_append_getElem h]
  have h2 : (A.take q).length = q := by rw [List.length_take]; omega
  simp only [patch, h1, List.append_assoc, List.length_cons]
  rw [List.set_append_right _ _ (by omega)]
  rw [h2, Nat.sub_self]
  simp [Nat.add_assoc, Nat.add_comm 1]

mutual
/-- The places behind the nodes of a tree at a place. -/
def Tr.aft : Nat → Tr → List Int
  | a, .mk _ _ _ _ kids => ((a + 1 + (flats kids).length : Nat) : Int) :: afts (a + 1) kids
def afts : Nat → List Tr → List Int
  | _, [] => []
  | a, t :: ts => t.aft a ++ afts (a + t.flat.length) ts
end
mutual
theorem aft_len : ∀ (t : Tr) (a : Nat), (t.aft a).length = t.flat.length
  | .mk _ _ _ _ kids, a => by simp only [Tr.aft, Tr.flat, List.length_cons, afts_len kids]
theorem afts_len : ∀ (ts : List Tr) (a : Nat), (afts a ts).length = (flats ts).length
  | [], _ => rfl
  | t :: ts, a => by simp only [afts, flats, List.length_append, aft_len t, afts_len ts]
end
theorem Tr.aft_head (t : Tr) (a : Nat) : ∃ r, t.aft a = ((a + t.flat.length : Nat) : Int) :: r := by
  cases t with
  | mk kind id num text kids =>
    refine ⟨afts (a + 1) kids, ?_⟩
    simp only [Tr.aft, Tr.flat, List.length_cons]
    rw [show a + 1 + (flats kids).length = a + ((flats kids).length + 1) by omega]
end Go.V

namespace Go.Proofs.Ytpggmokeohleiaa
open Go Go.V

theorem impl_nodeOk_eq (k : Nat) (x : Nd) (h : BdN x) : impl_nodeOk k x = some (plainB x) := by
  obtain ⟨x1, x2, x3, x4, x5⟩ := x
  simp only [BdN] at h
  have h64 : i64B x3 = true := by simp [i64B, h]
  simp only [impl_nodeOk, impl_isInt32_eq, impl_isType_eq, Option.bind_some, plainB, h64, beq_iff_eq, decide_eq_true_eq]
  by_cases h5 : x1 = 5
  · rw [if_pos h5, if_pos h5]
    by_cases h3 : int32B x3 = true <;> by_cases h4 : x4 = [] <;> simp [h3, h4]
  · rw [if_neg h5, if_neg h5]
    by_cases h6 : x1 = 6
    · rw [if_pos h6, if_pos h6]
      by_cases h4 : x4 = [] <;> simp [h4]
    · rw [if_neg h6, if_neg h6]
      by_cases h8 : x1 = 8
      · rw [if_pos h8, if_pos h8]
        by_cases h3 : x3 = 0 <;> by_cases h4 : x4.length ≤ 300 <;> simp [h3, h4] <;> omega
      · rw [if_neg h8, if_neg h8]
        by_cases h9 : x1 = 9
        · rw [if_pos h9, if_pos h9]
          by_cases h4 : x4 = []
          · by_cases h5 : 0 ≤ x5
            · by_cases h50 : x5 = 0
              · subst h50
                by_cases h3 : x3 = 0 <;> simp [h3, h4]
              · have h7 : 0 < x5 := by omega
                simp [h4, h50, h7, h5]
            · simp [h4, h5]
          · simp [h4]
        · rw [if_neg h9, if_neg h9]
          by_cases h12' : x1 = 12
          · rw [if_pos h12', if_pos h12']
            by_cases h3 : x3 = 0 <;> by_cases h4 : x4 = [] <;> simp [h3, h4]
          · rw [if_neg h12', if_neg h12']
            by_cases h12 : x1 = 1 ∨ x1 = 2
            · have : isKind x1 false = true := by rcases h12 with h | h <;> simp [isKind, h]
              by_cases h3 : x3 = 0 <;> by_cases h4 : x4 = [] <;> simp [h12, h3, h4, this]
            · have : isKind x1 false = false := by
                cases hk : isKind x1 false with
                | false => rfl
                | true => have := kind_cases hk; omega
              simp [h12, this]

/-- What measure tells. -/
def PMeas (L : List GNode) (A : List Int) (a : Nat) (x : Option (Tr × List Nd)) (r : Int × List GNode × List Int) : Prop :=
  match x with
  | none => r.1 = -1
  | some (t, _) => r = (((a + t.flat.length : Nat) : Int), L, patch A a (t.aft a))
def PMeasL (L : List GNode) (A : List Int) (at0 : Int) (q : Nat) (x : Option (List Tr × List Nd)) (r : (Int × Int × List GNode × List Int) ⊕ GTree) : Prop :=
  match x with
  | none => ∃ z, r = .inr z
  | some (ts, _) => r = .inl (at0, ((q + (flats ts).length : Nat) : Int), L, patch A q (afts q ts))

section
variable (L : List GNode)

theorem pTree_drop' {d a : Nat} {t : Tr} {L' : List Nd} (h : pTree d (L.drop a) = some (t, L')) : L' = L.drop (a + t.flat.length) ∧ a + t.flat.length ≤ L.length := by
  have h1 := pTree_flat _ _ _ _ h
  exact ⟨(drop_kids h1).symm, (head_at h1).2.2⟩

theorem impl_measL (hl : L.length ≤ 274877906944) (hB : ∀ x ∈ L, BdI x) (d : Nat) (hd : d ≤ 12) (ih : ∀ (a : Nat) (A : List Int), a ≤ L.length → A.length = L.length → Ev (fun k => impl_tree_measure k (L, A) (a : Int) (13 - (d : Int))) (PMeas L A a (pTree d (L.drop a)))) (at0 kind num many : Int) (e1 e5 : Int) (e3 : Bs) :
    ∀ (f : Nat) (i next : Nat) (last : Int) (A : List Int) (g : Nat → Nat), (∀ k, k ≤ g k) → L.length - next ≤ f → next ≤ L.length → i ≤ next → A.length = L.length → (kind = 12 → 0 ≤ last ∧ last ≤ 1000) →
    Ev (fun k => impl_tree_measurel1 (impl_tree_measure (g k)) k at0 (12 - (d : Int)) (next : Int) last many (i : Int) L A kind e1 num e3 e5)
      (PMeasL L A at0 next (pKids (pTree d) kind num (many - (i : Int)).toNat last (L.drop next))) := by
  intro f
  induction f with
  | zero =>
    intro i next last A g hg hf hn hi hA hlast
    apply Ev.succ
    simp only [impl_tree_measurel1]
    rw [List.drop_eq_nil_of_le (by omega)]
    by_cases h : (i : Int) < many
    · obtain ⟨m, hm⟩ : ∃ m, (many - (i : Int)).toNat = m + 1 := ⟨(many - (i : Int)).toNat - 1, by omega⟩
      rw [hm]
      exact Ev.pos (dtrue h) (Ev.pos (dtrue (by omega)) (Ev.ret ⟨_, rfl⟩))
    · rw [show (many - (i : Int)).toNat = 0 by omega]
      refine Ev.neg (dfalse h) (Ev.ret ?_)
      simp [PMeasL, pKids, flats, afts, patch_nil]
  | succ f ihf =>
    intro i next last A g hg hf hn hi hA hlast
    apply Ev.succ
    simp only [impl_tree_measurel1]
    by_cases h : (i : Int) < many
    · obtain ⟨m, hm⟩ : ∃ m, (many - (i : Int)).toNat = m + 1 := ⟨(many - (i : Int)).toNat - 1, by omega⟩
      rw [hm]
      refine Ev.pos (dtrue h) ?_
      by_cases hlt : next < L.length
      · refine Ev.neg (dfalse (by omega)) (Ev.pos ⟨by omega, by omega⟩ ?_)
        rw [Int.toNat_natCast]
        have hdrop := drop_nd hlt
        have hmem := getD_mem hlt
        have hlen1 : (L.drop next).length = L.length - next := List.length_drop
        obtain ⟨x, hx⟩ : ∃ x, L.getD next nd0 = x := ⟨_, rfl⟩
        rw [hx] at hdrop hmem
        have hid := hB x hmem
        simp only [BdI] at hid
        have hx' : L.getD next (0, 0, 0, [], 0) = x := hx
        simp only [hx']
        -- behind the part
        have fin : partB kind num last x = true → ∀ (e10 e12 : Int) (e13 : Bs) (e14 : Int), Ev (fun k => impl_tree_measurej2 (impl_tree_measure (g (k + 1))) k (fun (i : Int × Int × Int × Int × Int × Int × (List GNode) × (List Int) × Int × Int × Int × Bs × Int) => impl_tree_measurel1 (impl_tree_measure (g (k + 1))) k i.1 i.2.1 i.2.2.1 i.2.2.2.1 i.2.2.2.2.1 i.2.2.2.2.2.1 i.2.2.2.2.2.2.1 i.2.2.2.2.2.2.2.1 i.2.2.2.2.2.2.2.2.1 i.2.2.2.2.2.2.2.2.2.1 i.2.2.2.2.2.2.2.2.2.2.1 i.2.2.2.2.2.2.2.2.2.2.2.1 i.2.2.2.2.2.2.2.2.2.2.2.2) at0 (12 - (d : Int)) (next : Int) many (i : Int) L A kind e1 num e3 e5 e10 x.2.1 e12 e13 e14)
            (PMeasL L A at0 next (pKids (pTree d) kind num (m + 1) last (L.drop next))) := by
          intro hpb e10 e12 e13 e14
          simp only [impl_tree_measurej2]
          rw [w64_id (n := 12 - (d : Int) + 1) (by omega), show 12 - (d : Int) + 1 = 13 - (d : Int) by omega, w64_id (n := (i : Int) + 1) (by omega)]
          refine Ev.bind ((ih next A (by omega) hA).comp (g := fun k => g (k + 1)) (fun k => by have := hg (k + 1); omega)) fun y hy => ?_
          cases hp : pTree d (L.drop next) with
          | none =>
            rw [hp] at hy
            have hy : y.1 = -1 := hy
            rw [hdrop] at hp ⊢
            rw [pKids_none hp]
            exact Ev.pos (dtrue (by omega)) (Ev.ret ⟨_, rfl⟩)
          | some z =>
            obtain ⟨t, L'⟩ := z
            obtain ⟨rfl, hq⟩ := pTree_drop' L hp
            rw [hp] at hy
            have hy : y = (((next + t.flat.length : Nat) : Int), L, patch A next (t.aft next)) := hy
            subst hy
            refine Ev.neg (dfalse (by simp only; omega)) ?_
            rw [hdrop] at hp ⊢
            rw [pKids_some hpb hp]
            simp only
            rw [show ((i : Int) + 1) = ((i + 1 : Nat) : Int) by omega]
            have hal := aft_len t next
            have hpl : (patch A next (t.aft next)).length = L.length := by rw [patch_len (by rw [hal]; omega), hA]
            have hnx : kind = 12 → 0 ≤ x.2.1 ∧ x.2.1 ≤ 1000 := by
              intro h12
              have := hlast h12
              simp [partB, h12] at hpb
              omega
            refine (ihf (i + 1) (next + t.flat.length) x.2.1 _ (fun k => g (k + 1)) (fun k => by have := hg (k + 1); omega) (by have := t.flat_pos; omega) hq (by have := t.flat_pos; omega) hpl hnx).mono fun r hr => ?_
            rw [show (many - ((i + 1 : Nat) : Int)).toNat = m by omega] at hr
            revert hr
            cases pKids (pTree d) kind num m x.2.1 (L.drop (next + t.flat.length)) with
            | none => exact fun h => h
            | some z =>
              intro h
              have h : r = .inl (at0, ((next + t.flat.length + (flats z.1).length : Nat) : Int), L, patch (patch A next (t.aft next)) (next + t.flat.length) (afts (next + t.flat.length) z.1)) := h
              show r = .inl (at0, ((next + (flats (t :: z.1)).length : Nat) : Int), L, patch A next (afts next (t :: z.1)))
              rw [h]
              simp only [flats, afts, List.length_append]
              rw [← patch_patch (by rw [hal]; omega), hal, Nat.add_assoc]
        have bad : ¬ partB kind num last x = true → PMeasL L A at0 next (pKids (pTree d) kind num (m + 1) last (L.drop next)) (.inr (L, A)) := by
          intro hpb
          rw [hdrop, pKids_bad hpb]
          exact ⟨_, rfl⟩
        by_cases h9 : kind = 9
        · refine Ev.pos (by simp [h9]) ?_
          by_cases hk : x.1 = num
          · refine Ev.neg (by simp [hk]) ?_
            by_cases hi0 : x.2.1 = 0
            · refine Ev.neg (by simp [hi0]) ?_
              simp only [impl_tree_measurej3]
              refine Ev.neg (by simp [h9]) ?_
              exact fin (by simp [partB, h9, hk, hi0]) _ _ _ _
            · exact Ev.pos (by simp [hi0]) (Ev.ret (bad (by simp [partB, h9, hi0])))
          · exact Ev.pos (by simp [hk]) (Ev.ret (bad (by simp [partB, h9, hk])))
        · refine Ev.neg (by simp [h9]) ?_
          simp only [impl_tree_measurej3]
          by_cases h12 : kind = 12
          · refine Ev.pos (by simp [h12]) ?_
            have hl0 := hlast h12
            rw [w64_id (n := last + 1) (by omega)]
            simp only [impl_within_eq, Option.bind_some]
            by_cases hk : last + 1 ≤ x.2.1 ∧ x.2.1 ≤ 1000
            · refine Ev.neg (by simp [hk]) ?_
              exact fin (by simp [partB, h12]; omega) _ _ _ _
            · exact Ev.pos (by simp; omega) (Ev.ret (bad (by simp [partB, h12]; omega)))
          · refine Ev.neg (by simp [h12]) ?_
            exact fin (by simp [partB, h9, h12]) _ _ _ _
      · refine Ev.pos (dtrue (by omega)) (Ev.ret ?_)
        rw [List.drop_eq_nil_of_le (by omega)]
        exact ⟨_, rfl⟩
    · rw [show (many - (i : Int)).toNat = 0 by omega]
      refine Ev.neg (dfalse h) (Ev.ret ?_)
      simp [PMeasL, pKids, flats, afts, patch_nil]

theorem impl_meas_ev (hl : L.length ≤ 274877906944) (hB : ∀ x ∈ L, BdI x) (hN : ∀ x ∈ L, BdN x) : ∀ (d : Nat), d ≤ 12 → ∀ (a : Nat) (A : List Int), a ≤ L.length → A.length = L.length →
    Ev (fun k => impl_tree_measure k (L, A) (a : Int) (13 - (d : Int))) (PMeas L A a (pTree d (L.drop a))) := by
  intro d
  induction d with
  | zero =>
    intro hd a A ha hA
    apply Ev.succ
    simp only [impl_tree_measure, impl_tree_measureb]
    by_cases h : (a : Int) ≥ (L.length : Int)
    · exact Ev.pos (dtrue h) (Ev.ret rfl)
    · exact Ev.neg (dfalse h) (Ev.pos (dtrue (by omega)) (Ev.ret rfl))
  | succ d ihd =>
    intro hd a A ha hA
    apply Ev.succ
    simp only [impl_tree_measure, impl_tree_measureb]
    by_cases h : (a : Int) ≥ (L.length : Int)
    · refine Ev.pos (dtrue h) (Ev.ret ?_)
      rw [List.drop_eq_nil_of_le (by omega)]; rfl
    · refine Ev.neg (dfalse h) (Ev.neg (dfalse (by omega)) (Ev.pos ⟨by omega, by omega⟩ ?_))
      rw [Int.toNat_natCast]
      have hlt : a < L.length := by omega
      have hdrop := drop_nd hlt
      have hmem := getD_mem hlt
      obtain ⟨x, hx⟩ : ∃ x, L.getD a nd0 = x := ⟨_, rfl⟩
      rw [hx] at hdrop hmem
      have hx' : L.getD a (0, 0, 0, [], 0) = x := hx
      simp only [hx']
      obtain ⟨x1, x2, x3, x4, x5⟩ := x
      simp only [impl_nodeOk_eq _ (x1, x2, x3, x4, x5) (hN _ hmem), Option.bind_some]
      have hpt : ∀ (ts : List Tr) (L' : List Nd), plainB (x1, x2, x3, x4, x5) = true → pKids (pTree d) x1 x3 x5.toNat 0 (L.drop (a + 1)) = some (ts, L') → pTree (d + 1) (L.drop a) = some (Tr.mk x1 x2 x3 x4 ts, L') := by
        intro ts L' h1 h2
        rw [hdrop]
        simp only [pTree]
        rw [if_pos h1, h2]
      have hpt0 : plainB (x1, x2, x3, x4, x5) = true → pKids (pTree d) x1 x3 x5.toNat 0 (L.drop (a + 1)) = none → pTree (d + 1) (L.drop a) = none := by
        intro h1 h2
        rw [hdrop]
        simp only [pTree]
        rw [if_pos h1, h2]
      cases hpl : plainB (x1, x2, x3, x4, x5) with
      | false =>
        refine Ev.pos (by simp) (Ev.ret ?_)
        rw [hdrop]
        simp only [pTree]
        rw [if_neg (by simp [hpl])]
        rfl
      | true =>
        refine Ev.neg (by simp) ?_
        rw [w64_id (n := (a : Int) + 1) (by omega), show ((a : Int) + 1) = ((a + 1 : Nat) : Int) by omega, show (13 - ((d + 1 : Nat) : Int)) = 12 - (d : Int) by omega]
        have hm := impl_measL L hl hB d (by omega) (ihd (by omega)) (a : Int) x1 x3 x5 x2 x5 x4 (L.length - (a + 1)) 0 (a + 1) 0 A (fun k => k) (fun k => Nat.le_refl _) (Nat.le_refl _) (by omega) (by omega) hA (by omega)
        refine Ev.bind hm fun r hr => ?_
        rw [show (x5 - ((0 : Nat) : Int)).toNat = x5.toNat by omega] at hr
        cases hk : pKids (pTree d) x1 x3 x5.toNat 0 (L.drop (a + 1)) with
        | none =>
          rw [hk] at hr
          obtain ⟨z, rfl⟩ := hr
          rw [hpt0 hpl hk]
          exact Ev.ret rfl
        | some z =>
          obtain ⟨ts, L'⟩ := z
          rw [hk] at hr
          have hr : r = .inl ((a : Int), ((a + 1 + (flats ts).length : Nat) : Int), L, patch A (a + 1) (afts (a + 1) ts)) := hr
          subst hr
          have hlen := (pTree_drop' L (hpt ts L' hpl hk)).2
          simp only [Tr.flat, List.length_cons] at hlen
          rw [hpt ts L' hpl hk]
          have hpl2 : (patch A (a + 1) (afts (a + 1) ts)).length = A.length := patch_len (by rw [afts_len]; omega)
          simp only [Sum.elim_inl]
          refine Ev.pos ⟨by omega, by omega⟩ (Ev.ret ?_)
          show _ = (((a + (Tr.mk x1 x2 x3 x4 ts).flat.length : Nat) : Int), L, patch A a ((Tr.mk x1 x2 x3 x4 ts).aft a))
          rw [Int.toNat_natCast, patch_set (by omega)]
          simp only [Tr.aft, Tr.flat, List.length_cons]
          rw [show a + 1 + (flats ts).length = a + ((flats ts).length + 1) by omega]

/-- The tree of a list, with its places. -/
def treeAft (L : List Nd) : Unit ⊕ GTree :=
  match treeOk L with
  | none => .inl ()
  | some t => .inr (L, t.aft 0)

theorem impl_treeOf_ev (hB : ∀ x ∈ L, BdI x) (hN : ∀ x ∈ L, BdN x) : Ev (fun k => impl_treeOf k L) (· = treeAft L) := by
  simp only [impl_treeOf, impl_within_eq, Option.bind_some]
  by_cases hlen : 1 ≤ L.length ∧ L.length ≤ 1500
  · refine Ev.neg (by simp; omega) (Ev.pos ⟨trivial, by omega, by simp only [LIM]; omega⟩ (Ev.pos (by omega) ?_))
    cases L with
    | nil => simp at hlen
    | cons x r =>
      simp only [List.getD_cons_zero]
      by_cases h12 : x.1 = 12
      · refine Ev.neg (by simp [h12]) ?_
        by_cases h0 : x.2.1 = 0
        · refine Ev.neg (by simp [h0]) ?_
          have hm := impl_meas_ev (x :: r) (by omega) hB hN 12 (by omega) 0 (List.replicate (((x :: r).length : Int).toNat) 0) (by omega) (by rw [List.length_replicate, Int.toNat_natCast])
          refine Ev.bind hm fun y hy => ?_
          rw [List.drop_zero] at hy
          unfold treeAft treeOk
          rw [if_pos hlen]
          simp only
          rw [if_pos (show x.1 = 12 ∧ x.2.1 = 0 from ⟨h12, h0⟩)]
          cases hp : pTree 12 (x :: r) with
          | none =>
            rw [hp] at hy
            have hy : y.1 = -1 := hy
            exact Ev.pos (by rw [hy]; simp; omega) (Ev.ret rfl)
          | some z =>
            obtain ⟨t, L'⟩ := z
            rw [hp] at hy
            have hy : y = (((0 + t.flat.length : Nat) : Int), x :: r, patch (List.replicate (((x :: r).length : Int).toNat) 0) 0 (t.aft 0)) := hy
            have hf := congrArg List.length (pTree_flat _ _ _ _ hp)
            rw [List.length_append] at hf
            cases L' with
            | nil =>
              rw [List.length_nil] at hf
              refine Ev.neg (by rw [hy]; simp only [bne_iff_ne, ne_eq, Decidable.not_not]; omega) (Ev.ret ?_)
              rw [hy]
              simp only [patch, List.take_zero, List.nil_append]
              rw [List.drop_eq_nil_of_le (by rw [List.length_replicate, aft_len]; omega), List.append_nil]
            | cons c r' =>
              have hc : (c :: r').length = r'.length + 1 := rfl
              refine Ev.pos (by rw [hy]; simp only [bne_iff_ne, ne_eq]; omega) (Ev.ret rfl)
        · refine Ev.pos (by simp [h0]) (Ev.ret ?_)
          unfold treeAft treeOk
          rw [if_pos hlen]; simp [h0]
      · refine Ev.pos (by simp [h12]) (Ev.ret ?_)
        unfold treeAft treeOk
        rw [if_pos hlen]; simp [h12]
  · refine Ev.pos (by simp; omega) (Ev.ret ?_)
    unfold treeAft treeOk
    rw [if_neg hlen]
end
end Go.Proofs.Ytpggmokeohleiaa

/- Plain: the bytes of a right tree, packed behind its places. -/
namespace Go.Proofs.Ytpggmokeohleiaa
open Go Go.V

theorem impl_headOf_ev (x : Nd) (last : Int) (h1 : 1 ≤ x.1 ∧ x.1 ≤ 12) (h2 : 0 ≤ last ∧ last < x.2.1 ∧ x.2.1 ≤ 1000) : Ev (fun k => impl_headOf k x last) (· = headBytes last x.1 x.2.1) := by
  simp only [impl_headOf]
  rw [w64_id (n := x.2.1 - last) (by omega)]
  unfold headBytes
  by_cases h15 : x.2.1 - last ≤ 15
  · refine Ev.pos (dtrue h15) (Ev.ret ?_)
    rw [if_pos h15]
    congr 1
    refine b8_of ?_ (by omega)
    rw [w64_id (n := 16 * (x.2.1 - last)) (by omega), w64_id (by omega)]
  · refine Ev.neg (dfalse h15) (Ev.bind_eq (impl_ZigPut_ev _ (by omega)) ?_)
    have hz := zigPut_len x.2.1
    refine Ev.pos (by simp only [LIM]; omega) (Ev.ret ?_)
    rw [if_neg h15, b8_of rfl (by omega)]
    rfl

section
variable (L : List GNode) (A : List Int)

theorem aft_at {A A' : List Int} {a : Nat} {t : Tr} (h : A.drop a = t.aft a ++ A') : a < A.length ∧ A.getD a 0 = ((a + t.flat.length : Nat) : Int) := by
  have hlen := congrArg List.length h
  rw [List.length_append, List.length_drop, aft_len] at hlen
  have hpos := t.flat_pos
  have hlt : a < A.length := by omega
  refine ⟨hlt, ?_⟩
  obtain ⟨r, hr⟩ := t.aft_head a
  rw [List.drop_eq_getElem_cons hlt, hr, List.cons_append, List.cons.injEq] at h
  rw [← h.1]
  simp [List.getD_eq_getElem?_getD, hlt]
theorem drop_aft {A A' X : List Int} {a : Nat} {t : Tr} (h : A.drop a = t.aft a ++ X) : A.drop (a + t.flat.length) = X := by
  have h4 := congrArg (List.drop (t.aft a).length) h
  rw [List.drop_left, List.drop_drop, aft_len] at h4
  exact h4

theorem impl_packL (hl : L.length ≤ 1500) (d : Nat) (ih : ∀ (t : Tr) (a : Nat) (L' : List Nd) (A' : List Int), Ok d t → L.drop a = t.flat ++ L' → A.drop a = t.aft a ++ A' → Ev (fun k => impl_tree_bytesOf k (L, A) (a : Int)) (· = (L, A, t.enc))) (kind num many : Int) (hm : many ≤ 1500) (e1 e5 : Int) (e3 : Bs) :
    ∀ (ts : List Tr) (last : Int) (i q : Nat) (out : Bs) (L' : List Nd) (A' : List Int) (g : Nat → Nat), (∀ k, k ≤ g k) → (kind = 12 → 0 ≤ last) → OkKids d kind num last ts → L.drop q = flats ts ++ L' → A.drop q = afts q ts ++ A' → (i : Int) + ts.length = many → out.length + 350 * (flats ts).length ≤ 1000000 →
    Ev (fun k => impl_tree_bytesOfl1 (impl_tree_bytesOf (g k)) k (q : Int) last many (i : Int) L A kind e1 num e3 e5 out) (· = (L, A, kind, e1, num, e3, e5, out ++ (if kind = 12 then encF last ts else encs ts))) := by
  intro ts
  induction ts with
  | nil =>
    intro last i q out L' A' g hg hlast hok hd hda hi ho
    apply Ev.succ
    simp only [impl_tree_bytesOfl1]
    rw [List.length_nil] at hi
    exact Ev.neg (dfalse (by omega)) (Ev.ret (by simp [encs, encF]))
  | cons t ts iht =>
    intro last i q out L' A' g hg hlast hok hd hda hi ho
    rw [List.length_cons] at hi
    cases hok with
    | cons h1 h2 h3 h4 =>
      apply Ev.succ
      simp only [impl_tree_bytesOfl1]
      refine Ev.pos (dtrue (by omega)) ?_
      simp only [flats, List.append_assoc] at hd
      simp only [afts, List.append_assoc] at hda
      simp only [flats, List.length_append] at ho
      obtain ⟨hat, hget, hle⟩ := head_at hd
      obtain ⟨haa, hga⟩ := aft_at hda
      refine Ev.pos ⟨by omega, by omega⟩ ?_
      rw [Int.toNat_natCast, hget]
      have hpl : 1 ≤ t.kind ∧ t.kind ≤ 12 := by
        cases h3 with
        | mk hp _ => exact (kind_of_plain hp).2
      have hlen := enc_len h3 (by omega)
      have fin : ∀ (hb : Bs), hb = (if kind = 12 then headBytes last t.kind t.id else []) → ∀ (e10 e12 : Int) (e13 : Bs) (e14 : Int), Ev (fun k => impl_tree_bytesOfj2 (impl_tree_bytesOf (g (k + 1))) k (fun (i : Int × Int × Int × Int × (List GNode) × (List Int) × Int × Int × Int × Bs × Int × Bs) => impl_tree_bytesOfl1 (impl_tree_bytesOf (g (k + 1))) k i.1 i.2.1 i.2.2.1 i.2.2.2.1 i.2.2.2.2.1 i.2.2.2.2.2.1 i.2.2.2.2.2.2.1 i.2.2.2.2.2.2.2.1 i.2.2.2.2.2.2.2.2.1 i.2.2.2.2.2.2.2.2.2.1 i.2.2.2.2.2.2.2.2.2.2.1 i.2.2.2.2.2.2.2.2.2.2.2) (q : Int) many (i : Int) L A kind e1 num e3 e5 (out ++ hb) e10 t.id e12 e13 e14)
          (· = (L, A, kind, e1, num, e3, e5, out ++ (if kind = 12 then encF last (t :: ts) else encs (t :: ts)))) := by
        intro hb hhb e10 e12 e13 e14
        have hhl : hb.length ≤ 11 := by
          rw [hhb]
          split
          · exact headBytes_len last t.kind t.id
          · simp
        simp only [impl_tree_bytesOfj2]
        refine Ev.bind_eq ((ih t q _ _ h3 hd hda).comp (g := fun k => g (k + 1)) (fun k => by have := hg (k + 1); omega)) ?_
        refine Ev.pos (by simp only [LIM, List.length_append]; omega) (Ev.pos ⟨by omega, by simp only; omega⟩ ?_)
        rw [Int.toNat_natCast, hga]
        rw [w64_id (n := (i : Int) + 1) (by omega), show ((i : Int) + 1) = ((i + 1 : Nat) : Int) by omega]
        refine (iht t.id (i + 1) (q + t.flat.length) (out ++ hb ++ t.enc) L' A' (fun k => g (k + 1)) (fun k => by have := hg (k + 1); omega) (fun h => by have := h2 h; have := hlast h; omega) h4 (drop_kids hd) (drop_aft (A' := A') hda) (by omega) (by simp only [List.length_append]; omega)).mono fun r hr => ?_
        rw [hr, hhb]
        by_cases h12 : kind = 12
        · simp only [if_pos h12, encF, List.append_assoc]
        · simp only [if_neg h12, encs, List.append_assoc, List.append_nil]
      by_cases h12 : kind = 12
      · refine Ev.pos (by simp [h12]) ?_
        refine Ev.bind_eq (impl_headOf_ev (t.kind, t.id, t.num, t.text, (t.kids.length : Int)) last hpl ⟨hlast h12, (h2 h12).1, (h2 h12).2⟩) ?_
        have hhl := headBytes_len last t.kind t.id
        refine Ev.pos (by simp only [LIM]; omega) ?_
        exact fin _ (by rw [if_pos h12]) _ _ _ _
      · refine Ev.neg (by simp [h12]) ?_
        have := fin [] (by rw [if_neg h12]) t.kind t.num t.text (t.kids.length : Int)
        rw [List.append_nil] at this
        exact this

theorem impl_bytesOf_ev (hl : L.length ≤ 1500) (hN : ∀ x ∈ L, BdN x) : ∀ (d : Nat) (t : Tr) (a : Nat) (L' : List Nd) (A' : List Int), Ok d t → L.drop a = t.flat ++ L' → A.drop a = t.aft a ++ A' → Ev (fun k => impl_tree_bytesOf k (L, A) (a : Int)) (· = (L, A, t.enc)) := by
  intro d
  induction d with
  | zero => intro t a L' A' h; cases h
  | succ d ihd =>
    intro t a L' A' h hd hda
    obtain ⟨hat, hget, hle⟩ := head_at hd
    cases h with
    | @mk _ kind id num text kids hpl hk =>
      apply Ev.succ
      simp only [impl_tree_bytesOf, impl_tree_bytesOfb]
      refine Ev.pos ⟨by omega, by omega⟩ ?_
      have hbn := hN _ (getD_mem hat)
      rw [show L.getD a nd0 = _ from hget] at hbn
      simp only [BdN, Tr.num] at hbn
      rw [Int.toNat_natCast, hget]
      simp only [Tr.kind, Tr.id, Tr.num, Tr.text, Tr.kids]
      simp only [Tr.flat, List.length_cons] at hle
      have hkl := flats_len kids
      have hdk : L.drop (a + 1) = flats kids ++ L' := by
        have h1 := drop_nd hat
        rw [h1] at hd
        simp only [Tr.flat, List.cons_append, List.cons.injEq] at hd
        exact hd.2
      have hdka : A.drop (a + 1) = afts (a + 1) kids ++ A' := by
        have h1 := (aft_at hda).1
        rw [List.drop_eq_getElem_cons h1] at hda
        simp only [Tr.aft, List.cons_append, List.cons.injEq] at hda
        exact hda.2
      -- the parts
      have fin : ∀ (hb : Bs), hb.length ≤ 11 → ¬ (kind = 5 ∨ kind = 6) → kind ≠ 8 → hb ++ (if kind = 12 then encF 0 kids ++ [0] else encs kids) = (Tr.mk kind id num text kids).enc →
          Ev (fun k => impl_tree_bytesOfj3 (impl_tree_bytesOf k) k (a : Int) L A kind id num text (kids.length : Int) hb) (· = (L, A, (Tr.mk kind id num text kids).enc)) := by
        intro hb hhl h56 h8 hres
        simp only [impl_tree_bytesOfj3]
        rw [w64_id (n := (a : Int) + 1) (by omega), show ((a : Int) + 1) = ((a + 1 : Nat) : Int) by omega]
        refine Ev.bind_eq (impl_packL L A hl d ihd kind num (kids.length : Int) (by omega) id (kids.length : Int) text kids 0 0 (a + 1) hb L' A' (fun k => k) (fun k => Nat.le_refl _) (fun _ => Int.le_refl 0) hk hdk hdka (by omega) (by omega)) ?_
        by_cases h12 : kind = 12
        · simp only [if_pos h12] at hres ⊢
          refine Ev.pos (by simp [h12]) ?_
          have he := (encs_len hk (by omega)).2
          refine Ev.pos (by simp only [LIM, List.length_append]; omega) (Ev.ret ?_)
          rw [← hres, List.append_assoc]
        · simp only [if_neg h12] at hres ⊢
          refine Ev.neg (by simp [h12]) (Ev.ret ?_)
          rw [← hres]
      have key : ∀ c : Bool, c = decide (kind = 5 ∨ kind = 6) → Ev (fun k => impl_tree_bytesOfj4 (impl_tree_bytesOf k) k (a : Int) kind c L A kind id num text (kids.length : Int)) (· = (L, A, (Tr.mk kind id num text kids).enc)) := by
        intro c hc
        simp only [impl_tree_bytesOfj4]
        by_cases h56 : kind = 5 ∨ kind = 6
        · refine Ev.pos (by simp [hc, h56]) ?_
          refine Ev.bind_eq (impl_ZigPut_ev _ hbn) (Ev.ret ?_)
          simp only [Tr.enc, if_pos h56]
        · refine Ev.neg (by simp [hc, h56]) ?_
          by_cases h8 : kind = 8
          · refine Ev.pos (by simp [h8]) ?_
            have h0 : text.length ≤ 300 ∧ kids = [] := by
              unfold plainB at hpl
              simp [h8] at hpl
              exact ⟨hpl.1.2, hpl.2⟩
            refine Ev.bind_eq (impl_UvarPut_ev _) ?_
            rw [show (((text.length : Nat) : Int) % 18446744073709551616).toNat = text.length by omega]
            have hz := uvPut_len10 (u := text.length) (by omega)
            refine Ev.pos (by simp only [LIM]; omega) (Ev.ret ?_)
            simp only [Tr.enc, if_neg h56, if_pos h8]
          · refine Ev.neg (by simp [h8]) ?_
            by_cases h9 : kind = 9
            · refine Ev.pos (by simp [h9]) ?_
              have hnum : 0 ≤ num ∧ num ≤ 12 := by
                unfold plainB at hpl
                simp [h9] at hpl
                rcases hpl.2 with h | h
                · omega
                · rcases item_cases h.2 with h | h | h | h | h <;> omega
              have h12 : ¬ kind = 12 := by omega
              have hhl := listHead_len (m := kids.length) (by omega) num
              have hres : ∀ hb, hb = listHead kids.length num → hb ++ (if kind = 12 then encF 0 kids ++ [0] else encs kids) = (Tr.mk kind id num text kids).enc := by
                intro hb h
                simp only [Tr.enc, if_neg h56, if_neg h8, if_pos h9, if_neg h12]
                rw [h]
              by_cases h14 : (kids.length : Int) ≤ 14
              · refine Ev.pos (dtrue h14) (fin _ (by simp) h56 h8 (hres _ ?_))
                unfold listHead
                rw [if_pos h14]
                rw [List.nil_append, b8_of (y := 16 * (kids.length : Int) + num) ?_ (by omega)]
                rw [w64_id (n := 16 * (kids.length : Int)) (by omega), w64_id (by omega)]
              · refine Ev.neg (dfalse h14) ?_
                refine Ev.bind_eq (impl_UvarPut_ev _) ?_
                rw [show (((kids.length : Nat) : Int) % 18446744073709551616).toNat = kids.length by omega]
                have hz := uvPut_len10 (u := kids.length) (by omega)
                refine Ev.pos (by simp only [LIM]; omega) (fin _ (by simp; omega) h56 h8 (hres _ ?_))
                unfold listHead
                rw [if_neg h14, Int.toNat_natCast]
                rw [b8_of (y := 240 + num) (w64_id (by omega)) (by omega)]
                rfl
            · refine Ev.neg (by simp [h9]) (fin [] (by simp) h56 h8 ?_)
              by_cases h12 : kind = 12
              · simp only [Tr.enc, if_neg h56, if_neg h8, if_neg h9, if_pos h12, List.nil_append]
              · have h0 : kids = [] := by
                  unfold plainB at hpl
                  simp only [not_or] at h56
                  simp only [h56.1, h56.2, h8, h9, h12, if_false] at hpl
                  simp at hpl
                  exact hpl.2
                simp only [Tr.enc, if_neg h56, if_neg h8, if_neg h9, if_neg h12, h0, encs, List.nil_append]
      by_cases h5 : kind = 5
      · refine Ev.pos (by simp [h5]) (key _ (by simp [h5]))
      · refine Ev.neg (by simp [h5]) (key _ (by simp [h5]; rfl))

theorem impl_TreePack_ev (hB : ∀ x ∈ L, BdI x) (hN : ∀ x ∈ L, BdN x) : Ev (fun k => impl_TreePack k L) (· = treePack L) := by
  simp only [impl_TreePack]
  refine Ev.bind_eq (impl_treeOf_ev L hB hN) ?_
  unfold treePack treeAft
  cases h : treeOk L with
  | none => exact Ev.ret rfl
  | some t =>
    obtain ⟨h1, h2, _, _, _, h6, _⟩ := treeOk_some h
    simp only [Sum.elim_inr]
    refine Ev.bind_eq (impl_bytesOf_ev L (t.aft 0) h6 hN 12 t 0 [] [] h2 (by rw [List.drop_zero, List.append_nil]; exact h1) (by rw [List.drop_zero, List.append_nil])) (Ev.ret rfl)
end
end Go.Proofs.Ytpggmokeohleiaa

/- Plain: what is drawn comes to something. -/
namespace Go.Proofs.Ytpggmokeohleiaa
open Go Go.V

/-- A cursor that stands well. -/
def Cur (c : GL1Cur) : Prop := 0 ≤ c.2.1 ∧ c.1.length ≤ 4611686018427387904
def BdZ (n : Int) : Prop := -9223372036854775808 ≤ n ∧ n ≤ 9223372036854775807

theorem and255_bd (x : Int) : 0 ≤ bitI .and .i64 x 255 ∧ bitI .and .i64 x 255 ≤ 255 := by rw [and255]; omega

theorem spec_l1Byte_ev (c : GL1Cur) (hc : Cur c) : Ev (fun k => spec_l1Byte k c) (fun r => 0 ≤ r.1 ∧ r.1 ≤ 255 ∧ Cur r.2) := by
  obtain ⟨h1, h2⟩ := hc
  simp only [spec_l1Byte]
  by_cases h : c.2.1 < (c.1.length : Int)
  · refine Ev.pos (dtrue h) (Ev.pos ⟨h1, h⟩ (Ev.ret ⟨(and255_bd _).1, (and255_bd _).2, ?_, h2⟩))
    simp only
    rw [w64_id (by omega)]; omega
  · exact Ev.neg (dfalse h) (Ev.ret ⟨(and255_bd _).1, (and255_bd _).2, h1, h2⟩)

theorem spec_l1Below_ev (c : GL1Cur) (hc : Cur c) (n : Int) : Ev (fun k => spec_l1Below k c n) (fun r => 0 ≤ r.1 ∧ r.1 ≤ 4294967295 ∧ (r.1 < n ∨ r.1 = 0) ∧ Cur r.2) := by
  simp only [spec_l1Below]
  by_cases h0 : n ≤ 0
  · exact Ev.pos (dtrue h0) (Ev.ret ⟨Int.le_refl 0, by simp, Or.inr rfl, hc⟩)
  · refine Ev.neg (dfalse h0) ?_
    by_cases h256 : n ≤ 256
    · refine Ev.pos (dtrue h256) ((spec_l1Byte_ev c hc).bind fun y hy => Ev.pos (by omega) (Ev.ret ?_))
      have h1 := Int.tmod_nonneg n hy.1
      have h2 := Int.tmod_lt_of_pos y.1 (show 0 < n by omega)
      exact ⟨h1, by simp only; omega, Or.inl h2, hy.2.2⟩
    · refine Ev.neg (dfalse h256) ((spec_l1Byte_ev c hc).bind fun y hy => (spec_l1Byte_ev _ hy.2.2).bind fun y2 hy2 => (spec_l1Byte_ev _ hy2.2.2).bind fun y3 hy3 => (spec_l1Byte_ev _ hy3.2.2).bind fun y4 hy4 => Ev.pos (by omega) (Ev.ret ?_))
      obtain ⟨a1, a2, _⟩ := hy
      obtain ⟨b1, b2, _⟩ := hy2
      obtain ⟨c1, c2, _⟩ := hy3
      obtain ⟨d1, d2, hc4⟩ := hy4
      have e : w64 (w64 (w64 (w64 (y.1 * 16777216) + w64 (y2.1 * 65536)) + w64 (y3.1 * 256)) + y4.1) = y.1 * 16777216 + y2.1 * 65536 + y3.1 * 256 + y4.1 := by
        rw [w64_id (n := y.1 * 16777216) (by omega), w64_id (n := y2.1 * 65536) (by omega), w64_id (n := y3.1 * 256) (by omega), w64_id (n := y.1 * 16777216 + y2.1 * 65536) (by omega), w64_id (n := y.1 * 16777216 + y2.1 * 65536 + y3.1 * 256) (by omega), w64_id (by omega)]
      simp only [e]
      have h0 : 0 ≤ y.1 * 16777216 + y2.1 * 65536 + y3.1 * 256 + y4.1 := by omega
      have h1 := Int.tmod_nonneg n h0
      have h2 := Int.tmod_lt_of_pos (y.1 * 16777216 + y2.1 * 65536 + y3.1 * 256 + y4.1) (show 0 < n by omega)
      have h3 : (y.1 * 16777216 + y2.1 * 65536 + y3.1 * 256 + y4.1).tmod n ≤ y.1 * 16777216 + y2.1 * 65536 + y3.1 * 256 + y4.1 := by
        by_cases hlt : y.1 * 16777216 + y2.1 * 65536 + y3.1 * 256 + y4.1 < n
        · rw [Int.tmod_eq_of_lt h0 hlt]; exact Int.le_refl _
        · omega
      exact ⟨h1, by omega, Or.inl h2, hc4⟩

theorem spec_l1PickInt_ev (c : GL1Cur) (hc : Cur c) (l : List Int) (hl : 0 < l.length) : Ev (fun k => spec_l1PickInt k c l) (fun r => r.1 ∈ l ∧ Cur r.2) := by
  simp only [spec_l1PickInt]
  refine (spec_l1Below_ev c hc _).bind fun y hy => Ev.pos ⟨hy.1, by omega⟩ (Ev.ret ⟨?_, hy.2.2.2⟩)
  have h : y.1.toNat < l.length := by omega
  simp only [List.getD_eq_getElem?_getD, List.getElem?_eq_getElem h, Option.getD_some]
  exact List.getElem_mem h

theorem spec_l1Once_ev (c : GL1Cur) (hc : Cur c) (n : Int) : Ev (fun k => spec_l1Once k c n) (fun r => Cur r.2) := by
  simp only [spec_l1Once]
  exact (spec_l1Below_ev c hc _).bind fun y hy => Ev.ret hy.2.2.2

theorem spec_l2DrawNum_ev (c : GL1Cur) (hc : Cur c) : Ev (fun k => spec_l2DrawNum k c) (fun r => BdZ r.1 ∧ Cur r.2) := by
  simp only [spec_l2DrawNum]
  refine (spec_l1Below_ev c hc _).bind fun y hy => (spec_l1Below_ev _ hy.2.2.2 _).bind fun y2 hy2 => (spec_l1Below_ev _ hy2.2.2.2 _).bind fun y3 hy3 => (spec_l1PickInt_ev _ hy3.2.2.2 _ (by simp)).bind fun y4 hy4 => Ev.ret ⟨?_, hy4.2⟩
  have hb := w64_bd (0 - y2.1)
  have h := hy4.1
  simp only [BdZ]
  simp only [List.mem_cons, List.not_mem_nil, or_false] at h
  rcases h with h | h | h | h | h | h | h | h | h | h | h | h | h | h | h | h | h | h | h <;> rw [h] <;> omega

theorem spec_l1DrawBytesL (n : Int) (hn : n ≤ 274877906944) : ∀ (d : Nat) (i : Nat) (c : GL1Cur) (out : Bs), Cur c → n - (i : Int) ≤ d → (i : Int) ≤ n → out.length ≤ i →
    Ev (fun k => spec_l1DrawBytesl1 k n (i : Int) c.1 c.2.1 c.2.2 out) (fun r => Cur (r.1, r.2.1, r.2.2.1) ∧ (r.2.2.2.length : Int) ≤ n)
  | 0, i, c, out, hc, hd, hi, ho => by
    apply Ev.succ
    simp only [spec_l1DrawBytesl1]
    exact Ev.neg (dfalse (by omega)) (Ev.ret ⟨hc, by simp only; omega⟩)
  | d + 1, i, c, out, hc, hd, hi, ho => by
    apply Ev.succ
    simp only [spec_l1DrawBytesl1]
    by_cases h : (i : Int) < n
    · refine Ev.pos (dtrue h) ((spec_l1Byte_ev (c.1, c.2.1, c.2.2) hc).bind fun y hy => Ev.pos (by simp only [LIM]; omega) ?_)
      rw [w64_id (n := (i : Int) + 1) (by omega), show ((i : Int) + 1) = ((i + 1 : Nat) : Int) by omega]
      exact spec_l1DrawBytesL n hn d (i + 1) y.2 _ hy.2.2 (by omega) (by omega) (by simp; omega)
    · exact Ev.neg (dfalse h) (Ev.ret ⟨hc, by simp only; omega⟩)
theorem spec_l1DrawBytes_ev (c : GL1Cur) (hc : Cur c) (n : Int) (hn : 0 ≤ n ∧ n ≤ 274877906943) : Ev (fun k => spec_l1DrawBytes k c n) (fun r => Cur (r.1, r.2.1, r.2.2.1) ∧ (r.2.2.2.length : Int) ≤ n) := by
  simp only [spec_l1DrawBytes]
  rw [w64_id (n := n + 1) (by omega)]
  refine (spec_l1Below_ev c hc _).bind fun y hy => ?_
  refine (spec_l1DrawBytesL y.1 (by omega) y.1.toNat 0 y.2 [] hy.2.2.2 (by omega) (by omega) (by simp)).bind fun r hr => Ev.ret ⟨hr.1, ?_⟩
  have := hr.2
  simp only; omega
theorem spec_l4DrawText_ev (c : GL1Cur) (hc : Cur c) (n : Int) (hn : 0 ≤ n ∧ n ≤ 274877906943) : Ev (fun k => spec_l4DrawText k c n) (fun r => Cur r.2 ∧ (r.1.length : Int) ≤ n) := by
  simp only [spec_l4DrawText]
  exact (spec_l1DrawBytes_ev c hc n hn).bind fun r hr => Ev.ret hr

theorem spec_l1NewL (b : Bs) (hb : b.length ≤ 4611686018427387904) : ∀ (d i : Nat) (h : Int), b.length - i ≤ d → i ≤ b.length → Ev (fun k => spec_l1Newl1 k b h (i : Int)) (fun r => r.1 = b)
  | 0, i, h, hd, hi => by
    apply Ev.succ
    simp only [spec_l1Newl1]
    exact Ev.neg (dfalse (by omega)) (Ev.ret rfl)
  | d + 1, i, h, hd, hi => by
    apply Ev.succ
    simp only [spec_l1Newl1]
    by_cases hlt : (i : Int) < (b.length : Int)
    · refine Ev.pos (dtrue hlt) ?_
      by_cases h4 : (i : Int) < 4000
      · refine Ev.pos (dtrue h4) (Ev.pos ⟨by omega, hlt⟩ ?_)
        rw [w64_id (n := (i : Int) + 1) (by omega), show ((i : Int) + 1) = ((i + 1 : Nat) : Int) by omega]
        exact spec_l1NewL b hb d (i + 1) _ (by omega) (by omega)
      · exact Ev.neg (dfalse h4) (Ev.ret rfl)
    · exact Ev.neg (dfalse hlt) (Ev.ret rfl)
theorem spec_l1New_ev (b : Bs) (hb : b.length ≤ 4611686018427387904) : Ev (fun k => spec_l1New k b) (fun r => ∀ i : Int, 0 ≤ i → Cur (r.1, i, r.2)) := by
  simp only [spec_l1New]
  refine (spec_l1NewL b hb b.length 0 _ (by omega) (by omega)).bind fun r hr => Ev.ret fun i hi => ⟨hi, ?_⟩
  simp only [hr]; exact hb

/-- Nodes whose numbers are numbers. -/
def Bds (l : List GNode) : Prop := ∀ x ∈ l, BdI x ∧ BdN x
theorem Bds.nil : Bds [] := fun _ h => by simp at h
theorem Bds.app {l m : List GNode} (h1 : Bds l) (h2 : Bds m) : Bds (l ++ m) := fun x h => by
  rcases List.mem_append.1 h with h | h
  · exact h1 x h
  · exact h2 x h
theorem Bds.one {x : GNode} (h1 : BdI x) (h2 : BdN x) : Bds [x] := fun y h => by
  rw [List.mem_singleton.1 h]; exact ⟨h1, h2⟩
theorem Bds.set {l : List GNode} (h : Bds l) (i : Nat) {x : GNode} (h1 : BdI x) (h2 : BdN x) : Bds (l.set i x) := fun y hy => by
  rcases List.mem_or_eq_of_mem_set hy with hy | hy
  · exact h y hy
  · rw [hy]; exact ⟨h1, h2⟩
theorem Bds.getD {l : List GNode} (h : Bds l) (i : Nat) : BdI (l.getD i (0, 0, 0, [], 0)) ∧ BdN (l.getD i (0, 0, 0, [], 0)) := by
  by_cases hi : i < l.length
  · exact h _ (getD_mem hi)
  · rw [List.getD_eq_getElem?_getD, List.getElem?_eq_none (by omega)]
    exact ⟨by simp [BdI], by simp [BdN]⟩

/-- How many nodes are drawn at most. -/
def nbN : Nat → Nat
  | 0 => 1
  | d + 1 => 1 + 18 * nbN d
theorem nbN_pos (d : Nat) : 1 ≤ nbN d := by cases d <;> simp [nbN]

def PDraw (n m : Nat) (r : Bs × Int × Int × List GNode) : Prop := Cur (r.1, r.2.1, r.2.2.1) ∧ Bds r.2.2.2 ∧ n ≤ r.2.2.2.length ∧ r.2.2.2.length ≤ n + m

theorem spec_drawL (d : Nat) (ih : ∀ (c : GL1Cur) (kind id : Int) (l : List GNode), Cur c → BdZ id → Bds l → l.length + nbN d ≤ 100000000 → kind ∈ [1, 2, 5, 6, 8, 9, 12] → Ev (fun k => spec_l4DrawNode k c kind id (d : Int) l) (PDraw l.length (nbN d)))
    (hd : d ≤ 3) (kind many item : Int) (hm : many ≤ 18) (hitem : item ∈ [1, 2, 5, 6, 8, 9, 12]) :
    ∀ (f : Nat) (i : Nat) (next : Int) (c : GL1Cur) (l : List GNode) (g : Nat → Nat), (∀ k, k ≤ g k) → many - (i : Int) ≤ f → Cur c → BdZ next → Bds l → l.length + f * nbN d ≤ 100000000 →
    Ev (fun k => spec_l4DrawNodel1 (spec_l4DrawNode (g k)) k kind ((d : Int) + 1) many item next (i : Int) c.1 c.2.1 c.2.2 l) (PDraw l.length (f * nbN d)) := by
  intro f
  induction f with
  | zero =>
    intro i next c l g hg hf hc hn hb hl
    apply Ev.succ
    simp only [spec_l4DrawNodel1]
    exact Ev.neg (dfalse (by omega)) (Ev.ret ⟨hc, hb, Nat.le_refl _, by simp⟩)
  | succ f ihf =>
    intro i next c l g hg hf hc hn hb hl
    have hmul : (f + 1) * nbN d = f * nbN d + nbN d := Nat.succ_mul _ _
    apply Ev.succ
    simp only [spec_l4DrawNodel1]
    by_cases h : (i : Int) < many
    · refine Ev.pos (dtrue h) ?_
      rw [w64_id (n := (d : Int) + 1 - 1) (by omega), show (d : Int) + 1 - 1 = (d : Int) by omega, w64_id (n := (i : Int) + 1) (by omega), show ((i : Int) + 1) = ((i + 1 : Nat) : Int) by omega]
      have fin : ∀ (next' : Int) (y : Bs × Int × Int × List GNode), BdZ next' → PDraw l.length (nbN d) y → Ev (fun k => spec_l4DrawNodel1 (spec_l4DrawNode (g (k + 1))) k kind ((d : Int) + 1) many item next' ((i + 1 : Nat) : Int) y.1 y.2.1 y.2.2.1 y.2.2.2) (PDraw l.length ((f + 1) * nbN d)) := by
        intro next' y hn' hy
        obtain ⟨h1, h2, h3, h4⟩ := hy
        refine (ihf (i + 1) next' (y.1, y.2.1, y.2.2.1) y.2.2.2 (fun k => g (k + 1)) (fun k => by have := hg (k + 1); omega) (by omega) h1 hn' h2 (by omega)).mono fun r hr => ?_
        obtain ⟨k1, k2, k3, k4⟩ := hr
        exact ⟨k1, k2, by omega, by omega⟩
      by_cases h12 : kind = 12
      · refine Ev.pos (by simp [h12]) ?_
        refine (spec_l1PickInt_ev (c.1, c.2.1, c.2.2) hc _ (by simp)).bind fun y hy => (spec_l1Below_ev _ hy.2 _).bind fun y2 hy2 => (spec_l1Below_ev _ hy2.2.2.2 _).bind fun y3 hy3 => ?_
        refine Ev.bind ((ih y3.2 y.1 _ l hy3.2.2.2 (w64_bd _) hb (by omega) (by have := hy.1; simpa using this)).comp (g := fun k => g (k + 1)) (fun k => by have := hg (k + 1); omega)) fun z hz => ?_
        exact fin _ z (w64_bd _) hz
      · refine Ev.neg (by simp [h12]) ?_
        refine Ev.bind ((ih (c.1, c.2.1, c.2.2) item 0 l hc ⟨by omega, by omega⟩ hb (by omega) hitem).comp (g := fun k => g (k + 1)) (fun k => by have := hg (k + 1); omega)) fun z hz => ?_
        exact fin _ z hn hz
    · exact Ev.neg (dfalse h) (Ev.ret ⟨hc, hb, Nat.le_refl _, by simp only; omega⟩)

section
variable (dd : Nat) (hdd : dd ≤ 3) (ih : ∀ d, dd = d + 1 → ∀ (c : GL1Cur) (kind id : Int) (l : List GNode), Cur c → BdZ id → Bds l → l.length + nbN d ≤ 100000000 → kind ∈ [1, 2, 5, 6, 8, 9, 12] → Ev (fun k => spec_l4DrawNode k c kind id (d : Int) l) (PDraw l.length (nbN d)))
include hdd ih

theorem spec_drawJ2 (kind many item : Int) (hm : many ≤ 18) (h0 : dd = 0 → many ≤ 0) (hitem : item ∈ [5, 8, 6, 12, 9]) (c : GL1Cur) (l : List GNode) (hc : Cur c) (hb : Bds l) (hl : l.length + nbN dd ≤ 100000001) :
    Ev (fun k => spec_l4DrawNodej2 (spec_l4DrawNode k) k kind (dd : Int) many item c.1 c.2.1 c.2.2 l) (PDraw l.length (nbN dd - 1)) := by
  simp only [spec_l4DrawNodej2]
  have hP := nbN_pos dd
  refine Ev.bind (P := PDraw l.length (nbN dd - 1)) ?_ fun z hz => Ev.ret hz
  cases dd with
  | zero =>
    apply Ev.succ
    simp only [spec_l4DrawNodel1]
    exact Ev.neg (dfalse (by have := h0 rfl; omega)) (Ev.ret ⟨hc, hb, Nat.le_refl _, by simp only; omega⟩)
  | succ d =>
    have e : nbN (d + 1) = 1 + 18 * nbN d := rfl
    have hit : item ∈ [1, 2, 5, 6, 8, 9, 12] := by
      simp only [List.mem_cons, List.not_mem_nil, or_false] at hitem ⊢
      omega
    refine (spec_drawL d (ih d rfl) (by omega) kind many item hm hit 18 0 0 c l (fun k => k) (fun k => Nat.le_refl _) (by omega) hc ⟨by omega, by omega⟩ hb (by omega)).mono fun r hr => ?_
    obtain ⟨k1, k2, k3, k4⟩ := hr
    exact ⟨k1, k2, k3, by omega⟩

theorem spec_drawJ3 (kind many : Int) (hm : many ≤ 18) (h0 : dd = 0 → many ≤ 0) (me : Nat) (c : GL1Cur) (l : List GNode) (hc : Cur c) (hb : Bds l) (hme : me < l.length) (hl : l.length + nbN dd ≤ 100000001) :
    Ev (fun k => spec_l4DrawNodej3 (spec_l4DrawNode k) k kind (dd : Int) (me : Int) many c.1 c.2.1 c.2.2 l) (PDraw l.length (nbN dd - 1)) := by
  simp only [spec_l4DrawNodej3]
  refine (spec_l1PickInt_ev (c.1, c.2.1, c.2.2) hc _ (by simp)).bind fun y hy => Ev.pos (by omega) ?_
  have hg := hb.getD me
  have hb1 := hb.set me (x := ((l.getD me (0, 0, 0, [], 0)).1, (l.getD me (0, 0, 0, [], 0)).2.1, (l.getD me (0, 0, 0, [], 0)).2.2.1, (l.getD me (0, 0, 0, [], 0)).2.2.2.1, many)) hg.1 hg.2
  rw [Int.toNat_natCast]
  obtain ⟨l1, hl1⟩ : ∃ l1, l.set me ((l.getD me (0, 0, 0, [], 0)).1, (l.getD me (0, 0, 0, [], 0)).2.1, (l.getD me (0, 0, 0, [], 0)).2.2.1, (l.getD me (0, 0, 0, [], 0)).2.2.2.1, many) = l1 := ⟨_, rfl⟩
  rw [hl1] at hb1
  have hlen : l1.length = l.length := by rw [← hl1, List.length_set]
  simp only [hl1]
  have fin : ∀ l2 : List GNode, l2.length = l.length → Bds l2 → Ev (fun k => spec_l4DrawNodej2 (spec_l4DrawNode k) k kind (dd : Int) many y.1 y.2.1 y.2.2.1 y.2.2.2 l2) (PDraw l.length (nbN dd - 1)) := by
    intro l2 h2 hb2
    have := spec_drawJ2 dd hdd ih kind many y.1 hm h0 hy.1 y.2 l2 hy.2 hb2 (by omega)
    rw [h2] at this
    exact this
  by_cases h9 : kind = 9
  · refine Ev.pos (by simp [h9]) ?_
    by_cases hp : many > 0
    · refine Ev.pos (dtrue hp) (Ev.pos (by omega) ?_)
      have hg1 := hb1.getD me
      refine fin _ (by rw [List.length_set, hlen]) (hb1.set me hg1.1 ?_)
      have h := hy.1
      simp only [List.mem_cons, List.not_mem_nil, or_false] at h
      simp only [BdN]
      omega
    · exact Ev.neg (dfalse hp) (fin _ hlen hb1)
  · exact Ev.neg (by simp [h9]) (fin _ hlen hb1)

theorem spec_drawJ5 (kind : Int) (me : Nat) (c : GL1Cur) (l : List GNode) (hc : Cur c) (hb : Bds l) (hme : me < l.length) (hl : l.length + nbN dd ≤ 100000001) :
    Ev (fun k => spec_l4DrawNodej5 (spec_l4DrawNode k) k kind (dd : Int) (me : Int) c.1 c.2.1 c.2.2 l) (PDraw l.length (nbN dd - 1)) := by
  simp only [spec_l4DrawNodej5]
  refine (spec_l1Below_ev (c.1, c.2.1, c.2.2) hc 4).bind fun y hy => ?_
  have fin : ∀ many : Int, 0 ≤ many → many ≤ 3 → (dd = 0 → many = 0) → Ev (fun k => spec_l4DrawNodej4 (spec_l4DrawNode k) k kind (dd : Int) (me : Int) many y.2.1 y.2.2.1 y.2.2.2 l) (PDraw l.length (nbN dd - 1)) := by
    intro many hm0 hm h0
    simp only [spec_l4DrawNodej4]
    refine (spec_l1Once_ev (y.2.1, y.2.2.1, y.2.2.2) hy.2.2.2 20).bind fun z hz => ?_
    refine Ev.ite (fun _ => ?_) (fun _ => ?_)
    · rw [w64_id (n := many * 6) (by omega)]
      exact spec_drawJ3 dd hdd ih kind (many * 6) (by omega) (fun h => by have := h0 h; omega) me z.2 l hz hb hme hl
    · exact spec_drawJ3 dd hdd ih kind many (by omega) (fun h => by have := h0 h; omega) me z.2 l hz hb hme hl
  refine Ev.ite (fun _ => ?_) (fun h => ?_)
  · exact fin 0 (Int.le_refl 0) (by omega) (fun _ => rfl)
  · refine fin y.1 hy.1 (by have := hy.2.2.1; omega) (fun h' => ?_)
    subst h'
    exact absurd rfl h

theorem spec_drawJ6 (kind id num : Int) (text : Bs) (hid : BdZ id) (hnum : BdZ num) (c : GL1Cur) (l : List GNode) (hc : Cur c) (hb : Bds l) (hl : l.length + nbN dd ≤ 100000000) :
    Ev (fun k => spec_l4DrawNodej6 (spec_l4DrawNode k) k kind (dd : Int) c.1 c.2.1 c.2.2 l kind id num text) (PDraw l.length (nbN dd)) := by
  have hP := nbN_pos dd
  simp only [spec_l4DrawNodej6]
  refine Ev.pos (by simp only [LIM]; omega) ?_
  have hb1 : Bds (l ++ [(kind, id, num, text, 0)]) := hb.app (Bds.one hid hnum)
  have hlen : (l ++ [(kind, id, num, text, (0 : Int))]).length = l.length + 1 := by simp
  have fin : Ev (fun k => spec_l4DrawNodej5 (spec_l4DrawNode k) k kind (dd : Int) (l.length : Int) c.1 c.2.1 c.2.2 (l ++ [(kind, id, num, text, 0)])) (PDraw l.length (nbN dd)) := by
    refine (spec_drawJ5 dd hdd ih kind l.length c _ hc hb1 (by omega) (by omega)).mono fun r hr => ?_
    obtain ⟨k1, k2, k3, k4⟩ := hr
    exact ⟨k1, k2, by omega, by omega⟩
  refine Ev.ite (fun _ => Ev.ite (fun _ => Ev.ret ⟨hc, hb1, by simp only; omega, by simp only; omega⟩) (fun _ => fin)) (fun _ => fin)
end

theorem spec_l4DrawNode_ev : ∀ (d : Nat), d ≤ 3 → ∀ (c : GL1Cur) (kind id : Int) (l : List GNode), Cur c → BdZ id → Bds l → l.length + nbN d ≤ 100000000 → kind ∈ [1, 2, 5, 6, 8, 9, 12] → Ev (fun k => spec_l4DrawNode k c kind id (d : Int) l) (PDraw l.length (nbN d)) := by
  intro d
  induction d with
  | zero =>
    intro hd c kind id l hc hid hb hl hk
    have J := fun num text hnum c hc => spec_drawJ6 0 hd (fun d h => by omega) kind id num text hid hnum c l hc hb hl
    apply Ev.succ
    simp only [spec_l4DrawNode, spec_l4DrawNodeb]
    refine Ev.ite (fun _ => ?_) (fun _ => Ev.ite (fun _ => ?_) (fun _ => Ev.ite (fun _ => ?_) (fun _ => ?_)))
    · exact (spec_l1Below_ev c hc 1000).bind fun y hy => J _ _ (w64_bd _) y.2 hy.2.2.2
    · exact (spec_l2DrawNum_ev c hc).bind fun y hy => J _ _ hy.1 y.2 hy.2
    · exact (spec_l4DrawText_ev c hc 5 (by omega)).bind fun y hy => J _ _ ⟨by omega, by omega⟩ y.2 hy.1
    · exact J _ _ ⟨by omega, by omega⟩ c hc
  | succ d ihd =>
    intro hd c kind id l hc hid hb hl hk
    have J := fun num text hnum c hc => spec_drawJ6 (d + 1) hd (fun d' h => by cases h; exact ihd (by omega)) kind id num text hid hnum c l hc hb hl
    apply Ev.succ
    simp only [spec_l4DrawNode, spec_l4DrawNodeb]
    refine Ev.ite (fun _ => ?_) (fun _ => Ev.ite (fun _ => ?_) (fun _ => Ev.ite (fun _ => ?_) (fun _ => ?_)))
    · exact (spec_l1Below_ev c hc 1000).bind fun y hy => J _ _ (w64_bd _) y.2 hy.2.2.2
    · exact (spec_l2DrawNum_ev c hc).bind fun y hy => J _ _ hy.1 y.2 hy.2
    · exact (spec_l4DrawText_ev c hc 5 (by omega)).bind fun y hy => J _ _ ⟨by omega, by omega⟩ y.2 hy.1
    · exact J _ _ ⟨by omega, by omega⟩ c hc

theorem spec_l4DrawRight_ev (c : GL1Cur) (hc : Cur c) : Ev (fun k => spec_l4DrawRight k c) (fun r => Cur (r.1, r.2.1, r.2.2.1) ∧ Bds r.2.2.2 ∧ r.2.2.2.length ≤ 300) := by
  simp only [spec_l4DrawRight]
  refine (spec_l1Below_ev c hc 3).bind fun y hy => ?_
  rw [w64_id (n := 1 + y.1) (by omega)]
  obtain ⟨d, hd⟩ : ∃ d : Nat, 1 + y.1 = (d : Int) := ⟨(1 + y.1).toNat, by omega⟩
  rw [hd]
  have hd3 : d ≤ 3 := by have := hy.2.2.1; omega
  have hnb : nbN d ≤ 10000 := by
    have : d = 0 ∨ d = 1 ∨ d = 2 ∨ d = 3 := by omega
    rcases this with h | h | h | h <;> subst h <;> decide
  refine (spec_l4DrawNode_ev d hd3 y.2 12 0 [] hy.2.2.2 ⟨by omega, by omega⟩ Bds.nil (by simp; omega) (by simp)).bind fun r hr => ?_
  refine Ev.ite (fun _ => Ev.ret ⟨hr.1, Bds.one ?_ ?_, by simp⟩) (fun h => Ev.ret ⟨hr.1, hr.2.1, ?_⟩)
  · simp [BdI]
  · simp [BdN]
  · simp at h ⊢; omega

theorem spec_DrawTreeRead_ev (b : Bs) (hb : b.length ≤ 4611686018427387904) : Ev (fun k => spec_DrawTreeRead k b) (fun r => r.2.length ≤ 1000000) := by
  simp only [spec_DrawTreeRead]
  refine (spec_l1New_ev b hb).bind fun c hc => (spec_l4DrawRight_ev _ (hc 0 (Int.le_refl 0))).bind fun r hr => ?_
  obtain ⟨hr1, hr2, hr3⟩ := hr
  refine Ev.bind_eq (spec_TreePack_ev _ (fun x h => (hr2 x h).1) (fun x h => (hr2 x h).2)) ?_
  have fin : ∀ v3 : Bs, 0 < v3.length → v3.length ≤ 900000 → Ev (fun k => spec_DrawTreeReadj1 k r.1 r.2.1 r.2.2.1 v3) (fun r => r.2.length ≤ 1000000) := by
    intro v3 h0 h3
    simp only [spec_DrawTreeReadj1]
    refine (spec_l1Below_ev (r.1, r.2.1, r.2.2.1) hr1 8).bind fun y hy => ?_
    have hy2 := hy.2.2.2
    refine Ev.ite (fun _ => ?_) fun _ => Ev.ite (fun _ => ?_) fun _ => Ev.ite (fun _ => ?_) fun _ => Ev.ite (fun _ => ?_) fun _ => Ev.ite (fun _ => ?_) fun _ => Ev.ite (fun _ => ?_) fun _ => ?_
    · refine (spec_l1Below_ev _ hy2 _).bind fun z hz => (spec_l1Byte_ev _ hz.2.2.2).bind fun u hu => Ev.pos ⟨hz.1, by have := hz.2.2.1; omega⟩ (Ev.ret ?_)
      simp only [List.length_set]; omega
    · rw [w64_id (n := (v3.length : Int) + 1) (by omega)]
      refine (spec_l1Below_ev _ hy2 _).bind fun z hz => Ev.pos ⟨hz.1, by have := hz.2.2.1; omega⟩ (Ev.ret ?_)
      simp only [List.length_take]; omega
    · refine (spec_l1Byte_ev _ hy2).bind fun z hz => Ev.pos (by simp only [LIM]; omega) (Ev.ret ?_)
      simp; omega
    · refine (spec_l1Byte_ev _ hy2).bind fun z hz => Ev.pos (by simp only [LIM]; omega) (Ev.ret ?_)
      simp; omega
    · exact Ev.ret (by simp)
    · refine (spec_l1PickInt_ev _ hy2 _ (by simp)).bind fun z hz => Ev.ret ?_
      simp only; omega
    · exact Ev.ret (by simp only; omega)
  unfold treePack
  cases h : treeOk r.2.2.2 with
  | none => exact Ev.pos rfl (fin [0] (by simp) (by simp))
  | some t =>
    obtain ⟨h1, h2, h12, _, h5, h6, _⟩ := treeOk_some h
    have h1' : r.2.2.2.length = t.flat.length := congrArg List.length h1
    have hlen := enc_len h2 (by omega)
    refine Ev.neg (by simp) (fin t.enc ?_ (by omega))
    cases t with
    | mk kind id num text kids =>
      simp only [Tr.kind] at h12
      subst h12
      simp [Tr.enc]
end Go.Proofs.Ytpggmokeohleiaa

/- Plain: a tree that is read is a right one, and is read again. -/
namespace Go.Proofs.Ytpggmokeohleiaa
open Go Go.V

theorem plain_kids {kind id num : Int} {text : Bs} {kids : List Tr} (h : plainB (kind, id, num, text, (kids.length : Int)) = true) : kids = [] ∨ kind = 9 ∨ kind = 12 := by
  unfold plainB at h
  by_cases h9 : kind = 9
  · exact Or.inr (Or.inl h9)
  · by_cases h12 : kind = 12
    · exact Or.inr (Or.inr h12)
    · refine Or.inl ?_
      simp only [if_neg h9, if_neg h12] at h
      repeat' split at h
      all_goals simp at h
      all_goals first | exact h.2 | exact h.2.2
theorem plain_num {kind id num : Int} {text : Bs} {m : Int} (h : plainB (kind, id, num, text, m) = true) : BdN (kind, id, num, text, m) := by
  unfold plainB at h
  simp only [BdN]
  simp only at h
  repeat' split at h
  · simp [int32B] at h; omega
  · simp [i64B] at h; omega
  · simp at h; omega
  · simp at h
    rcases h.2 with h | h
    · omega
    · rcases item_cases h.2 with h | h | h | h | h <;> omega
  · simp at h; omega
  · simp at h; omega

mutual
theorem ok_bds : ∀ {d : Nat} {t : Tr}, Ok d t → 0 ≤ t.id ∧ t.id ≤ 1000 → Bds t.flat
  | _, .mk kind id num text kids, .mk (d := d) h1 h2, hid => by
    simp only [Tr.id] at hid
    simp only [Tr.flat]
    have hk : Bds (flats kids) := by
      rcases plain_kids h1 with h | h
      · rw [h]; exact Bds.nil
      · exact okKids_bds h2 h (Int.le_refl 0)
    exact Bds.app (l := [_]) (Bds.one ⟨by simp only; omega, by simp only; omega⟩ (plain_num h1)) hk
theorem okKids_bds : ∀ {d : Nat} {kind num last : Int} {ts : List Tr}, OkKids d kind num last ts → (kind = 9 ∨ kind = 12) → 0 ≤ last → Bds (flats ts)
  | _, _, _, _, [], _, _, _ => Bds.nil
  | d, kind, num, last, t :: ts, .cons h1 h2 h3 h4, hk, hl => by
    have hid : 0 ≤ t.id ∧ t.id ≤ 1000 := by
      rcases hk with h | h
      · have := h1 h; omega
      · have := h2 h; omega
    exact Bds.app (ok_bds h3 hid) (okKids_bds h4 hk hid.1)
end

theorem laws_same (L : List GNode) (hl : L.length ≤ 274877906944) : Ev (fun k => laws_sameNodes k L L) (· = true) := by
  simp only [laws_sameNodes]
  refine Ev.neg (by simp) ?_
  have loop : ∀ (d i : Nat), L.length - i ≤ d → i ≤ L.length → Ev (fun k => laws_sameNodesl1 k L L (i : Int)) (· = .inl ()) := by
    intro d
    induction d with
    | zero =>
      intro i hd hi
      apply Ev.succ
      simp only [laws_sameNodesl1]
      exact Ev.neg (dfalse (by omega)) (Ev.ret rfl)
    | succ d ihd =>
      intro i hd hi
      apply Ev.succ
      simp only [laws_sameNodesl1]
      by_cases h : (i : Int) < (L.length : Int)
      · refine Ev.pos (dtrue h) (Ev.pos ⟨by omega, h⟩ (Ev.pos ⟨by omega, h⟩ (Ev.neg (by simp) ?_)))
        rw [w64_id (n := (i : Int) + 1) (by omega), show ((i : Int) + 1) = ((i + 1 : Nat) : Int) by omega]
        exact ihd (i + 1) (by omega) (by omega)
      · exact Ev.neg (dfalse h) (Ev.ret rfl)
  exact Ev.bind_eq (loop L.length 0 (by omega) (by omega)) (Ev.ret rfl)

/-- What is read, from the bytes that stand there. -/
theorem read_ok {b : Bs} {a : Int} (h : (treeRead b a).2.1 = 0) : ∃ (n : Nat) (t : Tr) (s : Bs), a = n ∧ n < b.length ∧ rNode 12 0 12 0 (b.drop n) = .ok (t, s) ∧ treeRead b a = ((b.length : Int) - (s.length : Int), 0, t.flat) := by
  unfold treeRead at h ⊢
  by_cases ha : 0 ≤ a ∧ a < (b.length : Int)
  · rw [if_pos ha] at h ⊢
    refine ⟨a.toNat, ?_⟩
    have hg := rNode_good 12 0 12 0 (b.drop a.toNat)
    cases hr : rNode 12 0 12 0 (b.drop a.toNat) with
    | error e =>
      rw [hr] at h hg
      exact absurd h hg
    | ok x =>
      obtain ⟨t, s⟩ := x
      exact ⟨t, s, by omega, by omega, rfl, rfl⟩
  · rw [if_neg ha] at h
    simp at h
theorem read_bad {b : Bs} {a : Int} (h : ¬ (treeRead b a).2.1 = 0) : (treeRead b a).2.2 = [] := by
  unfold treeRead at h ⊢
  by_cases ha : 0 ≤ a ∧ a < (b.length : Int)
  · rw [if_pos ha] at h ⊢
    cases hr : rNode 12 0 12 0 (b.drop a.toNat) with
    | error e => rfl
    | ok x => rw [hr] at h; simp at h
  · rw [if_neg ha]

theorem enc_pos12 {t : Tr} (h : t.kind = 12) : 0 < t.enc.length := by
  cases t with
  | mk kind id num text kids =>
    simp only [Tr.kind] at h
    subst h
    simp [Tr.enc]

theorem laws_FnTreeRead_pure (l : List UInt8) (hl : l.length ≤ 9223372036854775807) : ∃ k, laws_FnTreeRead k l = some true := by
  apply Ev.get
  simp only [laws_FnTreeRead, laws_big, Option.bind_some]
  by_cases hbig : (l.length : Int) > 1048576
  · exact Ev.pos (dtrue hbig) (Ev.ret rfl)
  · refine Ev.neg (dfalse hbig) ((spec_DrawTreeRead_ev l (by omega)).bind fun y hy => ?_)
    obtain ⟨a, b⟩ := y
    simp only at hy ⊢
    refine Ev.bind_eq (impl_TreeRead_ev b a (by omega)) (Ev.bind_eq (spec_TreeRead_ev b a (by omega)) (Ev.neg (by simp) (Ev.neg (by simp) ?_)))
    by_cases h0 : (treeRead b a).2.1 = 0
    · obtain ⟨n, t, s, rfl, hn, hr, he⟩ := read_ok h0
      refine Ev.neg (by simp [h0]) ?_
      simp only [he]
      have hf := rNode_fine 12 0 12 0 (b.drop n) (by decide)
      have hc := rNode_cnt 12 0 12 0 (b.drop n) (by omega)
      rw [hr] at hf hc
      obtain ⟨hk, hi, hok, hlen⟩ := hf
      have hc : 0 + t.flat.length ≤ 1500 := hc
      have hto := treeOk_of hok hk hi (by omega)
      have hbd := ok_bds hok (by omega)
      have hpos := enc_pos12 hk
      rw [List.length_drop] at hlen
      have hpack : treePack t.flat = (true, t.enc) := by unfold treePack; rw [hto]
      refine Ev.bind_eq (impl_TreePack_ev t.flat (fun x h => (hbd x h).1) (fun x h => (hbd x h).2)) ?_
      rw [hpack]
      refine Ev.bind_eq (impl_TreeRead_ev t.enc 0 (by omega)) ?_
      have hag := rNode_again 12 t 0 [] hok (by omega)
      rw [List.append_nil, hk, hi] at hag
      have hread : treeRead t.enc 0 = ((t.enc.length : Int), 0, t.flat) := by
        unfold treeRead
        rw [if_pos (by omega)]
        simp only [Int.toNat_zero, List.drop_zero, hag, List.length_nil]
        simp
      simp only [hread]
      rw [w64_id (n := (b.length : Int) - (s.length : Int) - 1) (by omega), w64_id (n := (b.length : Int) - (s.length : Int) - (n : Int)) (by omega)]
      refine Ev.pos (by omega) ?_
      have htk : ((b.length : Int) - (s.length : Int) - 1).toNat = b.length - s.length - 1 := by omega
      rw [htk]
      refine Ev.bind_eq (impl_TreeRead_ev _ (n : Int) (by rw [List.length_take]; omega)) ?_
      refine Ev.pos (by simp) (Ev.pos (by simp) (Ev.bind_eq (laws_same t.flat (by omega)) (Ev.pos (by simp) (Ev.pos (dtrue (by omega)) (Ev.ret ?_)))))
      unfold treeRead
      by_cases hcut : n < b.length - s.length - 1
      · rw [if_pos (by rw [List.length_take]; omega), Int.toNat_natCast]
        obtain ⟨c, h1, h2, h3, h4⟩ := rNode_loc 12 0 12 0 (b.drop n) t s hr
        have hsl := congrArg List.length h2
        rw [List.length_drop, List.length_drop] at hsl
        rw [List.length_drop] at h1
        have h5 := h4 (b.length - s.length - 1 - n) (by omega)
        rw [List.drop_take, h5]
        rfl
      · rw [if_neg (by rw [List.length_take]; omega)]
        rfl
    · refine Ev.pos (by simp [h0]) (Ev.ret ?_)
      rw [read_bad h0]
      rfl
end Go.Proofs.Ytpggmokeohleiaa
