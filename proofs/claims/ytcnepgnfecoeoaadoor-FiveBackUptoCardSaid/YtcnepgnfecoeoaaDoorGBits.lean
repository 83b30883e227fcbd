/- Step lemmas, seventh part: unsigned arithmetic as that of BitVec. No condition. -/
import Derived.Test.YtcnepgnfecoeoaaDoorGMem2
set_option linter.unusedVariables false
set_option linter.unusedSimpArgs false
namespace Go.Proofs.GP
open Go

theorem wrap_u32 (z : Int) : IntKind.u32.wrap z = z % 4294967296 := by
  unfold IntKind.wrap; simp [IntKind.bits, IntKind.signed]
theorem wrap_u64 (z : Int) : IntKind.u64.wrap z = z % 18446744073709551616 := by
  unfold IntKind.wrap; simp [IntKind.bits, IntKind.signed]
theorem wrap_u8 (z : Int) : IntKind.u8.wrap z = z % 256 := by
  unfold IntKind.wrap; simp [IntKind.bits, IntKind.signed]
theorem add32 (a b : BitVec 32) : IntKind.u32.wrap (↑a.toNat + ↑b.toNat) = ↑(a + b).toNat := by
  rw [wrap_u32, BitVec.toNat_add]; omega
theorem add64 (a b : BitVec 64) : IntKind.u64.wrap (↑a.toNat + ↑b.toNat) = ↑(a + b).toNat := by
  rw [wrap_u64, BitVec.toNat_add]; omega
theorem mul64 (a b : BitVec 64) : IntKind.u64.wrap (↑a.toNat * ↑b.toNat) = ↑(a * b).toNat := by
  rw [wrap_u64, BitVec.toNat_mul]
  have : (↑a.toNat * ↑b.toNat : Int) = ((a.toNat * b.toNat : Nat) : Int) := by simp
  rw [this]; omega
theorem ofInt32 (a : BitVec 32) : BitVec.ofInt 32 (↑a.toNat) = a := by simp
theorem ofInt64 (a : BitVec 64) : BitVec.ofInt 64 (↑a.toNat) = a := by simp
theorem back32 (a : BitVec 32) : IntKind.u32.wrap ↑a.toNat = ↑a.toNat := by rw [wrap_u32]; have := a.isLt; omega
theorem back64 (a : BitVec 64) : IntKind.u64.wrap ↑a.toNat = ↑a.toNat := by rw [wrap_u64]; have := a.isLt; omega
theorem and32 (a b : BitVec 32) : IntKind.u32.wrap (BitVec.ofInt IntKind.u32.bits ↑a.toNat &&& BitVec.ofInt IntKind.u32.bits ↑b.toNat).toNat = ↑(a &&& b).toNat := by
  show IntKind.u32.wrap ↑(BitVec.ofInt 32 ↑a.toNat &&& BitVec.ofInt 32 ↑b.toNat).toNat = _
  rw [ofInt32, ofInt32, back32]
theorem or32 (a b : BitVec 32) : IntKind.u32.wrap (BitVec.ofInt IntKind.u32.bits ↑a.toNat ||| BitVec.ofInt IntKind.u32.bits ↑b.toNat).toNat = ↑(a ||| b).toNat := by
  show IntKind.u32.wrap ↑(BitVec.ofInt 32 ↑a.toNat ||| BitVec.ofInt 32 ↑b.toNat).toNat = _
  rw [ofInt32, ofInt32, back32]
theorem xor32 (a b : BitVec 32) : IntKind.u32.wrap (BitVec.ofInt IntKind.u32.bits ↑a.toNat ^^^ BitVec.ofInt IntKind.u32.bits ↑b.toNat).toNat = ↑(a ^^^ b).toNat := by
  show IntKind.u32.wrap ↑(BitVec.ofInt 32 ↑a.toNat ^^^ BitVec.ofInt 32 ↑b.toNat).toNat = _
  rw [ofInt32, ofInt32, back32]
theorem not32 (a : BitVec 32) : IntKind.u32.wrap (BitVec.ofInt IntKind.u32.bits (if IntKind.u32.signed then -1 else IntKind.u32.max) ^^^ BitVec.ofInt IntKind.u32.bits ↑a.toNat).toNat = ↑(~~~a).toNat := by
  show IntKind.u32.wrap ↑(BitVec.ofInt 32 (if IntKind.u32.signed then -1 else IntKind.u32.max) ^^^ BitVec.ofInt 32 ↑a.toNat).toNat = _
  have : BitVec.ofInt 32 (if IntKind.u32.signed then -1 else IntKind.u32.max) = BitVec.allOnes 32 := by decide
  rw [ofInt32, this, BitVec.allOnes_xor, back32]
theorem shr32 (a : BitVec 32) (n : Nat) (k : Int) (hk : k = n) (hn : n ≤ 32) : (↑a.toNat : Int).fdiv (2 ^ (min k.toNat IntKind.u32.bits)) = ↑(a >>> n).toNat := by
  subst hk
  have h1 : min (n : Int).toNat IntKind.u32.bits = n := by
    show min n 32 = n
    omega
  rw [h1, BitVec.toNat_ushiftRight, Nat.shiftRight_eq_div_pow]
  have : (2 ^ n : Int) = ((2 ^ n : Nat) : Int) := by simp
  rw [this, Int.fdiv_eq_ediv_of_nonneg _ (Int.natCast_nonneg _)]
  rfl
theorem shr64 (a : BitVec 64) (n : Nat) (k : Int) (hk : k = n) (hn : n ≤ 64) : (↑a.toNat : Int).fdiv (2 ^ (min k.toNat IntKind.u64.bits)) = ↑(a >>> n).toNat := by
  subst hk
  have h1 : min (n : Int).toNat IntKind.u64.bits = n := by
    show min n 64 = n
    omega
  rw [h1, BitVec.toNat_ushiftRight, Nat.shiftRight_eq_div_pow]
  have : (2 ^ n : Int) = ((2 ^ n : Nat) : Int) := by simp
  rw [this, Int.fdiv_eq_ediv_of_nonneg _ (Int.natCast_nonneg _)]
  rfl
theorem shl32 (a : BitVec 32) (n : Nat) (k : Int) (hk : k = n) (hn : n ≤ 32) : IntKind.u32.wrap (↑a.toNat * 2 ^ (min k.toNat IntKind.u32.bits)) = ↑(a <<< n).toNat := by
  subst hk
  have h1 : min (n : Int).toNat IntKind.u32.bits = n := by
    show min n 32 = n
    omega
  rw [h1, wrap_u32, BitVec.toNat_shiftLeft, Nat.shiftLeft_eq]
  have : (↑a.toNat * 2 ^ n : Int) = ((a.toNat * 2 ^ n : Nat) : Int) := by simp
  rw [this]; omega
/-- A byte as 32 bits; the low byte of 32, of 64 bits. -/
def b32 (b : UInt8) : BitVec 32 := BitVec.ofNat 32 b.toNat
theorem b32_nat (b : UInt8) : (b32 b).toNat = b.toNat := by
  have := b.toNat_lt
  simp only [b32, BitVec.toNat_ofNat]; omega
theorem conv_b32 (b : UInt8) : IntKind.u32.wrap ↑b.toNat = ↑(b32 b).toNat := by
  rw [wrap_u32, b32_nat]; have := b.toNat_lt; omega
def low32 (a : BitVec 32) : UInt8 := UInt8.ofNat a.toNat
theorem conv_low32 (a : BitVec 32) : IntKind.u8.wrap ↑a.toNat = ↑(low32 a).toNat := by
  rw [wrap_u8]; simp [low32, UInt8.toNat_ofNat]
def low64 (a : BitVec 64) : UInt8 := UInt8.ofNat a.toNat
theorem conv_low64 (a : BitVec 64) : IntKind.u8.wrap ↑a.toNat = ↑(low64 a).toNat := by
  rw [wrap_u8]; simp [low64, UInt8.toNat_ofNat]
def n64 (n : Nat) : BitVec 64 := BitVec.ofNat 64 n
theorem conv_n64 (n : Nat) : IntKind.u64.wrap ↑n = ↑(n64 n).toNat := by
  rw [wrap_u64]; simp [n64, BitVec.toNat_ofNat]
/-- The low byte of an int. -/
def lowI (n : Int) : UInt8 := UInt8.ofNat (n % 256).toNat
theorem conv_lowI (n : Int) : IntKind.u8.wrap n = ↑(lowI n).toNat := by
  rw [wrap_u8]; simp only [lowI, UInt8.toNat_ofNat']
  omega
def wv (a : BitVec 32) : Value := .int .u32 a.toNat
@[simp] theorem one_wv (a : BitVec 32) : oneV (wv a) = true := rfl
theorem all_wv (l : List (BitVec 32)) : (l.map wv).all oneV = true := by simp
theorem nin_nil (p : Prop) (a : Nat) : p ∨ a ∉ ([] : List Nat) := .inr (by simp)
theorem nin_cons {p : Prop} {a g : Nat} {gs : List Nat} (h : p ∨ a ≠ g) (k : p ∨ a ∉ gs) : p ∨ a ∉ g :: gs := by
  rcases h with h | h
  · exact .inl h
  · exact k.imp id fun k => by simp [h, k]
end Go.Proofs.GP
