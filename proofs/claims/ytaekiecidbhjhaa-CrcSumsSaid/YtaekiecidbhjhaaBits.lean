/- Words of 16 and of 8 bits: what the machine's operations say of them; the two sums are one. Plain. -/
import Derived.Test.YtaekiecidbhjhaaKsameB
namespace Go.Proofs.Ytaekiecidbhjhaa
open Go.RowKit

abbrev V16 (s : BitVec 16) : Value := .int .u16 (s.toNat : Int)
abbrev V8 (b : BitVec 8) : Value := .int .u8 (b.toNat : Int)
theorem wrap16 (z : Int) : IntKind.u16.wrap z = z % 65536 := by simp [IntKind.wrap, IntKind.signed, IntKind.bits]
theorem wrap8 (z : Int) : IntKind.u8.wrap z = z % 256 := by simp [IntKind.wrap, IntKind.signed, IntKind.bits]
theorem of16 (s : BitVec 16) : BitVec.ofInt 16 (s.toNat : Int) = s := by simp
theorem of8 (s : BitVec 8) : BitVec.ofInt 8 (s.toNat : Int) = s := by simp
theorem nat16 (s : BitVec 16) : IntKind.u16.wrap (s.toNat : Int) = (s.toNat : Int) := by
  rw [wrap16]; have := s.isLt; omega
theorem nat8 (s : BitVec 8) : IntKind.u8.wrap (s.toNat : Int) = (s.toNat : Int) := by
  rw [wrap8]; have := s.isLt; omega
theorem xor16 (s t : BitVec 16) : IntKind.u16.wrap ((BitVec.ofInt (IntKind.bits .u16) (s.toNat : Int) ^^^ BitVec.ofInt (IntKind.bits .u16) (t.toNat : Int)).toNat : Int) = ((s ^^^ t).toNat : Int) := by
  have h : (BitVec.ofInt (IntKind.bits .u16) (s.toNat : Int) ^^^ BitVec.ofInt (IntKind.bits .u16) (t.toNat : Int)) = s ^^^ t := by
    show (BitVec.ofInt 16 (s.toNat : Int) ^^^ BitVec.ofInt 16 (t.toNat : Int)) = s ^^^ t
    rw [of16, of16]
  rw [h]; exact nat16 _
theorem xor8 (s t : BitVec 8) : IntKind.u8.wrap ((BitVec.ofInt (IntKind.bits .u8) (s.toNat : Int) ^^^ BitVec.ofInt (IntKind.bits .u8) (t.toNat : Int)).toNat : Int) = ((s ^^^ t).toNat : Int) := by
  have h : (BitVec.ofInt (IntKind.bits .u8) (s.toNat : Int) ^^^ BitVec.ofInt (IntKind.bits .u8) (t.toNat : Int)) = s ^^^ t := by
    show (BitVec.ofInt 8 (s.toNat : Int) ^^^ BitVec.ofInt 8 (t.toNat : Int)) = s ^^^ t
    rw [of8, of8]
  rw [h]; exact nat8 _
theorem and8 (s t : BitVec 8) : IntKind.u8.wrap ((BitVec.ofInt (IntKind.bits .u8) (s.toNat : Int) &&& BitVec.ofInt (IntKind.bits .u8) (t.toNat : Int)).toNat : Int) = ((s &&& t).toNat : Int) := by
  have h : (BitVec.ofInt (IntKind.bits .u8) (s.toNat : Int) &&& BitVec.ofInt (IntKind.bits .u8) (t.toNat : Int)) = s &&& t := by
    show (BitVec.ofInt 8 (s.toNat : Int) &&& BitVec.ofInt 8 (t.toNat : Int)) = s &&& t
    rw [of8, of8]
  rw [h]; exact nat8 _
theorem fdiv_pow (n k : Nat) : ((n : Int)).fdiv (2 ^ k) = ((n >>> k : Nat) : Int) := by
  rw [Int.fdiv_eq_ediv_of_nonneg _ (by exact Int.le_of_lt (Int.pow_pos (by decide))), Nat.shiftRight_eq_div_pow]
  rw [Int.natCast_ediv, Int.natCast_pow]; rfl
theorem shr16 (s : BitVec 16) (j : Int) (k : Nat) (hj : j = (k : Int)) (hk : k ≤ 16) : ((s.toNat : Int)).fdiv (2 ^ (min j.toNat (IntKind.bits .u16))) = ((s >>> k).toNat : Int) := by
  subst hj
  have e : min ((k : Int)).toNat (IntKind.bits .u16) = k := by show min ((k : Int)).toNat 16 = k; omega
  rw [e, fdiv_pow, BitVec.toNat_ushiftRight]
theorem shr8 (s : BitVec 8) (j : Int) (k : Nat) (hj : j = (k : Int)) (hk : k ≤ 8) : ((s.toNat : Int)).fdiv (2 ^ (min j.toNat (IntKind.bits .u8))) = ((s >>> k).toNat : Int) := by
  subst hj
  have e : min ((k : Int)).toNat (IntKind.bits .u8) = k := by show min ((k : Int)).toNat 8 = k; omega
  rw [e, fdiv_pow, BitVec.toNat_ushiftRight]
theorem shl16 (s : BitVec 16) (j : Int) (k : Nat) (hj : j = (k : Int)) (hk : k ≤ 16) : IntKind.u16.wrap ((s.toNat : Int) * 2 ^ (min j.toNat (IntKind.bits .u16))) = ((s <<< k).toNat : Int) := by
  subst hj
  have e : min ((k : Int)).toNat (IntKind.bits .u16) = k := by show min ((k : Int)).toNat 16 = k; omega
  rw [e, wrap16, BitVec.toNat_shiftLeft, Nat.shiftLeft_eq, Int.natCast_emod, Int.natCast_mul, Int.natCast_pow]; rfl
theorem mul16 (s : BitVec 16) (j : Int) (k : BitVec 16) (hj : j = (k.toNat : Int)) : IntKind.u16.wrap ((s.toNat : Int) * j) = ((s * k).toNat : Int) := by
  subst hj
  rw [wrap16, BitVec.toNat_mul, Int.natCast_emod, Int.natCast_mul]; rfl
theorem wide (b : BitVec 8) : IntKind.u16.wrap (b.toNat : Int) = ((b.setWidth 16).toNat : Int) := by
  rw [wrap16, BitVec.toNat_setWidth]
  have := b.isLt
  rw [Nat.mod_eq_of_lt (by omega)]; omega
theorem low8 (s : BitVec 16) : IntKind.u8.wrap (s.toNat : Int) = ((s.setWidth 8).toNat : Int) := by
  rw [wrap8, BitVec.toNat_setWidth, Int.natCast_emod]; rfl

/-- The machine's bit, its byte, its sum. -/
def cbit (s : BitVec 16) : BitVec 16 := (s <<< 1) ^^^ ((s >>> 15) * 4129#16)
def citer : Nat → BitVec 16 → BitVec 16
  | 0, s => s
  | k + 1, s => cbit (citer k s)
def cbyte (s : BitVec 16) (b : BitVec 8) : BitVec 16 := citer 8 (s ^^^ (b.setWidth 16 <<< 8))
def csum (bs : List (BitVec 8)) : BitVec 16 := bs.foldl cbyte 65535#16
/-- The document's. -/
def rbit (b : BitVec 8) (s : BitVec 16) (i : Nat) : BitVec 16 := if (s >>> 15) ^^^ ((b >>> i) &&& 1#8).setWidth 16 = 1#16 then (s <<< 1) ^^^ 4129#16 else s <<< 1
def riter (b : BitVec 8) : Nat → BitVec 16 → BitVec 16
  | 0, s => s
  | k + 1, s => rbit b (riter b k s) (7 - k)
theorem top01 (s : BitVec 16) : s >>> 15 = 0#16 ∨ s >>> 15 = 1#16 := by
  have h : (s >>> 15).toNat < 2 := by
    rw [BitVec.toNat_ushiftRight, Nat.shiftRight_eq_div_pow]
    have := s.isLt
    omega
  rcases (by omega : (s >>> 15).toNat = 0 ∨ (s >>> 15).toNat = 1) with e | e
  · left; apply BitVec.eq_of_toNat_eq; rw [e]; rfl
  · right; apply BitVec.eq_of_toNat_eq; rw [e]; rfl
theorem cbit_xor (r e : BitVec 16) : cbit (r ^^^ e) = (if (r >>> 15) ^^^ (e >>> 15) = 1#16 then (r <<< 1) ^^^ 4129#16 else r <<< 1) ^^^ (e <<< 1) := by
  unfold cbit
  rw [BitVec.shiftLeft_xor_distrib, BitVec.ushiftRight_xor_distrib]
  rcases top01 r with h1 | h1 <;> rcases top01 e with h2 | h2 <;> rw [h1, h2]
  · simp
  · simp; ac_rfl
  · simp; ac_rfl
  · simp
theorem bit_at : ∀ (n : Fin 256) (k : Fin 8), ((((BitVec.ofNat 8 n.1).setWidth 16 <<< 8) <<< k.1) >>> 15) = (((BitVec.ofNat 8 n.1) >>> (7 - k.1)) &&& 1#8).setWidth 16 := of_decide_eq_true (by kernel_rfl)
theorem bit_end : ∀ (n : Fin 256), (((BitVec.ofNat 8 n.1).setWidth 16 <<< 8) <<< 8) = 0#16 := of_decide_eq_true (by kernel_rfl)
theorem citer_riter (s : BitVec 16) (b : BitVec 8) : ∀ k, k ≤ 8 → citer k (s ^^^ (b.setWidth 16 <<< 8)) = riter b k s ^^^ ((b.setWidth 16 <<< 8) <<< k)
  | 0, _ => by simp [citer, riter]
  | k + 1, hk => by
    have ih := citer_riter s b k (by omega)
    show cbit (citer k _) = rbit b (riter b k s) (7 - k) ^^^ _
    rw [ih, cbit_xor]
    have hb := bit_at ⟨b.toNat, b.isLt⟩ ⟨k, by omega⟩
    simp only [BitVec.ofNat_toNat, BitVec.setWidth_eq] at hb
    rw [hb, BitVec.shiftLeft_add _ k 1]
    rfl
theorem cbyte_riter (s : BitVec 16) (b : BitVec 8) : cbyte s b = riter b 8 s := by
  unfold cbyte
  rw [citer_riter s b 8 (by omega)]
  have h := bit_end ⟨b.toNat, b.isLt⟩
  simp only [BitVec.ofNat_toNat, BitVec.setWidth_eq] at h
  rw [h]; simp
/-- Bytes as numbers. -/
def yb (bs : List (BitVec 8)) : List Int := bs.map fun b => (b.toNat : Int)
theorem yb_len (bs : List (BitVec 8)) : (yb bs).length = bs.length := by simp [yb]
theorem yb_get (bs : List (BitVec 8)) (i : Nat) (b : BitVec 8) (h : bs[i]? = some b) : (yb bs).getD i 0 = (b.toNat : Int) := by
  rw [List.getD_eq_getElem?_getD]; unfold yb; rw [List.getElem?_map, h]; rfl
theorem yb_of (xs : List Int) (h : ∀ x ∈ xs, 0 ≤ x ∧ x < 256) : xs = yb (xs.map fun x => BitVec.ofInt 8 x) := by
  unfold yb
  rw [List.map_map]
  conv => lhs; rw [← List.map_id xs]
  apply List.map_congr_left
  intro x hx
  obtain ⟨h0, h1⟩ := h x hx
  show x = (((BitVec.ofInt 8 x).toNat : Nat) : Int)
  rw [BitVec.toNat_ofInt]
  omega
theorem csum_more (bs : List (BitVec 8)) (i : Nat) (b : BitVec 8) (h : bs[i]? = some b) : csum (bs.take (i + 1)) = cbyte (csum (bs.take i)) b := by
  unfold csum
  rw [List.take_add_one, h]; simp
end Go.Proofs.Ytaekiecidbhjhaa
