/- A burst of wrong bits: what both machines strike of a byte. Plain. -/
import Derived.Test.YtaekiecidbhjhaaOpen
namespace Go.Proofs.Ytaekiecidbhjhaa
open Go.RowKit

theorem wrap32 (z : Int) : IntKind.u32.wrap z = z % 4294967296 := by simp [IntKind.wrap, IntKind.signed, IntKind.bits]
theorem wide32 (m : BitVec 16) : IntKind.u32.wrap (m.toNat : Int) = ((m.setWidth 32).toNat : Int) := by
  rw [wrap32, BitVec.toNat_setWidth]
  have := m.isLt
  rw [Nat.mod_eq_of_lt (by omega)]; omega
theorem shl32 (s : BitVec 32) (j : Int) (k : Nat) (hj : j = (k : Int)) (hk : k ≤ 32) : IntKind.u32.wrap ((s.toNat : Int) * 2 ^ (min j.toNat (IntKind.bits .u32))) = ((s <<< k).toNat : Int) := by
  subst hj
  have e : min ((k : Int)).toNat (IntKind.bits .u32) = k := by show min ((k : Int)).toNat 32 = k; omega
  rw [e, wrap32, BitVec.toNat_shiftLeft, Nat.shiftLeft_eq, Int.natCast_emod, Int.natCast_mul, Int.natCast_pow]; rfl
theorem shr32 (s : BitVec 32) (j : Int) (k : Nat) (hj : j = (k : Int)) (hk : k ≤ 32) : ((s.toNat : Int)).fdiv (2 ^ (min j.toNat (IntKind.bits .u32))) = ((s >>> k).toNat : Int) := by
  subst hj
  have e : min ((k : Int)).toNat (IntKind.bits .u32) = k := by show min ((k : Int)).toNat 32 = k; omega
  rw [e, fdiv_pow, BitVec.toNat_ushiftRight]
theorem low32 (s : BitVec 32) : IntKind.u8.wrap (s.toNat : Int) = ((s.setWidth 8).toNat : Int) := by
  rw [wrap8, BitVec.toNat_setWidth, Int.natCast_emod]; rfl
theorem and16 (s t : BitVec 16) : IntKind.u16.wrap ((BitVec.ofInt (IntKind.bits .u16) (s.toNat : Int) &&& BitVec.ofInt (IntKind.bits .u16) (t.toNat : Int)).toNat : Int) = ((s &&& t).toNat : Int) := by
  have h : (BitVec.ofInt (IntKind.bits .u16) (s.toNat : Int) &&& BitVec.ofInt (IntKind.bits .u16) (t.toNat : Int)) = s &&& t := by
    show (BitVec.ofInt 16 (s.toNat : Int) &&& BitVec.ofInt 16 (t.toNat : Int)) = s &&& t
    rw [of16, of16]
  rw [h]; exact nat16 _
theorem bit1 (m : BitVec 16) (k : Nat) : (((m >>> k) &&& 1#16).toNat : Int) = 0 ↔ m.getLsbD k = false := by
  rw [BitVec.toNat_and, BitVec.toNat_ushiftRight]
  show ((m.toNat >>> k &&& 1 : Nat) : Int) = 0 ↔ m.toNat.testBit k = false
  rw [Nat.and_one_is_mod, Nat.testBit_eq_decide_div_mod_eq, Nat.shiftRight_eq_div_pow]
  generalize m.toNat / 2 ^ k = z
  simp
  omega

/-- The machine's: what it strikes of a byte whose first bit lies t behind the burst's first. -/
def sp (m : BitVec 16) (t : Int) : BitVec 8 := if t ≤ -8 ∨ 16 ≤ t then 0#8 else ((((m.setWidth 32) <<< 8) <<< (t + 8).toNat) >>> 24).setWidth 8
/-- The document's, at its step i. -/
def rterm (m : BitVec 16) (t : Int) (i : Nat) : BitVec 8 := if m.getLsbD (15 - i) = true ∧ t ≤ (i : Int) ∧ (i : Int) < t + 8 then 128#8 >>> ((i : Int) - t).toNat else 0#8
def racc (m : BitVec 16) (t : Int) : Nat → BitVec 8
  | 0 => 0#8
  | i + 1 => racc m t i ^^^ rterm m t i
theorem one_at : ∀ (p q : Fin 8), (128#8 >>> p.1).getLsbD q.1 = decide (p.1 + q.1 = 7) := by decide +kernel
theorem rterm_bit (m : BitVec 16) (t : Int) (i q : Nat) (hq : q < 8) : (rterm m t i).getLsbD q = (decide (t + 7 - q = (i : Int)) && m.getLsbD (15 - i)) := by
  unfold rterm
  split
  · rename_i h
    have h8 : ((i : Int) - t).toNat < 8 := by omega
    have h1 := one_at ⟨((i : Int) - t).toNat, h8⟩ ⟨q, hq⟩
    simp only at h1
    rw [h1, h.1, Bool.and_true]
    by_cases e : t + 7 - q = (i : Int)
    · rw [decide_eq_true e, decide_eq_true (by omega)]
    · rw [decide_eq_false e, decide_eq_false (by omega)]
  · rename_i h
    by_cases e : t + 7 - q = (i : Int)
    · have h2 : m.getLsbD (15 - i) = false := by
        cases hm : m.getLsbD (15 - i) with
        | false => rfl
        | true => exact absurd ⟨hm, by omega, by omega⟩ h
      rw [h2, Bool.and_false]; simp
    · rw [decide_eq_false e, Bool.false_and]; simp
theorem racc_bit (m : BitVec 16) (t : Int) (q : Nat) (hq : q < 8) : ∀ i : Nat, (racc m t i).getLsbD q = (decide (0 ≤ t + 7 - q ∧ t + 7 - q < (i : Int)) && m.getLsbD (15 - (t + 7 - q).toNat))
  | 0 => by
    rw [decide_eq_false (by omega), Bool.false_and]
    simp [racc]
  | i + 1 => by
    show (racc m t i ^^^ rterm m t i).getLsbD q = _
    rw [BitVec.getLsbD_xor, racc_bit m t q hq i, rterm_bit m t i q hq]
    by_cases e : t + 7 - q = (i : Int)
    · have e2 : (t + 7 - q).toNat = i := by omega
      rw [e2, decide_eq_true e, decide_eq_false (by omega), decide_eq_true (by omega)]
      simp
    · rw [decide_eq_false e]
      by_cases h : 0 ≤ t + 7 - q ∧ t + 7 - q < (i : Int)
      · rw [decide_eq_true h, decide_eq_true (by omega)]; simp
      · rw [decide_eq_false h, decide_eq_false (by omega)]; simp
theorem sp_in (m : BitVec 16) (t : Int) (h1 : ¬ t ≤ -8) (h2 : ¬ 16 ≤ t) : sp m t = ((((m.setWidth 32) <<< 8) <<< (t + 8).toNat) >>> 24).setWidth 8 := if_neg (by omega)
theorem sp_out (m : BitVec 16) (t : Int) (h : t ≤ -8 ∨ 16 ≤ t) : sp m t = 0#8 := if_pos h
theorem racc_sp (m : BitVec 16) (t : Int) : racc m t 16 = sp m t := by
  apply BitVec.eq_of_getLsbD_eq
  intro q hq
  rw [racc_bit m t q hq 16]
  by_cases h1 : t ≤ -8 ∨ 16 ≤ t
  · rw [sp_out m t h1]
    by_cases h : 0 ≤ t + 7 - q ∧ t + 7 - q < ((16 : Nat) : Int)
    · omega
    · rw [decide_eq_false h]; simp
  · rw [sp_in m t (by omega) (by omega)]
    obtain ⟨s, hs⟩ : ∃ s : Nat, (t + 8).toNat = s := ⟨_, rfl⟩
    rw [hs]
    rw [BitVec.getLsbD_setWidth, BitVec.getLsbD_ushiftRight, BitVec.getLsbD_shiftLeft, BitVec.getLsbD_shiftLeft, BitVec.getLsbD_setWidth]
    have a1 : decide (q < 8) = true := decide_eq_true hq
    have a2 : decide (24 + q < 32) = true := decide_eq_true (by omega)
    have a3 : decide (24 + q < s) = false := decide_eq_false (by omega)
    have a4 : decide (24 + q - s < 32) = true := decide_eq_true (by omega)
    have a5 : decide (24 + q - s - 8 < 32) = true := decide_eq_true (by omega)
    rw [a1, a2, a3, a4, a5]
    by_cases h : 0 ≤ t + 7 - q ∧ t + 7 - q < ((16 : Nat) : Int)
    · rw [decide_eq_true h, decide_eq_false (show ¬ 24 + q - s < 8 by omega), show 24 + q - s - 8 = 15 - (t + 7 - q).toNat by omega]
      simp
    · rw [decide_eq_false h]
      by_cases h8 : 24 + q - s < 8
      · rw [decide_eq_true h8]; simp
      · rw [decide_eq_false h8, BitVec.getLsbD_of_ge m (24 + q - s - 8) (by omega)]; simp
/-- Bytes by their places. -/
def rmp (n : Nat) (f : Nat → BitVec 8) : List (BitVec 8) := (List.range n).map f
theorem rmp_len (n : Nat) (f : Nat → BitVec 8) : (rmp n f).length = n := by simp [rmp]
theorem rmp_get (n : Nat) (f : Nat → BitVec 8) {j : Nat} (h : j < n) : (rmp n f)[j]? = some (f j) := by
  unfold rmp
  rw [List.getElem?_map, List.getElem?_range h]; rfl
theorem rmp_congr {n : Nat} {f g : Nat → BitVec 8} (h : ∀ j, j < n → f j = g j) : rmp n f = rmp n g := by
  unfold rmp
  apply List.map_congr_left
  intro j hj
  exact h j (by simpa using hj)
theorem rmp_set (n : Nat) (f : Nat → BitVec 8) (i : Nat) (y : BitVec 8) : (rmp n f).set i y = rmp n fun j => if j = i then y else f j := by
  apply List.ext_getElem?
  intro j
  rw [List.getElem?_set]
  by_cases hj : j < n
  · by_cases e : i = j
    · rw [if_pos e, if_pos (by rw [rmp_len]; omega), rmp_get _ _ hj, if_pos e.symm]
    · rw [if_neg e, rmp_get n f hj, rmp_get _ _ hj, if_neg (fun h => e h.symm)]
  · have h1 : ∀ g, (rmp n g)[j]? = none := fun g => List.getElem?_eq_none (by rw [rmp_len]; omega)
    rw [h1, h1]
    split
    · rw [if_neg (by rw [rmp_len]; omega)]
    · rfl
theorem rmp_self (bs : List (BitVec 8)) : rmp bs.length (fun j => bs.getD j 0#8) = bs := by
  apply List.ext_getElem?
  intro j
  by_cases hj : j < bs.length
  · rw [rmp_get _ _ hj, List.getD_eq_getElem?_getD, List.getElem?_eq_getElem hj]; rfl
  · rw [List.getElem?_eq_none (by rw [rmp_len]; omega), List.getElem?_eq_none (by omega)]
/-- The bytes spoilt. -/
def spoil (bs : List (BitVec 8)) (bit : Int) (m : BitVec 16) : List (BitVec 8) := rmp bs.length fun j => bs.getD j 0#8 ^^^ sp m (8 * (j : Int) - bit)
/-- Until byte i. -/
def spF (bs : List (BitVec 8)) (bit : Int) (m : BitVec 16) (i : Nat) : Nat → BitVec 8 := fun j => bs.getD j 0#8 ^^^ (if j < i then sp m (8 * (j : Int) - bit) else 0#8)
theorem spF_zero (bs : List (BitVec 8)) (bit : Int) (m : BitVec 16) : rmp bs.length (spF bs bit m 0) = bs := by
  conv => rhs; rw [← rmp_self bs]
  apply rmp_congr
  intro j _
  simp [spF]
theorem spF_all (bs : List (BitVec 8)) (bit : Int) (m : BitVec 16) : rmp bs.length (spF bs bit m bs.length) = spoil bs bit m := by
  unfold spoil
  apply rmp_congr
  intro j hj
  simp [spF, hj]
theorem spF_skip (bs : List (BitVec 8)) (bit : Int) (m : BitVec 16) (i : Nat) (h : sp m (8 * (i : Int) - bit) = 0#8) : rmp bs.length (spF bs bit m (i + 1)) = rmp bs.length (spF bs bit m i) := by
  apply rmp_congr
  intro j _
  unfold spF
  by_cases e : j = i
  · subst e; rw [if_pos (by omega), if_neg (by omega), h]
  · by_cases h2 : j < i
    · rw [if_pos (by omega), if_pos h2]
    · rw [if_neg (by omega), if_neg h2]
theorem spF_set (bs : List (BitVec 8)) (bit : Int) (m : BitVec 16) (i : Nat) : (rmp bs.length (spF bs bit m i)).set i (spF bs bit m i i ^^^ sp m (8 * (i : Int) - bit)) = rmp bs.length (spF bs bit m (i + 1)) := by
  rw [rmp_set]
  apply rmp_congr
  intro j _
  unfold spF
  by_cases e : j = i
  · subst e; simp
  · rw [if_neg e]
    by_cases h2 : j < i
    · rw [if_pos h2, if_pos (by omega)]
    · rw [if_neg h2, if_neg (by omega)]
theorem wrap_sp (m : BitVec 16) (i : Nat) (bit : Int) (hi : i ≤ 140737488355328) (hb1 : -9223372036854775808 ≤ bit) (hb2 : bit ≤ 9223372036854775807) : sp m (IntKind.i64.wrap (8 * (i : Int) - bit)) = sp m (8 * (i : Int) - bit) := by
  by_cases h : 8 * (i : Int) - bit ≤ 9223372036854775807
  · rw [IntWalk.i64_in _ (by omega)]
  · rw [sp_out m (8 * (i : Int) - bit) (by omega)]
    apply sp_out
    left
    rw [IntKind.wrap_i64]
    omega
/-- The document's, until its step i. -/
def rF (bs : List (BitVec 8)) (bit : Int) (m : BitVec 16) (i : Nat) : Nat → BitVec 8 := fun j => bs.getD j 0#8 ^^^ racc m (8 * (j : Int) - bit) i
theorem rF_zero (bs : List (BitVec 8)) (bit : Int) (m : BitVec 16) : rmp bs.length (rF bs bit m 0) = bs := by
  conv => rhs; rw [← rmp_self bs]
  apply rmp_congr
  intro j _
  simp [rF, racc]
theorem rF_all (bs : List (BitVec 8)) (bit : Int) (m : BitVec 16) : rmp bs.length (rF bs bit m 16) = spoil bs bit m := by
  unfold spoil
  apply rmp_congr
  intro j _
  unfold rF
  rw [racc_sp]
theorem rF_skip (bs : List (BitVec 8)) (bit : Int) (m : BitVec 16) (i : Nat) (h : ∀ j : Nat, j < bs.length → ¬ (m.getLsbD (15 - i) = true ∧ 8 * (j : Int) - bit ≤ (i : Int) ∧ (i : Int) < 8 * (j : Int) - bit + 8)) : rmp bs.length (rF bs bit m (i + 1)) = rmp bs.length (rF bs bit m i) := by
  apply rmp_congr
  intro j hj
  have e : rterm m (8 * (j : Int) - bit) i = 0#8 := if_neg (h j hj)
  unfold rF
  show bs.getD j 0#8 ^^^ (racc m (8 * (j : Int) - bit) i ^^^ rterm m (8 * (j : Int) - bit) i) = _
  rw [e]; simp
theorem rF_set (bs : List (BitVec 8)) (bit : Int) (m : BitVec 16) (i k : Nat) (hm : m.getLsbD (15 - i) = true) (hk : bit + (i : Int) = (k : Int)) : (rmp bs.length (rF bs bit m i)).set (k / 8) (rF bs bit m i (k / 8) ^^^ (128#8 >>> (k % 8))) = rmp bs.length (rF bs bit m (i + 1)) := by
  rw [rmp_set]
  apply rmp_congr
  intro j _
  unfold rF
  show _ = bs.getD j 0#8 ^^^ (racc m (8 * (j : Int) - bit) i ^^^ rterm m (8 * (j : Int) - bit) i)
  by_cases e : j = k / 8
  · subst e
    have e2 : rterm m (8 * ((k / 8 : Nat) : Int) - bit) i = 128#8 >>> (k % 8) := by
      unfold rterm
      rw [if_pos ⟨hm, by omega, by omega⟩, show ((i : Int) - (8 * ((k / 8 : Nat) : Int) - bit)).toNat = k % 8 by omega]
    rw [if_pos rfl, e2, BitVec.xor_assoc]
  · have e2 : rterm m (8 * (j : Int) - bit) i = 0#8 := if_neg (fun h => e (by omega))
    rw [if_neg e, e2]; simp
theorem M_storeY {a : Act} {w : World} {n : Nat} {mm : List (Nat × Value)} {o : Oper} {x y : Operand} {l : List HProp} {p : Option Addr} {b off c N : Nat} {bs : List (BitVec 8)} {z : BitVec 8} (H : Fr a n mm) (ho : o.op = .store 5 x y) (j : Nat) (hx : ev mm x = Option.some (VPt b (off + j))) (hy : ev mm y = Option.some (V8 z)) (hp : p = Option.some ⟨b, off, none⟩) (hs : Sat w (Bys (.slice p N c) bs :: l)) (hl : bs.length = N) (hj : j < N) :
    Does Try.prog o a w fun _ w' => Sat w' (Bys (.slice p N c) (bs.set j z) :: l) := by
  subst hl
  intro K Q hk
  refine M_storeV H ho (by kernel_rfl) j hx hy rfl rfl hp hs hj K Q fun v' w' h => hk _ _ ?_
  unfold Bys
  rw [List.length_set, List.map_set]
  exact h
end Go.Proofs.Ytaekiecidbhjhaa
