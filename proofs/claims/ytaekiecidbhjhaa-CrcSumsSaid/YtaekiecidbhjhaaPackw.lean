/- What a packet is packed into. Plain. -/
import Derived.Test.YtaekiecidbhjhaaSeal
import Derived.Test.YtaekiecidbhjhaaPkt
import Derived.Test.YtaekiecidbhjhaaPkr
import Derived.Test.YtaekiecidbhjhaaAll
namespace Go.Proofs.Ytaekiecidbhjhaa
open Go.RowKit

/-- A packet that may be sent. -/
def Pkt.right (p : Pkt) : Prop := (1 ≤ p.kind ∧ p.kind ≤ 9) ∧ (0 ≤ p.src ∧ p.src < 6) ∧ (0 ≤ p.dst ∧ p.dst < 6) ∧ (0 ≤ p.id ∧ p.id < 4096) ∧ (0 ≤ p.line ∧ p.line < 8) ∧ (-1 ≤ p.ptr ∧ p.ptr < 6) ∧ (0 ≤ p.state ∧ p.state ≤ 2) ∧ p.data.length ≤ 4
instance (p : Pkt) : Decidable p.right := by unfold Pkt.right; infer_instance
abbrev b8 (z : Int) : BitVec 8 := BitVec.ofInt 8 z
theorem conv8 (z : Int) : IntKind.u8.wrap z = ((b8 z).toNat : Int) := by
  rw [wrap8, BitVec.toNat_ofInt]
  omega
abbrev fbyte (b : Bool) : BitVec 8 := if b then 1#8 else 0#8
/-- A word's byte k, from the top. -/
def wb (x : Int) (k : Nat) : BitVec 8 := b8 (x.fdiv (2 ^ (56 - 8 * k)))
def wordb (x : Int) : List (BitVec 8) := (List.range 8).map (wb x)
theorem wordb_len (x : Int) : (wordb x).length = 8 := rfl
theorem wordb_more (x : Int) (k : Nat) (hk : k < 8) : (wordb x).take (k + 1) = (wordb x).take k ++ [wb x k] := by
  rw [List.take_add_one]
  unfold wordb
  rw [List.getElem?_map, List.getElem?_range hk]; rfl
theorem shr64 (k0 : IntKind) (hb : k0.bits = 64) (x j : Int) (k : Nat) (hj : j = (k : Int)) (hk : k ≤ 64) : x.fdiv (2 ^ (min j.toNat k0.bits)) = x.fdiv (2 ^ k) := by
  subst hj
  have e : min ((k : Int)).toNat k0.bits = k := by rw [hb]; omega
  rw [e]
theorem wrap64m (x : Int) : IntKind.u64.wrap x = x % 18446744073709551616 := by simp [IntKind.wrap, IntKind.signed, IntKind.bits]
theorem wb_mod (x : Int) (k : Nat) (hk : k < 8) : b8 ((x % 18446744073709551616).fdiv (2 ^ (56 - 8 * k))) = wb x k := by
  unfold wb
  apply BitVec.eq_of_toNat_eq
  rw [BitVec.toNat_ofInt, BitVec.toNat_ofInt]
  rw [Int.fdiv_eq_ediv_of_nonneg _ (by exact Int.le_of_lt (Int.pow_pos (by decide))), Int.fdiv_eq_ediv_of_nonneg _ (by exact Int.le_of_lt (Int.pow_pos (by decide)))]
  have h : k = 0 ∨ k = 1 ∨ k = 2 ∨ k = 3 ∨ k = 4 ∨ k = 5 ∨ k = 6 ∨ k = 7 := by omega
  rcases h with rfl | rfl | rfl | rfl | rfl | rfl | rfl | rfl
  all_goals (first | (simp; done) | (simp; omega))
abbrev phead (p : Pkt) : List (BitVec 8) := [b8 p.kind, b8 p.src, b8 p.dst, b8 (p.id.fdiv 256), b8 p.id, b8 p.line, b8 (p.ptr + 1), b8 p.state, fbyte p.flag, b8 (p.data.length : Int)]
def pbody (p : Pkt) (i : Nat) : List (BitVec 8) := phead p ++ (p.data.take i).flatMap wordb
def ppack (p : Pkt) : List (BitVec 8) := cseal (phead p ++ p.data.flatMap wordb)
theorem words_len (xs : List Int) : (xs.flatMap wordb).length = 8 * xs.length := by
  induction xs with
  | nil => rfl
  | cons x xs ih => rw [List.flatMap_cons, List.length_append, ih, wordb_len, List.length_cons]; omega
theorem pbody_len (p : Pkt) (i : Nat) : (pbody p i).length ≤ 10 + 8 * p.data.length := by
  unfold pbody
  rw [List.length_append, words_len, List.length_take]
  show 10 + _ ≤ _
  omega
theorem pbody_more (p : Pkt) (i : Nat) (h : i < p.data.length) : pbody p (i + 1) = pbody p i ++ wordb (p.data.getD i 0) := by
  unfold pbody
  have e : p.data.take (i + 1) = p.data.take i ++ [p.data.getD i 0] := by
    rw [List.take_add_one, List.getElem?_eq_getElem h, List.getD_eq_getElem?_getD, List.getElem?_eq_getElem h]; rfl
  rw [e, List.flatMap_append, ← List.append_assoc, List.flatMap_cons, List.flatMap_nil, List.append_nil]
theorem pbody_all (p : Pkt) : pbody p p.data.length = phead p ++ p.data.flatMap wordb := by
  unfold pbody
  rw [List.take_of_length_le (Nat.le_refl _)]
theorem RdI.atY {w : World} {p : Option Addr} {b off n c : Nat} {xs : List Int} (h : RdI w (.slice p n c) xs) (hp : p = Option.some ⟨b, off, none⟩) (j : Nat) (hj : j < xs.length) : w.cell? ⟨b, off + j, none⟩ = Option.some (VI (xs.getD j 0)) := by
  obtain ⟨b1, o1, e1, c1⟩ := RdI.some h (by omega)
  rw [hp] at e1
  cases e1
  exact c1 j hj
theorem tri (p q : Prop) : ¬ p ∨ (p ∧ ¬ q) ∨ (p ∧ q) := by
  by_cases h : p
  · by_cases h2 : q
    · exact .inr (.inr ⟨h, h2⟩)
    · exact .inr (.inl ⟨h, h2⟩)
  · exact .inl h
/-- The answer to a request; is it a request? -/
def ans (k : Int) : Int := if k = 1 then 7 else if k = 2 ∨ k = 4 ∨ k = 5 then 8 else if k = 3 ∨ k = 6 then 9 else 0
def isReq (k : Int) : Bool := decide (1 ≤ k ∧ k ≤ 6)
theorem Pkt.eqb_ne {p q : Pkt} (h : p ≠ q) : p.eqb q = false := by
  cases e : p.eqb q with
  | false => rfl
  | true => exact absurd (Pkt.eqb_iff.1 e) h
theorem Pkt.eqb_data {p q : Pkt} (h1 : p.kind = q.kind) (h2 : p.src = q.src) (h3 : p.dst = q.dst) (h4 : p.id = q.id) (h5 : p.line = q.line) (h6 : p.ptr = q.ptr) (h7 : p.state = q.state) (h8 : p.flag = q.flag) : p.eqb q = (p.data == q.data) := by
  by_cases h : p.data = q.data
  · have e : p = q := by
      cases p; cases q
      simp only at h h1 h2 h3 h4 h5 h6 h7 h8
      subst h h1 h2 h3 h4 h5 h6 h7 h8
      rfl
    subst e
    rw [Pkt.eqb_iff.2 rfl]; simp
  · rw [Pkt.eqb_ne (fun e => h (by rw [e]))]
    simp [h]
end Go.Proofs.Ytaekiecidbhjhaa
