/- One law per kind of operation: what it yields. -/
import Derived.Test.YtaekiecidbhjhaaFr
import Derived.WalkSpells
namespace Go.Proofs.Ytaekiecidbhjhaa
open Go.RowKit

section
variable {P : Program} {a : Act} {w : World} {n : Nat} {m : List (Nat × Value)} {o : Oper} {x y : Operand} {v u : Value} {T U S : TypeId} {k : IntKind} {i j r : Int}

theorem Y_mov (H : Fr a n m) (ho : o.op = .move x) (hx : ev m x = some v) : Yl P o a w v := by
  unfold Yl execOp; rw [ho]; simp [H.ev hx]
theorem Y_asg (H : Fr a n m) (ho : o.op = .assign x) (hx : ev m x = some v) : Yl P o a w v := by
  unfold Yl execOp; rw [ho]; simp [H.ev hx]
theorem run_guard_int (op : BinOp) (b c : Int) (k k' : IntKind) : (eqGuard op T x y (.int k b) (.int k' c)).run P w = .ok () w := by
  unfold eqGuard; split <;> rfl
theorem Y_add (H : Fr a n m) (ho : o.op = .binOp .add T x y U) (hx : ev m x = some (.int k i)) (hy : ev m y = some (.int k j)) (hr : k.wrap (i + j) = r) : Yl P o a w (.int k r) := by
  unfold Yl execOp; rw [ho]; simp [H.ev hx, H.ev hy, run_guard_int, binOp, Op.intArith, hr]
theorem Y_sub (H : Fr a n m) (ho : o.op = .binOp .sub T x y U) (hx : ev m x = some (.int k i)) (hy : ev m y = some (.int k j)) (hr : k.wrap (i - j) = r) : Yl P o a w (.int k r) := by
  unfold Yl execOp; rw [ho]; simp [H.ev hx, H.ev hy, run_guard_int, binOp, Op.intArith, hr]
theorem Y_mul (H : Fr a n m) (ho : o.op = .binOp .mul T x y U) (hx : ev m x = some (.int k i)) (hy : ev m y = some (.int k j)) (hr : k.wrap (i * j) = r) : Yl P o a w (.int k r) := by
  unfold Yl execOp; rw [ho]; simp [H.ev hx, H.ev hy, run_guard_int, binOp, Op.intArith, hr]
theorem Y_quo (H : Fr a n m) (ho : o.op = .binOp .quo T x y U) (hx : ev m x = some (.int k i)) (hy : ev m y = some (.int k j)) (hj : j ≠ 0) (hr : k.wrap (i.tdiv j) = r) : Yl P o a w (.int k r) := by
  unfold Yl execOp; rw [ho]; simp [H.ev hx, H.ev hy, run_guard_int, binOp, Op.intDiv, hj, hr]
theorem Y_rem (H : Fr a n m) (ho : o.op = .binOp .rem T x y U) (hx : ev m x = some (.int k i)) (hy : ev m y = some (.int k j)) (hj : j ≠ 0) (hr : i.tmod j = r) : Yl P o a w (.int k r) := by
  unfold Yl execOp; rw [ho]; simp [H.ev hx, H.ev hy, run_guard_int, binOp, Op.intDiv, hj, hr]
theorem Y_xor (H : Fr a n m) (ho : o.op = .binOp .xor T x y U) (hx : ev m x = some (.int k i)) (hy : ev m y = some (.int k j)) (hr : k.wrap ((BitVec.ofInt k.bits i ^^^ BitVec.ofInt k.bits j).toNat : Int) = r) : Yl P o a w (.int k r) := by
  unfold Yl execOp; rw [ho]; simp only [H.ev hx, H.ev hy, binOp, Op.intBits]; simp only [ne_eq, not_true_eq_false, ite_false]; rw [hr]; simp [run_guard_int]
theorem Y_and (H : Fr a n m) (ho : o.op = .binOp .and T x y U) (hx : ev m x = some (.int k i)) (hy : ev m y = some (.int k j)) (hr : k.wrap ((BitVec.ofInt k.bits i &&& BitVec.ofInt k.bits j).toNat : Int) = r) : Yl P o a w (.int k r) := by
  unfold Yl execOp; rw [ho]; simp only [H.ev hx, H.ev hy, binOp, Op.intBits]; simp only [ne_eq, not_true_eq_false, ite_false]; rw [hr]; simp [run_guard_int]
theorem Y_or (H : Fr a n m) (ho : o.op = .binOp .or T x y U) (hx : ev m x = some (.int k i)) (hy : ev m y = some (.int k j)) (hr : k.wrap ((BitVec.ofInt k.bits i ||| BitVec.ofInt k.bits j).toNat : Int) = r) : Yl P o a w (.int k r) := by
  unfold Yl execOp; rw [ho]; simp only [H.ev hx, H.ev hy, binOp, Op.intBits]; simp only [ne_eq, not_true_eq_false, ite_false]; rw [hr]; simp [run_guard_int]
theorem Y_shl {k' : IntKind} (H : Fr a n m) (ho : o.op = .binOp .shl T x y U) (hx : ev m x = some (.int k i)) (hy : ev m y = some (.int k' j)) (hj : 0 ≤ j) (hr : k.wrap (i * 2 ^ (min j.toNat k.bits)) = r) : Yl P o a w (.int k r) := by
  have h0 : ¬ j < 0 := by omega
  unfold Yl execOp; rw [ho]; simp only [H.ev hx, H.ev hy, binOp, Op.shift, if_neg h0]; rw [hr]; simp [run_guard_int]
theorem Y_shr {k' : IntKind} (H : Fr a n m) (ho : o.op = .binOp .shr T x y U) (hx : ev m x = some (.int k i)) (hy : ev m y = some (.int k' j)) (hj : 0 ≤ j) (hr : i.fdiv (2 ^ (min j.toNat k.bits)) = r) : Yl P o a w (.int k r) := by
  have h0 : ¬ j < 0 := by omega
  unfold Yl execOp; rw [ho]; simp only [H.ev hx, H.ev hy, binOp, Op.shift, if_neg h0]; rw [hr]; simp [run_guard_int]
theorem Y_lss (H : Fr a n m) (ho : o.op = .binOp .lss T x y U) (hx : ev m x = some (.int k i)) (hy : ev m y = some (.int k j)) : Yl P o a w (.bool (decide (i < j))) := by
  unfold Yl execOp; rw [ho]; simp [H.ev hx, H.ev hy, run_guard_int, binOp, Op.intCmp]
theorem Y_leq (H : Fr a n m) (ho : o.op = .binOp .leq T x y U) (hx : ev m x = some (.int k i)) (hy : ev m y = some (.int k j)) : Yl P o a w (.bool (decide (i ≤ j))) := by
  unfold Yl execOp; rw [ho]; simp [H.ev hx, H.ev hy, run_guard_int, binOp, Op.intCmp]
theorem Y_gtr (H : Fr a n m) (ho : o.op = .binOp .gtr T x y U) (hx : ev m x = some (.int k i)) (hy : ev m y = some (.int k j)) : Yl P o a w (.bool (decide (j < i))) := by
  unfold Yl execOp; rw [ho]; simp [H.ev hx, H.ev hy, run_guard_int, binOp, Op.intCmp]
theorem Y_geq (H : Fr a n m) (ho : o.op = .binOp .geq T x y U) (hx : ev m x = some (.int k i)) (hy : ev m y = some (.int k j)) : Yl P o a w (.bool (decide (j ≤ i))) := by
  unfold Yl execOp; rw [ho]; simp [H.ev hx, H.ev hy, run_guard_int, binOp, Op.intCmp]
theorem Y_eql (H : Fr a n m) (ho : o.op = .binOp .eql T x y U) (hx : ev m x = some (.int k i)) (hy : ev m y = some (.int k j)) : Yl P o a w (.bool (decide (i = j))) := by
  unfold Yl execOp; rw [ho]; simp [H.ev hx, H.ev hy, run_guard_int, binOp, Op.intCmp]; rfl
theorem Y_neq (H : Fr a n m) (ho : o.op = .binOp .neq T x y U) (hx : ev m x = some (.int k i)) (hy : ev m y = some (.int k j)) : Yl P o a w (.bool (decide (i ≠ j))) := by
  unfold Yl execOp; rw [ho]; simp [H.ev hx, H.ev hy, run_guard_int, binOp, Op.intCmp]; by_cases h : i = j <;> simp [h]
/-- A comparison whose outcome is known. -/
theorem Y_to {b c : Bool} (h : Yl P o a w (.bool b)) (e : b = c) : Yl P o a w (.bool c) := e ▸ h
theorem Y_yes {p : Prop} [Decidable p] (h : Yl P o a w (.bool (decide p))) (e : p) : Yl P o a w (.bool true) := Y_to h (decide_eq_true e)
theorem Y_no {p : Prop} [Decidable p] (h : Yl P o a w (.bool (decide p))) (e : ¬ p) : Yl P o a w (.bool false) := Y_to h (decide_eq_false e)
theorem run_guard_b (op : BinOp) (b c : Bool) : (eqGuard op T x y (.bool b) (.bool c)).run P w = .ok () w := by
  unfold eqGuard; split <;> rfl
theorem run_guard_p (op : BinOp) (b c : Option Addr) : (eqGuard op T x y (.pointer b) (.pointer c)).run P w = .ok () w := by
  unfold eqGuard; split <;> rfl
theorem run_guard_s (op : BinOp) (b c : Option Addr) (l l' c1 c2 : Nat) : (eqGuard op T x y (.slice b l c1) (.slice c l' c2)).run P w = .ok () w := by
  unfold eqGuard; split <;> rfl
/-- Bools. -/
theorem Y_eqlB {b c : Bool} (H : Fr a n m) (ho : o.op = .binOp .eql T x y U) (hT : P.underlying T = some .bool) (hx : ev m x = some (.bool b)) (hy : ev m y = some (.bool c)) : Yl P o a w (.bool (b == c)) := by
  unfold Yl execOp; rw [ho]; simp [H.ev hx, H.ev hy, run_guard_b, run_guard_p, run_guard_s, binOp, run_equal_bool w T b c hT]
theorem Y_neqB {b c : Bool} (H : Fr a n m) (ho : o.op = .binOp .neq T x y U) (hT : P.underlying T = some .bool) (hx : ev m x = some (.bool b)) (hy : ev m y = some (.bool c)) : Yl P o a w (.bool (b != c)) := by
  unfold Yl execOp; rw [ho]; simp [H.ev hx, H.ev hy, run_guard_b, run_guard_p, run_guard_s, binOp, run_equal_bool w T b c hT]; cases b <;> cases c <;> rfl
/-- A pointer against nil. -/
theorem Y_eqlP {p : Option Addr} (H : Fr a n m) (ho : o.op = .binOp .eql T x y U) (hT : P.underlying T = some (.pointer (P.pointee T))) (hx : ev m x = some (.pointer p)) (hy : ev m y = some (.pointer none)) : Yl P o a w (.bool p.isNone) := by
  have := run_equal_pointer_nil (P := P) (w := w) T p hT
  unfold Yl execOp; rw [ho]; simp [H.ev hx, H.ev hy, run_guard_b, run_guard_p, run_guard_s, binOp, this]
theorem Y_neqP {p : Option Addr} (H : Fr a n m) (ho : o.op = .binOp .neq T x y U) (hT : P.underlying T = some (.pointer (P.pointee T))) (hx : ev m x = some (.pointer p)) (hy : ev m y = some (.pointer none)) : Yl P o a w (.bool !p.isNone) := by
  have := run_equal_pointer_nil (P := P) (w := w) T p hT
  unfold Yl execOp; rw [ho]; simp [H.ev hx, H.ev hy, run_guard_b, run_guard_p, run_guard_s, binOp, this]
/-- A slice against nil. -/
theorem Y_eqlS {p : Option Addr} {l c : Nat} {e : TypeId} (H : Fr a n m) (ho : o.op = .binOp .eql T x y U) (hT : P.underlying T = some (.slice e)) (hx : ev m x = some (.slice p l c)) (hy : ev m y = some (.slice none 0 0)) : Yl P o a w (.bool p.isNone) := by
  have := Lib.run_eql_slice_nil (P := P) w T e p l c 0 0 hT
  unfold Yl execOp; rw [ho]; simp [H.ev hx, H.ev hy, run_guard_b, run_guard_p, run_guard_s, this]
theorem Y_neqS {p : Option Addr} {l c : Nat} {e : TypeId} (H : Fr a n m) (ho : o.op = .binOp .neq T x y U) (hT : P.underlying T = some (.slice e)) (hx : ev m x = some (.slice p l c)) (hy : ev m y = some (.slice none 0 0)) : Yl P o a w (.bool !p.isNone) := by
  have := run_neq_slice_nil_any (P := P) w T e p l c 0 0 hT
  unfold Yl execOp; rw [ho]; simp [H.ev hx, H.ev hy, run_guard_b, run_guard_p, run_guard_s, this]
theorem Y_not {b : Bool} (H : Fr a n m) (ho : o.op = .unOp .not T x) (hx : ev m x = some (.bool b)) : Yl P o a w (.bool !b) := by
  unfold Yl execOp; rw [ho]; simp [H.ev hx, Op.unary]
theorem Y_ext {vs : Array Value} {ix : Nat} (H : Fr a n m) (ho : o.op = .extract x ix) (hx : ev m x = some (.tuple vs)) (hv : vs[ix]? = some v) : Yl P o a w v := by
  unfold Yl execOp; rw [ho]; simp [H.ev hx, Instr.extract, hv]
theorem Y_conv (H : Fr a n m) (ho : o.op = .convert T U x) (hS : (P.underlying T).isSome = true) {k' : IntKind} (hU : P.underlying U = some (.int k')) (hx : ev m x = some (.int k i)) (hr : k'.wrap i = r) : Yl P o a w (.int k' r) := by
  obtain ⟨d, hd⟩ := Option.isSome_iff_exists.1 hS
  unfold Yl execOp; rw [ho]
  have : (convert T U (.int k i)).run P w = .ok (.int k' r) w := by
    unfold convert
    simp only [underlying, program, Sem.run, hd, hU]
    cases d <;> simp_all [Sem.run, Conv.intToInt, underlying, program, Result.andThen]
  simp [H.ev hx, this]
theorem Y_chk {p : Addr} (H : Fr a n m) (ho : o.op = .nilCheck x) (hx : ev m x = some (.pointer (some p))) : Yl P o a w (.pointer (some p)) := by
  unfold Yl execOp; rw [ho]; simp [H.ev hx]
theorem Y_fun {f : Fn} {xs cs : Array Operand} {vs us : Array Value} (H : Fr a n m) (ho : o.op = .makeFunc f xs cs) (hx : xs.map a.eval = vs) (hc : cs.map a.eval = us) : Yl P o a w (.func f vs us) := by
  unfold Yl execOp; rw [ho]; simp [Instr.makeFunc, hx, hc]
/-- The place of a field. -/
def fldOff (P : Program) (S : TypeId) (f : Nat) : Option Nat :=
  match P.underlying S with
  | some (.struct fs) => match fs[f]? with
    | some g => match P.info? g.type with
      | some i => if i.size = 0 then none else some g.offset
      | none => none
    | none => none
  | _ => none
theorem Y_fad {f off b s r : Nat} (H : Fr a n m) (ho : o.op = .fieldAddr S x f) (hf : fldOff P S f = some off) (hx : ev m x = some (.pointer (some ⟨b, s, none⟩))) (hr : s + off = r) : Yl P o a w (.pointer (some ⟨b, r, none⟩)) := by
  unfold fldOff at hf
  split at hf
  · rename_i fs hu
    split at hf
    · rename_i g hg
      split at hf
      · rename_i i hi
        split at hf
        · cases hf
        · rename_i hz
          cases hf
          subst hr
          unfold Yl execOp; rw [ho]; simp [H.ev hx, Instr.fieldAt, underlying, program, Sem.run, Result.andThen, hu, hg, Instr.sureAddr, fieldPlace, sizeOf, typeInfo, hi, hz, addr_add]
      · cases hf
    · cases hf
  · cases hf
/-- A cell. -/
def scalar (P : Program) (T : TypeId) : Bool :=
  match P.underlying T with
  | some (.struct _) | some (.array _ _) | none => false
  | _ => true
theorem scalar_run (h : scalar P T = true) : (isAgg T).run P w = .ok false w := by
  unfold scalar at h
  split at h
  · cases h
  · cases h
  · cases h
  · rename_i d h1 h2 h3
    cases hu : P.underlying T with
    | none => exact absurd hu h3
    | some e =>
      unfold isAgg
      simp only [underlying, program, Sem.run]
      cases e <;> simp_all [Sem.run, underlying, program, Result.andThen]
theorem Y_load {p : Addr} (H : Fr a n m) (ho : o.op = .load T x) (hT : scalar P T = true) (hx : ev m x = some (.pointer (some p))) (hc : w.cell? p = some v) : Yl P o a w v := by
  unfold Yl execOp; rw [ho]; simp [H.ev hx, Instr.loadAt, Instr.sureAddr, loadVar, scalar_run hT, load, Sem.run, hc]
end
end Go.Proofs.Ytaekiecidbhjhaa
