/- Slices of bytes: what may be read, what is ours; append. -/
import Derived.Test.YtaekiecidbhjhaaBits
namespace Go.Proofs.Ytaekiecidbhjhaa
open Go.RowKit

def RdY (w : World) (v : Value) (bs : List (BitVec 8)) : Prop := Rd w 1 v bs.length (bs.map V8)
def Bys (v : Value) (bs : List (BitVec 8)) : HProp := Sl 5 1 v bs.length (bs.map V8)
theorem RdY.b {w : World} {v : Value} {bs : List (BitVec 8)} (h : RdY w v bs) : RdB w v (yb bs) := by
  unfold RdB
  rw [yb_len]
  have e : (yb bs).map (Value.int .u8) = bs.map V8 := by unfold yb; rw [List.map_map]; rfl
  rw [e]; exact h
theorem RdB.y {w : World} {v : Value} {bs : List (BitVec 8)} (h : RdB w v (yb bs)) : RdY w v bs := by
  unfold RdB at h
  rw [yb_len] at h
  have e : (yb bs).map (Value.int .u8) = bs.map V8 := by unfold yb; rw [List.map_map]; rfl
  rw [e] at h; exact h
theorem yb_eq {a b : List (BitVec 8)} : (yb a == yb b) = decide (a = b) := by
  by_cases h : a = b
  · subst h; simp
  · have h2 : yb a ≠ yb b := fun e => h (by
      unfold yb at e
      exact List.map_inj_right (fun x y hxy => BitVec.eq_of_toNat_eq (by omega)) |>.1 e)
    simp [h, h2]
theorem Bys.rd {w : World} {l : List HProp} {v : Value} {bs : List (BitVec 8)} (hs : Sat w (Bys v bs :: l)) : RdY w v bs := Sl.rd hs
theorem Bys.val {w : World} {l : List HProp} {v : Value} {bs : List (BitVec 8)} (hs : Sat w (Bys v bs :: l)) : ∃ a cap, v = .slice a bs.length cap ∧ bs.length ≤ cap ∧ cap ≤ maxLen := (Sl.rd hs).val
theorem RdY.some {w : World} {a : Option Addr} {n c : Nat} {bs : List (BitVec 8)} (h : RdY w (.slice a n c) bs) (hn : 0 < bs.length) : ∃ b off, a = Option.some ⟨b, off, none⟩ ∧ ∀ (j : Nat) (x : BitVec 8), bs[j]? = Option.some x → w.cell? ⟨b, off + j, none⟩ = Option.some (V8 x) := by
  obtain ⟨b, off, cap, e, _, _, _, h5⟩ := Rd.at h (by intro h; have := congrArg List.length h; simp at this; subst this; simp at hn)
  cases e
  exact ⟨b, off, rfl, fun j x hj => h5 j _ (by rw [List.getElem?_map, hj]; rfl)⟩
theorem oneY (bs : List (BitVec 8)) : ∀ q ∈ bs.map V8, q.oneCell' = true := by
  intro q hq
  obtain ⟨b, _, rfl⟩ := List.mem_map.1 hq
  rfl
section
variable {a : Act} {w : World} {n : Nat} {m : List (Nat × Value)} {o : Oper} {x y : Operand} {v u : Value} {l : List HProp}
theorem M_appY {bs cs : List (BitVec 8)} {M : Nat} (H : Fr a n m) (ho : o.op = .call { callee := .builtin .append, args := #[x, y], argTypes := #[90, 90] }) (hx : ev m x = some v) (hy : ev m y = some u) (hs : Sat w (Bys v bs :: l)) (hr : Rd w 1 u M (cs.map V8)) (hM : cs.length = M) (hb : bs.length + cs.length ≤ 140737488355328) :
    Does Try.prog o a w fun v' w' => ∃ a c, v' = .slice a (bs ++ cs).length c ∧ Sat w' (Bys (.slice a (bs ++ cs).length c) (bs ++ cs) :: l) := by
  subst hM
  have h := M_append H ho ty_bytes hx hy hs hr (oneY cs) (by omega)
  intro K Q hk
  refine h K Q fun v' w' ⟨r1, _, a1, c1, e, _, _⟩ => hk _ _ ⟨a1, c1, by rw [e, List.length_append], ?_⟩
  subst e
  unfold Bys
  rw [List.length_append, List.map_append]
  exact r1
theorem M_appY0 {cs : List (BitVec 8)} {M : Nat} (H : Fr a n m) (ho : o.op = .call { callee := .builtin .append, args := #[x, y], argTypes := #[90, 90] }) (hx : ev m x = some VNil) (hy : ev m y = some u) (hs : Sat w l) (hr : Rd w 1 u M (cs.map V8)) (hM : cs.length = M) (hb : cs.length ≤ 140737488355328) :
    Does Try.prog o a w fun v' w' => ∃ a c, v' = .slice a cs.length c ∧ Sat w' (Bys (.slice a cs.length c) cs :: l) :=
  M_appY (bs := []) H ho hx hy (Sl.nil _ _ w l hs) hr hM (by simpa using hb)
theorem Bys.nil (hs : Sat w l) : Sat w (Bys VNil [] :: l) := Sl.nil _ _ w l hs
/-- Room for more bytes, from nil: append of a made slice. -/
theorem M_appMake {N : Nat} (H : Fr a n m) (ho : o.op = .call { callee := .builtin .append, args := #[x, y], argTypes := #[90, 3] }) (hx : ev m x = some VNil) (hy : ev m y = some (VI (N : Int))) (h0 : 0 < N) (hb : N ≤ 140737488355328) (hs : Sat w l) :
    Does Try.prog o a w fun v' w' => ∃ b c, v' = .slice (some ⟨b, 0, none⟩) N c ∧ N ≤ c ∧ Sat w' (Bys (.slice (some ⟨b, 0, none⟩) 0 c) [] :: l) := by
  obtain ⟨i, z, hi, hz, h1, h2, h3⟩ := ty_bytes.info
  have hint : Try.prog.underlying 3 = some (.int .i64) := by kernel_rfl
  have hn' : ¬ (N = 0) := by omega
  have hw : IntKind.i64.wrap (N : Int) = (N : Int) := IntWalk.i64_in _ (by omega)
  have hneg : ¬ ((N : Int) < 0) := by omega
  have h63' : ¬ (9223372036854775807 < (N : Int)) := by omega
  have hb1 : ¬ ((281474976710656 : Int) < (N : Int)) := by omega
  have hfit := growslice_fits (need := N) (old := 0) (bytes := 1) (show 0 < N by omega) (by omega)
  have h48' : ¬ (281474976710656 < Builtin.nextslicecap N 0) := by omega
  have hm63 : N ≤ maxLen := by simp only [maxLen]; omega
  have hge := grownCap_ge w N 0 5
  have hcm : grownCap w N 0 5 ≤ maxLen := grownCap_le_maxLen w N 0 5 hm63
  refine Does.of_value (v := .slice (some ⟨w.heap.size, 0, none⟩) N (grownCap w N 0 5)) (w' := w.drew.alloc (.cells (Builtin.zeroCells z.cells N ++ Builtin.zeroCells z.cells (grownCap w N 0 5 - N)) 5)) ?_ ⟨w.heap.size, _, rfl, hge, ?_⟩
  · unfold execOp; rw [ho]
    simp [resolve, H.ev hx, H.ev hy, invoke, builtin, Builtin.append_, run_underlying ty_bytes.und, run_underlying hint, sizeOf, typeInfo, zeroValue, hi, hz, h1, h2, hn', hw, hneg, hb1, h63', h48', asInt, asIntOf, Question.forced, newRow, grownCap, Builtin.firstCells, Sem.run, Result.andThen]
  · have hs1 := hs.drew.alloc (.cells (Builtin.zeroCells z.cells N ++ Builtin.zeroCells z.cells (grownCap w N 0 5 - N)) 5)
    have hs2 : Sat (w.drew.alloc (.cells (Builtin.zeroCells z.cells N ++ Builtin.zeroCells z.cells (grownCap w N 0 5 - N)) 5)) (cel w.heap.size 5 ([] ++ [] ++ (Builtin.zeroCells z.cells N ++ Builtin.zeroCells z.cells (grownCap w N 0 5 - N)).toList) :: l) := by
      have e : ([] ++ [] ++ (Builtin.zeroCells z.cells N ++ Builtin.zeroCells z.cells (grownCap w N 0 5 - N)).toList).toArray = Builtin.zeroCells z.cells N ++ Builtin.zeroCells z.cells (grownCap w N 0 5 - N) := Array.ext' (by simp)
      unfold cel
      rw [e]; exact hs1
    refine Sl.mk hs2 rfl (Nat.zero_le _) hcm ?_
    simp [size_zeroCells, h3]
    omega
end
end Go.Proofs.Ytaekiecidbhjhaa
