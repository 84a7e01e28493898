/- Bytes as strings; slices of bytes with room behind them; slices of no elements. -/
import Derived.Test.YtaekiecidbhjhaaPackw
import Derived.Test.YtaekiecidbhjhaaMem3
import Derived.Test.YtaekiecidbhjhaaSl2
import Derived.Laws.BytesString
import Derived.Laws.Strings
namespace Go.Proofs.Ytaekiecidbhjhaa
open Go.RowKit

/-- The string of bytes. -/
def bstr (bs : List (BitVec 8)) : ByteArray := (yb bs).foldl (fun r n => r.push (UInt8.ofNat n.toNat)) ByteArray.empty
theorem push_list : ∀ (ns : List Int) (s : ByteArray), (ns.foldl (fun r n => r.push (UInt8.ofNat n.toNat)) s).data.toList = s.data.toList ++ ns.map fun n => UInt8.ofNat n.toNat
  | [], s => by simp
  | n :: ns, s => by
    rw [List.foldl_cons, push_list ns]
    show (s.data.push _).toList ++ _ = _
    simp
theorem bstr_list (bs : List (BitVec 8)) : (bstr bs).toList = bs.map fun b => UInt8.ofNat b.toNat := by
  rw [ByteArray.toList_eq]
  unfold bstr
  rw [push_list]
  unfold yb
  rw [List.map_map]
  rfl
theorem u8_inj {b c : BitVec 8} (h : UInt8.ofNat b.toNat = UInt8.ofNat c.toNat) : b = c := by
  have h1 := congrArg UInt8.toNat h
  rw [UInt8.toNat_ofNat', UInt8.toNat_ofNat'] at h1
  have hb := b.isLt
  have hc := c.isLt
  apply BitVec.eq_of_toNat_eq
  omega
theorem bstr_eq (a b : List (BitVec 8)) : ((bstr a).toList == (bstr b).toList) = decide (a = b) := by
  rw [bstr_list, bstr_list]
  by_cases h : a = b
  · subst h; simp
  · have h2 : a.map (fun b => UInt8.ofNat b.toNat) ≠ b.map (fun b => UInt8.ofNat b.toNat) := fun e => h ((List.map_inj_right fun x y hxy => u8_inj hxy).1 e)
    rw [decide_eq_false h]; exact beq_eq_false_iff_ne.2 h2
section
variable {a : Act} {w : World} {n : Nat} {m : List (Nat × Value)} {o : Oper} {x y : Operand} {v u : Value} {l : List HProp} {T U : TypeId}
theorem Y_convStr {bs : List (BitVec 8)} (H : Fr a n m) (ho : o.op = .convert 90 9 x) (hx : ev m x = some v) (hr : RdY w v bs) : Yl Try.prog o a w (.string (bstr bs)) := by
  obtain ⟨p, c, rfl, _, _⟩ := Rd.val hr
  have hst : Try.prog.underlying 9 = some .string := by kernel_rfl
  have hu8 : Try.prog.underlying 5 = some (.int .u8) := by kernel_rfl
  have h1 := run_convert_bytes_string w _ _ _ p bs.length c ty_bytes.und hu8 hst
  have h2 : (Conv.bytesToString (.slice p bs.length c)).run Try.prog w = .ok (.string (bstr bs)) w := by
    cases p with
    | none =>
      obtain ⟨a1, c1, e, h3, h4, h5, h6, _⟩ := hr
      cases e
      have : bs.length = 0 := by have := h6 rfl; omega
      have hb : bs = [] := List.eq_nil_of_length_eq_zero this
      subst hb
      rfl
    | some ad =>
      have hl := run_firstCells_rd (P := Try.prog) hr
      simp only [Builtin.firstCells, Nat.mul_one] at hl
      have e : (bs.map V8).toArray = ((yb bs).map (Value.int .u8)).toArray := by unfold yb; rw [List.map_map]; rfl
      rw [e] at hl
      exact run_bytesToString w ad bs.length c (yb bs) hl
  rw [h2] at h1
  unfold Yl execOp; rw [ho]
  simp [H.ev hx, h1, Result.andThen]
theorem run_guard_str {P : Program} (op : BinOp) (b c : ByteArray) : (eqGuard op T x y (Value.string b) (Value.string c)).run P w = .ok () w := by
  unfold eqGuard; split <;> rfl
theorem Y_eqlStr {bs cs : List (BitVec 8)} {P : Program} (H : Fr a n m) (ho : o.op = .binOp .eql T x y U) (hx : ev m x = some (.string (bstr bs))) (hy : ev m y = some (.string (bstr cs))) : Yl P o a w (.bool (decide (bs = cs))) := by
  unfold Yl execOp; rw [ho]; simp [H.ev hx, H.ev hy, run_guard_str, binOp, Op.stringOp, bstr_eq]
theorem Y_neqStr {bs cs : List (BitVec 8)} {P : Program} (H : Fr a n m) (ho : o.op = .binOp .neq T x y U) (hx : ev m x = some (.string (bstr bs))) (hy : ev m y = some (.string (bstr cs))) : Yl P o a w (.bool (decide (bs ≠ cs))) := by
  unfold Yl execOp; rw [ho]; simp [H.ev hx, H.ev hy, run_guard_str, binOp, Op.stringOp, bstr_eq]
/-- A slice of no elements. -/
theorem M_buildSlice0 {P : Program} {E : TypeId} {sz by_ : Nat} (H : Fr a n m) (ho : o.op = .buildSlice T 0 #[]) (ht : SlTy P T E sz by_) (hs : Sat w l) :
    Does P o a w fun u w' => ∃ b, u = .slice (some ⟨b, 0, none⟩) 0 0 ∧ Sat w' (Sl E sz (.slice (some ⟨b, 0, none⟩) 0 0) 0 [] :: l) := by
  obtain ⟨t, tz, hti, htz, hsz, hby, htc⟩ := ht.info
  refine Does.of_value (v := .slice (some ⟨w.heap.size, 0, none⟩) 0 0) (w' := w.alloc (.cells #[] E)) ?_ ⟨_, rfl, ?_⟩
  · have := H
    unfold execOp; rw [ho]
    simp [Instr.buildSlice, underlying, program, Sem.run, Result.andThen, ht.und, sizeOf, typeInfo, hti, hsz, zeroValue, htz, Instr.fill, newRow]
    congr 2
    exact Array.eq_empty_of_size_eq_zero (by simp)
  · have h2 := hs.alloc (.cells #[] E)
    have h3 : Sat (w.alloc (.cells #[] E)) (cel w.heap.size E ([] ++ [] ++ []) :: l) := h2
    exact Sl.mk h3 (by simp) (Nat.le_refl _) (by simp [maxLen]) (by simp)
theorem cell_freeze (w : World) (p q : Addr) (k : Nat) : (w.freeze p k).cell? q = w.cell? q := by
  by_cases hk : k = 0
  · unfold World.freeze; rw [if_pos hk]
  · unfold World.freeze; rw [if_neg hk]
    unfold World.cell?
    simp only [Array.getElem?_modify]
    by_cases e : p.block = q.block
    · rw [if_pos e]
      cases w.heap[q.block]? with
      | none => rfl
      | some ob => cases ob <;> rfl
    · rw [if_neg e]
/-- []byte([]byte): the same slice, marked. -/
theorem M_convY {bs : List (BitVec 8)} {p : Option Addr} {N c : Nat} (H : Fr a n m) (ho : o.op = .convert 90 90 x) (hx : ev m x = some (.slice p N c)) (hs : Sat w (Sl 5 1 (.slice p N c) N (bs.map V8) :: l)) (h0 : 0 < N) :
    Does Try.prog o a w fun u w' => u = .slice p N c ∧ Rd w' 1 (.slice p N c) N (bs.map V8) ∧ Sat w' l := by
  have hr := Sl.rd hs
  rcases Sl.cases hs with ⟨e1, e2, _⟩ | ⟨b, pre, suf, cap, e1, e2, e3, e4, e5, hs1⟩
  · omega
  cases e1
  have hu8 : Try.prog.underlying 5 = some (.int .u8) := by kernel_rfl
  have hb := hs1.blk
  refine Does.of_value (v := .slice (some ⟨b, pre.length, none⟩) N c) (w' := w.freeze ⟨b, (pre ++ bs.map V8 ++ suf).length, none⟩ 1) ?_ ⟨rfl, ?_, ?_⟩
  · unfold execOp; rw [ho]
    have hsh : w.shape? b = some (5, (pre ++ bs.map V8 ++ suf).length) := by
      unfold World.shape?
      rw [hb]
      simp
    simp [H.ev hx, convert, run_underlying ty_bytes.und, run_underlying hu8, markStringish, shape, Sem.run, Result.andThen, hsh]
  · obtain ⟨a1, c1, h1, h2, h3, h4, h5, h6⟩ := hr
    exact ⟨a1, c1, h1, h2, h3, h4, h5, fun ad e j u hu => by rw [cell_freeze]; exact h6 ad e j u hu⟩
  · have h2 := hs1.setObj (.cells (pre ++ bs.map V8 ++ suf).toArray 5 (((pre ++ bs.map V8 ++ suf).length), ((pre ++ bs.map V8 ++ suf).length + 1)))
    have e : w.freeze ⟨b, (pre ++ bs.map V8 ++ suf).length, none⟩ 1 = { w with heap := w.heap.setIfInBounds b (.cells (pre ++ bs.map V8 ++ suf).toArray 5 (((pre ++ bs.map V8 ++ suf).length), ((pre ++ bs.map V8 ++ suf).length + 1))) } := by
      have hlt := hs1.lt
      have hh : ∀ f : Obj → Obj, w.heap.modify b f = w.heap.setIfInBounds b (f (.cells (pre ++ bs.map V8 ++ suf).toArray 5 (0, 0))) := by
        intro f
        apply Array.ext_getElem?
        intro i
        rw [Array.getElem?_modify, Array.getElem?_setIfInBounds]
        by_cases ei : b = i
        · subst ei
          rw [if_pos rfl, if_pos rfl, if_pos hlt, hb]; rfl
        · rw [if_neg ei, if_neg ei]
      unfold World.freeze
      rw [if_neg (by decide), hh]
      rfl
    rw [e]
    exact h2.tail
/-- A new slice with room behind it. -/
theorem M_makeC {P : Program} {E : TypeId} {sz by_ N C : Nat} {zv : Value} (H : Fr a n m) (ho : o.op = .makeSlice T x y) (ht : SlTy P T E sz by_) (hz : (P.info? E).map (fun i => i.zero) = some (some zv)) (hx : ev m x = some (.int .i64 (N : Int))) (hy : ev m y = some (.int .i64 (C : Int))) (hNC : N ≤ C) (hb : C * by_ ≤ 140737488355328) (hs : Sat w l) :
    Does P o a w fun u w' => ∃ b, u = .slice (some ⟨b, 0, none⟩) N C ∧ Sat w' (Sl E sz (.slice (some ⟨b, 0, none⟩) N C) N ((madeCells zv.cells (C * sz)).toList.take (N * sz)) :: l) := by
  obtain ⟨t, tz, hti, htz, hsz, hby, htc⟩ := ht.info
  have hpos := ht.pos
  have hpos2 := ht.pos2
  have ez : zv = tz := by rw [hti] at hz; simp [htz] at hz; exact hz.symm
  subst ez
  have hN : C ≤ 140737488355328 := Nat.le_trans (Nat.le_mul_of_pos_right _ hpos2) hb
  refine Does.of_value (v := .slice (some ⟨w.heap.size, 0, none⟩) N C) (w' := w.alloc (.cells (madeCells zv.cells (C * sz)) E)) ?_ ⟨_, rfl, ?_⟩
  · have h2 : (t.bytes : Int) * C ≤ 281474976710656 := by
      rw [hby, Int.mul_comm]
      have : ((C * by_ : Nat) : Int) ≤ 140737488355328 := by omega
      rw [Int.natCast_mul] at this
      omega
    have hr := run_make (P := P) w T E t zv ht.und hti htz .i64 .i64 N C (by omega) (by omega) h2 (by omega)
    simp only [Int.toNat_natCast, hsz] at hr
    unfold execOp; rw [ho]
    simp [H.ev hx, H.ev hy, hr, Result.andThen]
  · have h2 := hs.alloc (.cells (madeCells zv.cells (C * sz)) E)
    have hsize : (madeCells zv.cells (C * sz)).toList.length = C * sz := by simp [madeCells]
    have h3 : Sat (w.alloc (.cells (madeCells zv.cells (C * sz)) E)) (cel w.heap.size E ([] ++ (madeCells zv.cells (C * sz)).toList.take (N * sz) ++ (madeCells zv.cells (C * sz)).toList.drop (N * sz)) :: l) := by
      rw [List.nil_append, List.take_append_drop]
      unfold cel
      rw [Array.toArray_toList]
      exact h2
    have hle : N * sz ≤ C * sz := Nat.mul_le_mul_right _ hNC
    refine Sl.mk h3 (by rw [List.length_take, hsize]; omega) hNC (by simp only [maxLen]; omega) ?_
    rw [List.length_take, List.length_drop, hsize]; omega
/-- The slice up to its capacity. -/
theorem Sl.grown {E : TypeId} {p : Option Addr} {N C : Nat} {xs : List Value} (hs : Sat w (Sl E 1 (.slice p N C) N xs :: l)) : ∃ ys : List Value, ys.length = C - N ∧ Sat w (Sl E 1 (.slice p C C) C (xs ++ ys) :: l) := by
  rcases Sl.cases hs with ⟨e1, e2, e3, h⟩ | ⟨b, pre, suf, cap, e1, e2, e3, e4, e5, hs1⟩
  · cases e1
    subst e3
    exact ⟨[], rfl, Sl.nil _ _ w l h⟩
  · cases e1
    refine ⟨suf.take (C - N), by rw [List.length_take]; omega, ?_⟩
    have h2 : Sat w (cel b E (pre ++ (xs ++ suf.take (C - N)) ++ suf.drop (C - N)) :: l) := by
      have e : pre ++ (xs ++ suf.take (C - N)) ++ suf.drop (C - N) = pre ++ xs ++ suf := by
        rw [List.append_assoc, List.append_assoc, List.append_assoc, List.take_append_drop]
      rw [e]; exact hs1
    refine Sl.mk h2 (by rw [List.length_append, List.length_take]; omega) (Nat.le_refl _) e4 ?_
    rw [List.length_append, List.length_take, List.length_drop]; omega
/-- A store into a slice of ours, an element of one cell. -/
theorem M_storeV {P : Program} {E : TypeId} {p : Option Addr} {b off c N : Nat} {xs : List Value} (H : Fr a n m) (ho : o.op = .store T x y) (hz : (P.info? T).map (·.size) = Option.some 1) (j : Nat) (hx : ev m x = Option.some (VPt b (off + j))) (hy : ev m y = Option.some v) (hv : v.cells = #[v]) (h1 : v.oneCell' = true) (hp : p = Option.some ⟨b, off, none⟩) (hs : Sat w (Sl E 1 (.slice p N c) N xs :: l)) (hj : j < N) :
    Does P o a w fun _ w' => Sat w' (Sl E 1 (.slice p N c) N (xs.set j v) :: l) := by
  subst hp
  rcases Sl.cases hs with ⟨e1, _⟩ | ⟨b', pre, suf, cap, e1, e2, e3, e4, e5, hs1⟩
  · cases e1
  cases e1
  have hlen : xs.length = N := by omega
  have hset : (pre ++ xs ++ suf).set (pre.length + j) v = pre ++ xs.set j v ++ suf := by
    rw [List.append_assoc, List.set_append_right _ _ (by omega), show pre.length + j - pre.length = j by omega, List.set_append_left _ _ (by omega), ← List.append_assoc]
  intro K Q hk
  refine M_store H ho hz hx hy hv h1 hs1 (by simp; omega) hset K Q fun v' w' h => hk _ _ ?_
  exact Sl.mk h.1 (by rw [List.length_set]; exact e2) e3 e4 (by rw [List.length_set]; exact e5)
end
theorem RdY.upto {w : World} {a : Option Addr} {n c i : Nat} {bs : List (BitVec 8)} (h : RdY w (.slice a n c) bs) (hl : bs.length = n) (hi : i ≤ n) : RdY w (.slice a i c) (bs.take i) := by
  subst hl
  have h1 := Rd.upto h hi
  unfold RdY
  rw [List.length_take, List.map_take, show min i bs.length = i by omega]
  rw [Nat.mul_one] at h1
  exact h1
theorem RdY.none {w : World} {n c : Nat} {bs : List (BitVec 8)} (h : RdY w (.slice none n c) bs) : bs = [] := by
  obtain ⟨a1, c1, e, h3, h4, h5, h6, _⟩ := h
  cases e
  have := h6 rfl
  exact List.eq_nil_of_length_eq_zero (by omega)
end Go.Proofs.Ytaekiecidbhjhaa
