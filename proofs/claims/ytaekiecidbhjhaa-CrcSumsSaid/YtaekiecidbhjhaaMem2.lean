/- More laws: pick, a slice of given elements, make, copy. -/
import Derived.Test.YtaekiecidbhjhaaMem
namespace Go.Proofs.Ytaekiecidbhjhaa
open Go.RowKit

section
variable {P : Program} {a : Act} {w : World} {n : Nat} {m : List (Nat × Value)} {o : Oper} {x y z : Operand} {v u : Value} {T U S E : TypeId} {k : IntKind} {i j r : Int} {l : List HProp} {cs cs' xs : List Value} {b : Nat} {sz by_ : Nat}
theorem Y_pickT (H : Fr a n m) (ho : o.op = .pick x y z) (hx : ev m x = some (.bool true)) (hy : ev m y = some v) : Yl P o a w v := by
  unfold Yl execOp; rw [ho]; simp [H.ev hx, H.ev hy, asBool]
theorem Y_pickF (H : Fr a n m) (ho : o.op = .pick x y z) (hx : ev m x = some (.bool false)) (hz : ev m z = some v) : Yl P o a w v := by
  unfold Yl execOp; rw [ho]; simp [H.ev hx, H.ev hz, asBool]

theorem fill_rows (place : Nat → Option (Nat × Nat)) (hpl : ∀ i, place i = some (i * sz, sz)) : ∀ (vs : List (Nat × Value)) (k : Nat) (done rest : List Value), vs.map (·.1) = List.range' k vs.length → (∀ q ∈ vs, q.2.cells.toList.length = sz) → done.length = k * sz → rest.length = vs.length * sz →
    Instr.fill place (done ++ rest).toArray vs = some (done ++ (vs.map (·.2.cells.toList)).flatten).toArray
  | [], k, done, rest, _, _, _, hr => by
    have : rest = [] := List.eq_nil_of_length_eq_zero (by simpa using hr)
    subst this
    simp [Instr.fill]
  | (i, v) :: vs, k, done, rest, h1, h2, hd, hr => by
    simp only [List.map_cons, List.length_cons, List.range'_succ, List.cons.injEq] at h1
    obtain ⟨rfl, h1⟩ := h1
    have hv : v.cells.toList.length = sz := h2 (i, v) List.mem_cons_self
    have hr' : rest.length = sz + vs.length * sz := by rw [hr, List.length_cons, Nat.add_mul]; omega
    unfold Instr.fill
    simp only [hpl]
    have hvs : v.cells.size = sz := by simpa using hv
    have hno : (v.cells.size ≠ sz || i * sz + v.cells.size > (done ++ rest).toArray.size) = false := by
      simp [hvs, hd]; omega
    have hfold := fold_over v.cells.toList 0 (i * sz) (done ++ rest)
    simp only [Nat.add_zero] at hfold
    have hz : v.cells.zipIdx.foldl (fun (cs : Array Value) (q : Value × Nat) => cs.setIfInBounds (i * sz + q.2) q.1) (done ++ rest).toArray = (over (done ++ rest) (i * sz) v.cells.toList).toArray := by
      rw [← Array.foldl_toList, Array.toList_zipIdx]; exact hfold
    have hov : over (done ++ rest) (i * sz) v.cells.toList = (done ++ v.cells.toList) ++ rest.drop sz := by
      have := over_app done (rest.take sz) (rest.drop sz) v.cells.toList (by rw [List.length_take, hv]; omega)
      rw [hd, List.append_assoc done, List.take_append_drop] at this
      exact this
    have ih := fill_rows place hpl vs (i + 1) (done ++ v.cells.toList) (rest.drop sz) h1 (fun q hq => h2 q (List.mem_cons_of_mem _ hq)) (by rw [List.length_append, hv, hd, Nat.add_mul]; omega) (by rw [List.length_drop]; omega)
    have hcond : ¬ (v.cells.size ≠ sz ∨ i * sz + v.cells.size > (done ++ rest).toArray.size) := by
      simp [hvs, hd]; omega
    simp only [decide_not, gt_iff_lt, Bool.or_eq_true, Bool.not_eq_true', decide_eq_false_iff_not, decide_eq_true_eq]
    rw [if_neg hcond, hz, hov, ih]
    simp
/-- A slice of the elements given. -/
theorem M_buildSlice {ps : Array (Nat × Operand)} {len : Nat} {vs : List (Nat × Value)} (H : Fr a n m) (ho : o.op = .buildSlice T len ps) (ht : SlTy P T E sz by_) (hp : evL m ps.toList = some vs) (hl : (Nat.blt 0 len && Nat.ble (len * sz) 16777216) = true) (hk : vs.map (·.1) = List.range' 0 len) (hz : ∀ q ∈ vs, q.2.cells.toList.length = sz) (hc : (vs.map (·.2.cells.toList)).flatten = cs) (hs : Sat w l) :
    Does P o a w fun u w' => ∃ b, u = .slice (some ⟨b, 0, none⟩) len len ∧ Sat w' (Sl E sz (.slice (some ⟨b, 0, none⟩) len len) len cs :: l) ∧ w.heap.size ≤ w'.heap.size := by
  subst hc
  simp only [Bool.and_eq_true, Nat.blt_eq, Nat.ble_eq] at hl
  obtain ⟨hl1, hl2⟩ := hl
  obtain ⟨t, tz, hti, htz, hsz, hby, htc⟩ := ht.info
  have hpos := ht.pos
  have hlen : vs.length = len := by have := congrArg List.length hk; simpa using this
  have hv : ps.map (fun p => (p.1, a.eval p.2)) = vs.toArray := by
    apply Array.ext'
    rw [Array.toList_map]
    exact H.evL _ _ hp
  have h0 : ¬ (len * sz > 2 ^ 24) := by have : len * sz ≤ 16777216 := hl2; omega
  have h1 : ¬ (len * sz = 0) := by have := Nat.mul_pos hl1 hpos; omega
  have hf := fill_rows (sz := sz) (fun i => some (i * sz, sz)) (fun _ => rfl) vs 0 [] ((Array.range (len * sz)).map (fun i => tz.cells[i % tz.cells.size]!)).toList (by rw [hlen]; exact hk) hz (by simp) (by simp [hlen])
  simp only [List.nil_append, Array.toArray_toList] at hf
  have hflat : ((vs.map (·.2.cells.toList)).flatten).length = len * sz := by
    have key : ∀ (l : List (Nat × Value)), (∀ q ∈ l, q.2.cells.toList.length = sz) → ((l.map (·.2.cells.toList)).flatten).length = l.length * sz := by
      intro l
      induction l with
      | nil => intro _; simp
      | cons q l ih =>
        intro h
        rw [List.map_cons, List.flatten_cons, List.length_append, ih (fun q hq => h q (List.mem_cons_of_mem _ hq)), h q List.mem_cons_self, List.length_cons, Nat.add_mul]
        omega
    rw [key vs hz, hlen]
  refine Does.of_value (v := .slice (some ⟨w.heap.size, 0, none⟩) len len) (w' := w.alloc (.cells (vs.map (·.2.cells.toList)).flatten.toArray E)) ?_ ⟨_, rfl, ?_, by simp⟩
  · unfold execOp; rw [ho]
    simp only [hv]
    simp [Instr.buildSlice, underlying, program, Sem.run, Result.andThen, ht.und, sizeOf, typeInfo, hti, hsz, zeroValue, htz]
    have h2 : ¬ (16777216 < len * sz) := by omega
    have h3 : ¬ (len = 0 ∨ sz = 0) := by omega
    simp [h2, h3, hf, newRow]
    rw [if_neg h1]
  · have h2 := hs.alloc (.cells (vs.map (·.2.cells.toList)).flatten.toArray E)
    have h3 : Sat (w.alloc (.cells (vs.map (·.2.cells.toList)).flatten.toArray E)) (cel w.heap.size E ([] ++ (vs.map (·.2.cells.toList)).flatten ++ []) :: l) := by simpa using h2
    have h4 := Sl.mk (n := len) (cap := len) h3 hflat (Nat.le_refl _) (by
      have : len ≤ len * sz := Nat.le_mul_of_pos_right _ hpos
      simp only [maxLen]; omega) (by rw [hflat]; simp)
    simpa using h4
end
end Go.Proofs.Ytaekiecidbhjhaa
