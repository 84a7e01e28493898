/- Laws of the operations on memory, slices, structs. -/
import Derived.Test.YtaekiecidbhjhaaDrw
namespace Go.Proofs.Ytaekiecidbhjhaa
open Go.RowKit

section
variable {P : Program} {a : Act} {w : World} {n : Nat} {m : List (Nat × Value)} {o : Oper} {x y z : Operand} {v u : Value} {T U S E : TypeId} {k : IntKind} {i j r : Int} {l : List HProp} {cs cs' xs : List Value} {b : Nat} {sz by_ : Nat}

/-- What is known of a new block. -/
abbrev VPt (b s : Nat) : Value := .pointer (some ⟨b, s, none⟩)
theorem M_box (H : Fr a n m) (ho : o.op = .box T x) (hx : ev m x = some v) (hc : v.cells.toList = cs) (hs : Sat w l) :
    Does P o a w fun u w' => ∃ b, u = VPt b 0 ∧ Sat w' (cel b T cs :: l) ∧ w.heap.size ≤ w'.heap.size := by
  refine Does.of_value (v := VPt w.heap.size 0) (w' := w.alloc (.cells v.cells T)) ?_ ⟨_, rfl, ?_, by simp⟩
  · unfold execOp; rw [ho]; simp [H.ev hx, Instr.box, newVar, newRow]
  · have := hs.alloc (.cells v.cells T)
    subst hc
    simpa using this
theorem M_alloc (H : Fr a n m) (ho : o.op = .alloc T) (hz : (P.info? T).map (fun i => i.zero.map (·.cells.toList)) = some (some cs)) (hs : Sat w l) :
    Does P o a w fun u w' => ∃ b, u = VPt b 0 ∧ Sat w' (cel b T cs :: l) ∧ w.heap.size ≤ w'.heap.size := by
  obtain ⟨zv, hzz, hc⟩ : ∃ zv, (zeroValue T).run P w = .ok zv w ∧ zv.cells.toList = cs := by
    cases hi : P.info? T with
    | none => rw [hi] at hz; cases hz
    | some i =>
      rw [hi] at hz
      simp at hz
      obtain ⟨zv, h1, h2⟩ := hz
      exact ⟨zv, by simp [zeroValue, typeInfo, program, Sem.run, Result.andThen, hi, h1], h2⟩
  refine Does.of_value (v := VPt w.heap.size 0) (w' := w.alloc (.cells zv.cells T)) ?_ ⟨_, rfl, ?_, by simp⟩
  · unfold execOp; rw [ho]; simp [Instr.alloc, hzz, newVar, newRow]
  · have := hs.alloc (.cells zv.cells T)
    subst hc
    simpa using this
theorem M_store (H : Fr a n m) (ho : o.op = .store T x y) (hz : (P.info? T).map (·.size) = some 1) {s : Nat} (hx : ev m x = some (VPt b s)) (hy : ev m y = some v) (hv : v.cells = #[v]) (h1 : v.oneCell' = true) (hs : Sat w (cel b U cs :: l)) (hl : Nat.blt s cs.length = true) (hc : cs.set s v = cs') :
    Does P o a w fun _ w' => Sat w' (cel b U cs' :: l) ∧ w.heap.size ≤ w'.heap.size := by
  have hlt : s < cs.length := by simpa using hl
  have hcell : (w.cell? ⟨b, s, none⟩).isSome = true := by rw [hs.cell]; simp [hlt]
  have hfz : w.frozen? ⟨b, s, none⟩ = false := hs.free s
  obtain ⟨u0, hu0⟩ := Option.isSome_iff_exists.1 hcell
  refine Does.of_skip (w' := w.setCell ⟨b, s, none⟩ v) ?_ ⟨hc ▸ hs.set s v, by simp⟩
  unfold execOp; rw [ho]
  have hi : ∃ i, P.info? T = some i ∧ i.size = 1 := by
    cases h : P.info? T with
    | none => rw [h] at hz; cases hz
    | some i => rw [h] at hz; simp at hz; exact ⟨i, rfl, hz⟩
  obtain ⟨i, hi, hi1⟩ := hi
  have hst := run_store P w ⟨b, s, none⟩ v .plain h1
  simp [H.ev hx, H.ev hy, Instr.storeAt, Instr.sureAddr, storeVar, hv, sizeOf, typeInfo, program, Sem.run, Result.andThen, hi, hi1, storeCells, addr_add]
  simp [hst, stored, hu0, hfz]
/-- A whole struct into a block that has just it. -/
theorem M_storeS (H : Fr a n m) (ho : o.op = .store T x y) (hx : ev m x = some (VPt b 0)) {A : Array Value} (hy : ev m y = some (.agg A)) (hs : Sat w (cel b U cs :: l)) (hz : (P.info? T).map (·.size) = some cs.length) (hA : A.toList = cs') (hl : cs'.length = cs.length) (h1 : ∀ v ∈ cs', v.oneCell' = true) :
    Does P o a w fun _ w' => Sat w' (cel b U cs' :: l) ∧ w.heap.size ≤ w'.heap.size := by
  subst hA
  have hi : ∃ i, P.info? T = some i ∧ i.size = cs.length := by
    cases h : P.info? T with
    | none => rw [h] at hz; cases hz
    | some i => rw [h] at hz; simp at hz; exact ⟨i, rfl, hz⟩
  obtain ⟨i, hi, hi1⟩ := hi
  have hcell : ∀ j, j < A.toList.length → (w.cell? ⟨b, 0 + 0 + j, none⟩).isSome = true := fun j hj => by rw [show 0 + 0 + j = j by omega, hs.cell]; simp; omega
  have hst := run_storeCells_cells (P := P) b 0 A.toList 0 w hcell (fun j _ => hs.free _) h1
  have hsz : ∀ (vs : List Value) (o : Nat) (w : World), (w.setCells b o vs).heap.size = w.heap.size := by
    intro vs
    induction vs with
    | nil => intros; rfl
    | cons v r ih => intro o w; rw [World.setCells, ih]; simp
  refine Does.of_skip (w' := w.setCells b 0 A.toList) ?_ ⟨?_, by rw [hsz]; exact Nat.le_refl _⟩
  · unfold execOp; rw [ho]
    simp [H.ev hx, H.ev hy, Instr.storeAt, Instr.sureAddr, storeVar, Value.cells, sizeOf, typeInfo, program, Sem.run, Result.andThen, hi, hi1]
    have : A.size = cs.length := by simpa using hl
    have hst' : Sem.run P (storeCells ⟨b, 0, none⟩ A.toList) w = .ok () (w.setCells b 0 A.toList) := by simpa using hst
    simp [this, hst']
  · have h2 : Sat w (cel b U ([] ++ cs ++ []) :: l) := by simpa using hs
    have h3 := h2.setCells A.toList (by omega)
    simpa using h3
/-- A struct that lies at the begin of a block of ours. -/
theorem Y_loadS (H : Fr a n m) (ho : o.op = .load T x) (hx : ev m x = some (VPt b 0)) (hs : Sat w (cel b U cs :: l)) (hu : ∃ fs, P.underlying T = some (.struct fs)) (hi : (P.info? T).map (·.size) = some cs.length) : Yl P o a w (.agg cs.toArray) := by
  obtain ⟨fs, hu⟩ := hu
  have := run_loadVar_row (P := P) w b U T cs.toArray (0, 0) _ hs.blk hu rfl (by simpa using hi)
  unfold Yl execOp; rw [ho]; simp [H.ev hx, Instr.loadAt, Instr.sureAddr, this]
/-- A struct whose cells are known. -/
theorem Y_loadC {s : Nat} (H : Fr a n m) (ho : o.op = .load T x) (hx : ev m x = some (VPt b s)) (hc : ∀ j v, cs[j]? = some v → w.cell? ⟨b, s + j, none⟩ = some v) (hu : ∃ fs, P.underlying T = some (.struct fs)) (hi : (P.info? T).map (·.size) = some cs.length) : Yl P o a w (.agg cs.toArray) := by
  obtain ⟨fs, hu⟩ := hu
  obtain ⟨i, hi, hi1⟩ : ∃ i, P.info? T = some i ∧ i.size = cs.length := by
    cases h : P.info? T with
    | none => rw [h] at hi; cases hi
    | some i => rw [h] at hi; simp at hi; exact ⟨i, rfl, hi⟩
  have hl := run_loadCells_list (P := P) (w := w) ⟨b, s, none⟩ cs (fun j v h => by rw [addr_add]; exact hc j v h)
  have hagg : (isAgg T).run P w = .ok true w := by simp [isAgg, underlying, program, Sem.run, Result.andThen, hu]
  unfold Yl execOp; rw [ho]; simp [H.ev hx, Instr.loadAt, Instr.sureAddr, loadVar, hagg, sizeOf, typeInfo, program, Sem.run, Result.andThen, hi, hi1, hl]

/-- A slice type. -/
def isSl (P : Program) (T : TypeId) : Bool :=
  match P.underlying T with
  | some (.slice _) => true
  | _ => false
theorem isSl_out (h : isSl P T = true) : ∃ e, P.underlying T = some (.slice e) := by
  unfold isSl at h
  split at h
  · rename_i e he; exact ⟨e, he⟩
  · cases h
theorem Y_lenS {p : Option Addr} {l c : Nat} (H : Fr a n m) (ho : o.op = .call { callee := .builtin .len, args := #[x], argTypes := #[T] }) (hT : isSl P T = true) (hx : ev m x = some (.slice p l c)) : Yl P o a w (.int .i64 l) := by
  obtain ⟨e, hT⟩ := isSl_out hT
  unfold Yl execOp; rw [ho]; simp [resolve, H.ev hx, invoke, builtin, Builtin.len_, underlying, program, Sem.run, Result.andThen, hT, goInt]
theorem Y_capS {p : Option Addr} {l c : Nat} (H : Fr a n m) (ho : o.op = .call { callee := .builtin .cap, args := #[x], argTypes := #[T] }) (hT : isSl P T = true) (hx : ev m x = some (.slice p l c)) : Yl P o a w (.int .i64 c) := by
  obtain ⟨e, hT⟩ := isSl_out hT
  unfold Yl execOp; rw [ho]; simp [resolve, H.ev hx, invoke, builtin, Builtin.cap_, underlying, program, Sem.run, Result.andThen, hT, goInt]
theorem Y_min {ts : Array TypeId} (H : Fr a n m) (ho : o.op = .call { callee := .builtin .min, args := #[x, y], argTypes := ts }) (hx : ev m x = some (.int k i)) (hy : ev m y = some (.int k j)) (hr : min i j = r) : Yl P o a w (.int k r) := by
  have : (if j < i then j else i) = r := by rw [← hr]; split <;> omega
  unfold Yl execOp; rw [ho]; simp [resolve, H.ev hx, H.ev hy, invoke, builtin, Builtin.min_, Builtin.min2, this]
theorem Y_max {ts : Array TypeId} (H : Fr a n m) (ho : o.op = .call { callee := .builtin .max, args := #[x, y], argTypes := ts }) (hx : ev m x = some (.int k i)) (hy : ev m y = some (.int k j)) (hr : max i j = r) : Yl P o a w (.int k r) := by
  have : (if j > i then j else i) = r := by rw [← hr]; split <;> omega
  unfold Yl execOp; rw [ho]; simp only [resolve, List.map_toArray, List.map_cons, List.map_nil, H.ev hx, H.ev hy, invoke, builtin, Builtin.max_]
  simp [Builtin.max2, resolve, H.ev hx, H.ev hy, this]
/-- The address of an element. -/
theorem Y_idx {s c q N : Nat} (H : Fr a n m) (ho : o.op = .indexAddr T x y) (ht : SlTy P T E sz by_) (hx : ev m x = some (.slice (some ⟨b, s, none⟩) N c)) (hy : ev m y = some (.int k i)) (h0 : 0 ≤ i) (h1 : i < (N : Int)) (hq : s + i.toNat * sz = q) : Yl P o a w (VPt b q) := by
  obtain ⟨t, tz, hi, _, hsz, _⟩ := ht.info
  unfold Yl execOp; rw [ho]; simp [H.ev hx, H.ev hy, Instr.indexAt, asIntOf, underlying, program, Sem.run, Result.andThen, ht.und, h0, h1, sizeOf, typeInfo, hi, hsz, addr_add, hq]
theorem Y_idxE {p : Option Addr} {s c q N : Nat} (H : Fr a n m) (ho : o.op = .indexAddr T x y) (ht : SlTy P T E sz by_) (hx : ev m x = some (.slice p N c)) (hp : p = some ⟨b, s, none⟩) (hy : ev m y = some (.int k i)) (h0 : 0 ≤ i) (h1 : i < (N : Int)) (hq : s + i.toNat * sz = q) : Yl P o a w (VPt b q) := by
  subst hp; exact Y_idx H ho ht hx hy h0 h1 hq
/-- The address of an element of a slice that can be read, and what lies there. -/
theorem Y_idxR {N : Nat} (H : Fr a n m) (ho : o.op = .indexAddr T x y) (ht : SlTy P T E sz by_) (hx : ev m x = some v) (hr : Rd w sz v N xs) (hy : ev m y = some (.int k i)) (h0 : 0 ≤ i) (h1 : i < (N : Int)) :
    ∃ b q, (∀ w', Yl P o a w' (VPt b q)) ∧ b < w.heap.size ∧ ∀ j u, xs[i.toNat * sz + j]? = some u → w.cell? ⟨b, q + j, none⟩ = some u := by
  have hpos := ht.pos
  have hl := hr.len
  have hne : xs ≠ [] := by
    intro h
    rw [h] at hl
    have hN : 0 < N := by omega
    have : 0 < N * sz := Nat.mul_pos hN hpos
    simp at hl
    omega
  obtain ⟨b, s, c, rfl, _, _, h4, h5⟩ := hr.at hne
  refine ⟨b, s + i.toNat * sz, fun w' => Y_idx H ho ht hx hy h0 h1 rfl, h4, fun j u hu => ?_⟩
  rw [Nat.add_assoc]
  exact h5 _ _ hu

/-- xs[lo:hi]. -/
theorem run_sliceBound' (q : Nat) (Y : Nat) (code : BoundsCode) (h : q ≤ Y) : (Instr.sliceBound (.int k (q : Int)) Y code).run P w = .ok q w := by
  have : (q : Int) ≤ (Y : Int) := by omega
  simp [Instr.sliceBound, asIntOf, this]
theorem Y_slice {p : Option Addr} {N c lo hi : Nat} (H : Fr a n m) (ho : o.op = .slice T x (some y) (some z) none) (ht : SlTy P T E sz by_) (hx : ev m x = some (.slice p N c)) (hy : ev m y = some (.int k (lo : Int))) {k' : IntKind} (hz : ev m z = some (.int k' (hi : Int))) (h0 : lo ≤ hi) (h1 : hi ≤ c) :
    Yl P o a w (.slice (if c = lo then p else p.map (·.add (lo * sz))) (hi - lo) (c - lo)) := by
  obtain ⟨t, tz, hti, _, hsz, _⟩ := ht.info
  unfold Yl execOp; rw [ho]; simp [H.ev hx, H.ev hy, H.ev hz, Instr.sliceAt, Instr.slice, underlying, program, Sem.run, Result.andThen, ht.und, Instr.sliceBounds, run_sliceBound' _ _ _ h0, run_sliceBound' _ _ _ h1, sizeOf, typeInfo, hti, hsz]
theorem Y_sliceTo {p : Option Addr} {N c hi : Nat} (H : Fr a n m) (ho : o.op = .slice T x none (some z) none) (ht : SlTy P T E sz by_) (hx : ev m x = some (.slice p N c)) (hz : ev m z = some (.int k (hi : Int))) (h1 : hi ≤ c) :
    Yl P o a w (.slice p hi c) := by
  obtain ⟨t, tz, hti, _, hsz, _⟩ := ht.info
  have hp : ∀ p : Option Addr, (if c = 0 then p else p.map (·.add (0 * sz))) = p := by
    intro p
    split
    · rfl
    · cases p with
      | none => rfl
      | some p => simp [Addr.add]
  have := hp p
  unfold Yl execOp; rw [ho]; simp [H.ev hx, H.ev hz, Instr.sliceAt, Instr.slice, underlying, program, Sem.run, Result.andThen, ht.und, Instr.sliceBounds, run_sliceBound' _ _ _ h1, sizeOf, typeInfo, hti, hsz]
  simpa using this
theorem Y_sliceFrom {p : Option Addr} {N c lo : Nat} (H : Fr a n m) (ho : o.op = .slice T x (some y) none none) (ht : SlTy P T E sz by_) (hx : ev m x = some (.slice p N c)) (hy : ev m y = some (.int k (lo : Int))) (h0 : lo ≤ N) :
    Yl P o a w (.slice (if c = lo then p else p.map (·.add (lo * sz))) (N - lo) (c - lo)) := by
  obtain ⟨t, tz, hti, _, hsz, _⟩ := ht.info
  unfold Yl execOp; rw [ho]; simp [H.ev hx, H.ev hy, Instr.sliceAt, Instr.slice, underlying, program, Sem.run, Result.andThen, ht.und, Instr.sliceBounds, run_sliceBound' _ _ _ h0, sizeOf, typeInfo, hti, hsz]

/-- append. -/
theorem M_append {N M : Nat} {ys : List Value} (H : Fr a n m) (ho : o.op = .call { callee := .builtin .append, args := #[x, y], argTypes := #[T, T] }) (ht : SlTy P T E sz by_) (hx : ev m x = some v) (hy : ev m y = some u) (hs : Sat w (Sl E sz v N xs :: l)) (hr : Rd w sz u M ys) (h1 : ∀ q ∈ ys, q.oneCell' = true) (b2 : (N + M) * by_ ≤ 140737488355328) :
    Does P o a w fun v' w' => Sat w' (Sl E sz v' (N + M) (xs ++ ys) :: l) ∧ w.heap.size ≤ w'.heap.size ∧ ∃ a c, v' = .slice a (N + M) c ∧ N + M ≤ c ∧ c ≤ maxLen := by
  obtain ⟨v', w', hrun, r1, r2, _⟩ := run_append_sl (P := P) (ty := o.type) ht hs hr h1 b2
  refine Does.of_value (v := v') (w' := w') ?_ ⟨r1, r2, ?_⟩
  · unfold execOp; rw [ho]; simp [resolve, H.ev hx, H.ev hy, invoke, builtin, hrun, Result.andThen]
  · obtain ⟨a, c, h, h3, h4⟩ := (Sl.rd r1).val
    exact ⟨a, c, h, h3, h4⟩
end
/-- A struct type: its cells at first, its fields' places and sizes. -/
def places? (P : Program) (T : TypeId) : Option (List (Nat × Nat)) :=
  match P.underlying T with
  | some (.struct fs) => fs.toList.mapM fun f => (P.info? f.type).map fun i => (f.offset, i.size)
  | _ => none
structure StTy (P : Program) (T : TypeId) (zs : List Value) (pl : List (Nat × Nat)) : Prop where
  und : ∃ fs, P.underlying T = some (.struct fs)
  pls : places? P T = some pl
  zero : (P.info? T).map (fun i => i.zero.map (·.cells.toList)) = some (some zs)
  size : (P.info? T).map (·.size) = some zs.length
theorem StTy.of {P : Program} {T : TypeId} {zs : List Value} {pl : List (Nat × Nat)} (h1 : places? P T = some pl) (h2 : (P.info? T).map (fun i => i.zero.map (·.cells.toList)) = some (some zs)) (h3 : (P.info? T).map (·.size) = some zs.length) : StTy P T zs pl := by
  refine ⟨?_, h1, h2, h3⟩
  unfold places? at h1
  split at h1
  · rename_i fs h; exact ⟨fs, h⟩
  · cases h1
/-- The parts, laid over the cells. -/
def fillL (pl : List (Nat × Nat)) : List Value → List (Nat × Value) → Option (List Value)
  | cs, [] => some cs
  | cs, p :: r => match pl[p.1]? with
    | none => none
    | some q => bif Nat.beq p.2.cells.toList.length q.2 && Nat.ble (q.1 + q.2) cs.length then fillL pl (over cs q.1 p.2.cells.toList) r else none
theorem over_len : ∀ (vs cs : List Value) (o : Nat), (over cs o vs).length = cs.length
  | [], _, _ => rfl
  | v :: r, cs, o => by rw [over, over_len r]; simp
theorem fold_over : ∀ (vs : List Value) (k o : Nat) (cs : List Value), ((vs.zipIdx k).foldl (fun (cs : Array Value) (q : Value × Nat) => cs.setIfInBounds (o + q.2) q.1) cs.toArray) = (over cs (o + k) vs).toArray
  | [], _, _, _ => rfl
  | v :: r, k, o, cs => by
    rw [List.zipIdx_cons, List.foldl_cons, over]
    have := fold_over r (k + 1) o (cs.set (o + k) v)
    rw [← Nat.add_assoc] at this
    rw [← this]
    simp
theorem fill_fillL (pl : List (Nat × Nat)) : ∀ (ps : List (Nat × Value)) (cs cs' : List Value), fillL pl cs ps = some cs' → Instr.fill (fun i => pl.toArray[i]?) cs.toArray ps = some cs'.toArray
  | [], cs, cs', h => by simp [fillL] at h; simp [Instr.fill, h]
  | (i, v) :: r, cs, cs', h => by
    unfold fillL at h
    simp only at h
    cases hq : pl[i]? with
    | none => simp [hq] at h
    | some q =>
      obtain ⟨off, sz⟩ := q
      simp only [hq] at h
      cases hb : (Nat.beq v.cells.toList.length sz && Nat.ble (off + sz) cs.length) with
      | false => rw [hb] at h; simp at h
      | true =>
        rw [hb] at h
        simp only [cond_true] at h
        simp only [Bool.and_eq_true, Nat.beq_eq, Nat.ble_eq] at hb
        have ih := fill_fillL pl r _ _ h
        unfold Instr.fill
        have e1 : pl.toArray[i]? = some (off, sz) := by simpa using hq
        simp only [e1]
        have h1 : v.cells.size = sz := by simpa using hb.1
        have h2 : ¬ (v.cells.size ≠ sz ∨ off + v.cells.size > cs.toArray.size) := by
          simp only [h1, List.size_toArray]; omega
        have h3 : (v.cells.size ≠ sz || off + v.cells.size > cs.toArray.size) = false := by simpa using h2
        have hfold := fold_over v.cells.toList 0 off cs
        simp only [Nat.add_zero] at hfold
        rw [← ih, ← hfold]
        have hz : v.cells.zipIdx.foldl (fun (cs : Array Value) (q : Value × Nat) => cs.setIfInBounds (off + q.2) q.1) cs.toArray = v.cells.toList.zipIdx.foldl (fun (cs : Array Value) (q : Value × Nat) => cs.setIfInBounds (off + q.2) q.1) cs.toArray := by
          rw [← Array.foldl_toList, Array.toList_zipIdx]
        rw [← hz]
        simp [h1]
        intro hh
        omega

section
variable {P : Program} {a : Act} {w : World} {n : Nat} {m : List (Nat × Value)} {o : Oper} {x y : Operand} {v u : Value} {T U : TypeId}
theorem Y_isNil {p : Option Addr} {l c : Nat} (H : Fr a n m) (ho : o.op = .binOp .eql T x y U) (hT : isSl P T = true) (hx : ev m x = some (.slice p l c)) (hy : ev m y = some (.slice none 0 0)) : Yl P o a w (.bool p.isNone) := let ⟨_, h⟩ := isSl_out hT; Y_eqlS H ho h hx hy
theorem Y_isNot {p : Option Addr} {l c : Nat} (H : Fr a n m) (ho : o.op = .binOp .neq T x y U) (hT : isSl P T = true) (hx : ev m x = some (.slice p l c)) (hy : ev m y = some (.slice none 0 0)) : Yl P o a w (.bool !p.isNone) := let ⟨_, h⟩ := isSl_out hT; Y_neqS H ho h hx hy
end
section
variable {P : Program} {a : Act} {w : World} {n : Nat} {m : List (Nat × Value)} {o : Oper} {x y : Operand} {v u : Value} {T : TypeId} {cs zs : List Value} {pl : List (Nat × Nat)} {l : List HProp}
theorem run_build (ht : StTy P T zs pl) {vs : List (Nat × Value)} (hf : fillL pl zs vs = some cs) : (Instr.build T vs.toArray).run P w = .ok (.agg cs.toArray) w := by
  obtain ⟨fs, hu⟩ := ht.und
  have hp := ht.pls
  have hz := ht.zero
  unfold places? at hp
  simp only [hu] at hp
  cases hi : P.info? T with
  | none => rw [hi] at hz; cases hz
  | some i =>
    rw [hi] at hz
    simp at hz
    obtain ⟨zv, hz1, hz2⟩ := hz
    have h1 := fill_fillL pl vs zs cs hf
    have h2 : zs.toArray = zv.cells := by rw [← hz2]
    rw [h2] at h1
    have hmp := run_places (P := P) w fs.toList pl hp
    have hzero : (zeroValue T).run P w = .ok zv w := by simp [zeroValue, typeInfo, program, Sem.run, Result.andThen, hi, hz1]
    have hund : (underlying T).run P w = .ok (.struct fs) w := by simp [underlying, program, Sem.run, Result.andThen, hu]
    unfold Instr.build
    have h1' : Instr.fill (fun x => pl[x]?) zv.cells vs = some cs.toArray := by simpa using h1
    simp [hzero, hund, Array.mapM_eq_mapM_toList, hmp, h1']
/-- The parts' values. -/
def evL (m : List (Nat × Value)) : List (Nat × Operand) → Option (List (Nat × Value))
  | [] => some []
  | (i, x) :: r => match ev m x with
    | some v => match evL m r with
      | some l => some ((i, v) :: l)
      | none => none
    | none => none
theorem Fr.evL (H : Fr a n m) : ∀ (l : List (Nat × Operand)) (us : List (Nat × Value)), evL m l = some us → l.map (fun p => (p.1, a.eval p.2)) = us
  | [], us, h => by cases h; rfl
  | (i, x) :: r, us, h => by
    unfold Proofs.Ytaekiecidbhjhaa.evL at h
    split at h
    · rename_i v hv
      split at h
      · rename_i l hl
        cases h
        rw [List.map_cons, H.ev hv, H.evL r l hl]
      · cases h
    · cases h
theorem Y_build {ps : Array (Nat × Operand)} {vs : List (Nat × Value)} (H : Fr a n m) (ho : o.op = .build T ps) (ht : StTy P T zs pl) (hp : evL m ps.toList = some vs) (hf : fillL pl zs vs = some cs) : Yl P o a w (.agg cs.toArray) := by
  have hv : ps.map (fun p => (p.1, a.eval p.2)) = vs.toArray := by
    apply Array.ext'
    rw [Array.toList_map]
    exact H.evL _ _ hp
  have := run_build (w := w) ht hf
  unfold Yl execOp; rw [ho]
  simp only [hv, this]
  simp [this]
/-- A field of a struct that is a value. -/
def fldCell (P : Program) (S : TypeId) (f : Nat) : Option Nat :=
  match P.underlying S with
  | some (.struct fs) => match fs[f]? with
    | some g => if scalar P g.type then some g.offset else none
    | none => none
  | _ => none
theorem Y_field {f off : Nat} {A : Array Value} (H : Fr a n m) (ho : o.op = .field T x f) (hf : fldCell P T f = some off) (hx : ev m x = some (.agg A)) (hv : A.toList[off]? = some v) : Yl P o a w v := by
  unfold fldCell at hf
  split at hf
  · rename_i fs hu
    split at hf
    · rename_i g hg
      split at hf
      · rename_i hs
        cases hf
        have hA : A[g.offset]? = some v := by simpa using hv
        unfold Yl execOp; rw [ho]; simp [H.ev hx, Instr.field, underlying, program, Sem.run, Result.andThen, hu, hg, part, asAgg, hA]
        have := scalar_run (w := w) hs
        rw [scalar_run (w := w) hs]
        simp
      · cases hf
    · cases hf
  · cases hf
end
end Go.Proofs.Ytaekiecidbhjhaa
