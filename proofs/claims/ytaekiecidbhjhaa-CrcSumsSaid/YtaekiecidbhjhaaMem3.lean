/- More laws: make, copy; maps with int keys. -/
import Derived.Test.YtaekiecidbhjhaaMem2
import Derived.Laws.MakeOwn
namespace Go.Proofs.Ytaekiecidbhjhaa
open Go.RowKit

section
variable {P : Program} {a : Act} {w : World} {n : Nat} {m : List (Nat × Value)} {o : Oper} {x y z : Operand} {v u : Value} {T U S E : TypeId} {k k' : IntKind} {i j r : Int} {l : List HProp} {cs cs' xs ys : List Value} {b : Nat} {sz by_ : Nat}
/-- The cells of N new elements. -/
def zeros (zs : List Value) (sz N : Nat) : List Value := (List.replicate N zs).flatten
theorem zeros_len (zs : List Value) (N : Nat) (h : zs.length = sz) : (zeros zs sz N).length = N * sz := by
  unfold zeros
  induction N with
  | zero => simp
  | succ N ih => rw [List.replicate_succ, List.flatten_cons, List.length_append, ih, h, Nat.add_mul]; omega
theorem zeros_one (N : Nat) : zeros (Value.cells (.int .i64 0)).toList 1 N = List.replicate N (.int .i64 0) := by
  unfold zeros
  induction N with
  | zero => rfl
  | succ n ih => rw [List.replicate_succ, List.flatten_cons, ih]; rfl
theorem zeros_get (zs : List Value) (h : zs.length = sz) (hp : 0 < sz) : ∀ (N i : Nat), i < N * sz → (zeros zs sz N)[i]? = zs[i % sz]?
  | 0, i, hi => by simp at hi
  | N + 1, i, hi => by
    unfold zeros
    rw [List.replicate_succ, List.flatten_cons]
    by_cases hlt : i < sz
    · rw [List.getElem?_append_left (by omega), Nat.mod_eq_of_lt hlt]
    · rw [List.getElem?_append_right (by omega), h]
      have := zeros_get zs h hp N (i - sz) (by rw [Nat.add_mul, Nat.one_mul] at hi; omega)
      unfold zeros at this
      rw [this, ← Nat.mod_eq_sub_mod (by omega)]
/-- A new slice. -/
theorem M_make {N : Nat} {zv : Value} (H : Fr a n m) (ho : o.op = .makeSlice T x y) (ht : SlTy P T E sz by_) (hz : (P.info? E).map (fun i => i.zero) = some (some zv)) (hx : ev m x = some (.int .i64 (N : Int))) (hy : ev m y = some (.int .i64 (N : Int))) (hb : N * by_ ≤ 140737488355328) (hs : Sat w l) :
    Does P o a w fun u w' => ∃ b, u = .slice (some ⟨b, 0, none⟩) N N ∧ Sat w' (Sl E sz (.slice (some ⟨b, 0, none⟩) N N) N (zeros zv.cells.toList sz N) :: l) := by
  obtain ⟨t, tz, hti, htz, hsz, hby, htc⟩ := ht.info
  have hpos := ht.pos
  have hpos2 := ht.pos2
  have ez : zv = tz := by rw [hti] at hz; simp [htz] at hz; exact hz.symm
  subst ez
  have hN : N ≤ 140737488355328 := Nat.le_trans (Nat.le_mul_of_pos_right _ hpos2) hb
  have hw : IntKind.i64.wrap (N : Int) = N := IntWalk.i64_in _ (by omega)
  have hcells : ∀ z : Array Value, (0 < N * sz → z = zv.cells) → ((Array.range (N * sz)).map (fun i => z[i % z.size]!)).toList = zeros zv.cells.toList sz N := by
    intro z hz0
    apply List.ext_getElem?
    intro i
    have hl : zv.cells.toList.length = sz := by simpa using htc
    by_cases hi : i < N * sz
    · rw [zeros_get _ hl hpos _ _ hi]
      have := hz0 (by omega)
      subst this
      have hm : i % sz < sz := Nat.mod_lt _ hpos
      have hms : i % zv.cells.size < zv.cells.size := by rw [htc]; exact hm
      simp only [Array.toList_map, Array.toList_range, List.getElem?_map]
      rw [List.getElem?_range hi]
      simp only [Option.map_some, htc]
      rw [getElem!_pos zv.cells (i % sz) (by rw [htc]; exact hm)]
      simp [htc, hm]
    · have h1 : (zeros zv.cells.toList sz N).length ≤ i := by rw [zeros_len _ _ hl]; omega
      rw [List.getElem?_eq_none h1]
      rw [List.getElem?_eq_none (by simp; omega)]
  refine Does.of_value (v := .slice (some ⟨w.heap.size, 0, none⟩) N N) (w' := w.alloc (.cells (zeros zv.cells.toList sz N).toArray E)) ?_ ⟨_, rfl, ?_⟩
  · have h2 : (t.bytes : Int) * N ≤ 281474976710656 := by
      rw [hby, Int.mul_comm]
      have : ((N * by_ : Nat) : Int) ≤ 140737488355328 := by omega
      rw [Int.natCast_mul] at this
      omega
    have hr := run_make (P := P) w T E t zv ht.und hti htz .i64 .i64 N N (by omega) (Int.le_refl _) h2 (by omega)
    simp only [Int.toNat_natCast, hsz] at hr
    have hm : madeCells zv.cells (N * sz) = (zeros zv.cells.toList sz N).toArray := by
      rw [← hcells zv.cells (fun _ => rfl)]
      rfl
    rw [hm] at hr
    unfold execOp; rw [ho]
    simp [H.ev hx, H.ev hy, hr, Result.andThen]
  · have h2 := hs.alloc (.cells (zeros zv.cells.toList sz N).toArray E)
    have h3 : Sat (w.alloc (.cells (zeros zv.cells.toList sz N).toArray E)) (cel w.heap.size E ([] ++ zeros zv.cells.toList sz N ++ []) :: l) := by simpa using h2
    have hl := zeros_len (sz := sz) zv.cells.toList N (by simpa using htc)
    have h4 := Sl.mk (n := N) (cap := N) h3 hl (Nat.le_refl _) (by simp only [maxLen]; omega) (by rw [hl]; simp)
    simpa using h4

/-- copy. -/
theorem M_copy {N M : Nat} (H : Fr a n m) (ho : o.op = .call { callee := .builtin .copy, args := #[x, y], argTypes := #[T, T] }) (ht : SlTy P T E sz by_) (hx : ev m x = some v) (hy : ev m y = some u) (hs : Sat w (Sl E sz v N xs :: l)) (hr : Rd w sz u M ys) (h1 : ∀ q ∈ ys, q.oneCell' = true) :
    Does P o a w fun v' w' => v' = .int .i64 (min M N : Nat) ∧ Sat w' (Sl E sz v N (ys.take (min M N * sz) ++ xs.drop (min M N * sz)) :: l) := by
  obtain ⟨t, tz, hti, htz, hsz, hby, htc⟩ := ht.info
  have hpos := ht.pos
  obtain ⟨p, c, rfl, h3, h4⟩ := hr.val
  have hyl := hr.len
  generalize hk : min M N = k at *
  have hkM : k ≤ M := by omega
  have hkN : k ≤ N := by omega
  have hk' : Nat.min M N = k := hk
  have hr2 : Rd w sz (.slice p k c) k (ys.take (k * sz)) := by
    obtain ⟨p', c', e, h2, h3, h4, h5, h6⟩ := hr
    cases e
    refine ⟨p, c, rfl, ?_, by omega, h4, h5, fun ad e j q hq => h6 ad e j q ?_⟩
    · rw [List.length_take, h2]; have := Nat.mul_le_mul_right sz hkM; omega
    · rw [List.getElem?_take] at hq
      split at hq
      · exact hq
      · cases hq
  have hfc : (Builtin.firstCells sz k (.slice p M c)).run P w = .ok (ys.take (k * sz)).toArray w := by
    have := run_firstCells_rd (P := P) hr2
    cases p <;> exact this
  have hone : ∀ q ∈ ys.take (k * sz), q.oneCell' = true := fun q hq => h1 q (List.mem_of_mem_take hq)
  have hlen : (ys.take (k * sz)).length = k * sz := by rw [List.length_take, hyl]; have := Nat.mul_le_mul_right sz hkM; omega
  rcases Sl.cases hs with ⟨e1, e2, e3, hs0⟩ | ⟨b, pre, suf, cap', e1, e2, e3, e4, e5, hs1⟩
  · subst e1; subst e2; subst e3
    have hk0 : k = 0 := by omega
    subst hk0
    refine Does.of_value (v := .int .i64 0) (w' := w) ?_ ⟨rfl, by simpa using hs⟩
    unfold execOp; rw [ho]
    simp at hfc
    simp [resolve, H.ev hx, H.ev hy, invoke, builtin, Builtin.copy_, underlying, program, Sem.run, Result.andThen, ht.und, Builtin.lenOf, sizeOf, typeInfo, hti, hsz, hfc, goInt]
  · subst e1
    have hxs : xs = xs.take (k * sz) ++ xs.drop (k * sz) := (List.take_append_drop _ _).symm
    have hkx : k * sz ≤ xs.length := by rw [e2]; exact Nat.mul_le_mul_right _ hkN
    have hcell : ∀ j, j < (ys.take (k * sz)).length → (w.cell? ⟨b, pre.length + 0 + j, none⟩).isSome = true := by
      intro j hj
      rw [hs1.cell, Nat.add_zero]
      have : pre.length + j < (pre ++ xs ++ suf).length := by simp; omega
      rw [List.getElem?_eq_getElem this]; rfl
    have hst := run_storeCells_cells (P := P) b pre.length (ys.take (k * sz)) 0 w hcell (fun j _ => hs1.free _) hone
    simp only [Nat.add_zero] at hst
    refine Does.of_value (v := .int .i64 (k : Nat)) (w' := w.setCells b pre.length (ys.take (k * sz))) ?_ ⟨rfl, ?_⟩
    · unfold execOp; rw [ho]
      simp [resolve, H.ev hx, H.ev hy, invoke, builtin, Builtin.copy_, underlying, program, Sem.run, Result.andThen, ht.und, Builtin.lenOf, sizeOf, typeInfo, hti, hsz, hk', hfc, goInt]
      simp [hst]
    · have hs2 : Sat w (cel b E (pre ++ xs.take (k * sz) ++ (xs.drop (k * sz) ++ suf)) :: l) := by
        rw [List.append_assoc, ← List.append_assoc (xs.take (k * sz)), List.take_append_drop, ← List.append_assoc]; exact hs1
      have hs3 := hs2.setCells (ys.take (k * sz)) (by rw [hlen, List.length_take]; omega)
      have hs4 : Sat (w.setCells b pre.length (ys.take (k * sz))) (cel b E (pre ++ (ys.take (k * sz) ++ xs.drop (k * sz)) ++ suf) :: l) := by
        rw [List.append_assoc pre, List.append_assoc, ← List.append_assoc pre]; exact hs3
      exact Sl.mk hs4 (by rw [List.length_append, hlen, List.length_drop, e2]; omega) e3 e4 (by rw [List.length_append, hlen, List.length_drop]; omega)

/-- Entries of a map with int keys. -/
def mpEnts (es : List MapEntry) (ks : List Int) (vs : List Value) : Prop := es.map (·.key) = ks.map (Value.int .i64) ∧ es.map (·.val) = vs
/-- Where a key stands. -/
def keyAt (ks : List Int) (x : Int) : Option Nat := ks.findIdx? (· == x)
theorem findNow_int (x : Int) : ∀ (es : List MapEntry) (ks : List Int) (vs : List Value) (i : Nat), mpEnts es ks vs →
    Instr.findNow (.int .i64) (.int .i64 x) es i = some (match keyAt ks x with
      | some j => match vs[j]? with
        | some v => some (i + j, v)
        | none => none
      | none => none)
  | [], ks, vs, i, h => by
    obtain ⟨h1, h2⟩ := h
    have hk : ks = [] := by simpa using h1.symm
    subst hk
    simp [Instr.findNow, keyAt]
  | e :: es, ks, vs, i, h => by
    obtain ⟨h1, h2⟩ := h
    cases ks with
    | nil => simp at h1
    | cons q ks =>
      cases vs with
      | nil => simp at h2
      | cons v vs =>
        simp only [List.map_cons, List.cons.injEq] at h1 h2
        have ih := findNow_int x es ks vs (i + 1) ⟨h1.2, h2.2⟩
        unfold Instr.findNow
        rw [h1.1]
        simp only [Instr.sameNow, if_true]
        by_cases hq : x = q
        · subst hq
          simp [keyAt, List.findIdx?_cons, h2.1]
        · have hb : (x == q) = false := by simpa using hq
          have hb' : (q == x) = false := by simpa using fun e => hq e.symm
          simp only [hb]
          rw [ih]
          simp only [keyAt, List.findIdx?_cons, hb']
          cases hf : List.findIdx? (fun y => y == x) ks with
          | none => simp
          | some j =>
            simp
            cases vs[j]? with
            | none => rfl
            | some v => simp; omega
/-- A map with int keys, in a block of ours. -/
def Mp (b : Nat) (ks : List Int) (vs : List Value) : HProp := Ex fun q : List MapEntry × Nat => [Pur (mpEnts q.1 ks vs), pts b (.map q.1.toArray q.2)]
theorem Mp.open {w : World} {l : List HProp} {b : Nat} {ks : List Int} {vs : List Value} : Sat w (Mp b ks vs :: l) ↔ ∃ es clock, mpEnts es ks vs ∧ Sat w (pts b (.map es.toArray clock) :: l) := by
  unfold Mp
  rw [Sat.ex]
  constructor
  · rintro ⟨⟨es, c⟩, h⟩
    obtain ⟨h1, h2⟩ := Sat.pur.1 h
    exact ⟨es, c, h1, h2⟩
  · rintro ⟨es, c, h1, h2⟩
    exact ⟨(es, c), Sat.pur.2 ⟨h1, h2⟩⟩
/-- A map type with int keys. -/
structure MpTy (P : Program) (T E : TypeId) (zs : Value) : Prop where
  und : ∃ K, P.underlying T = some (.map K E) ∧ P.underlying K = some (.int .i64)
  zero : (P.info? E).map (fun i => i.zero) = some (some zs)
def mapInt? (P : Program) (T : TypeId) : Option TypeId :=
  match P.underlying T with
  | some (.map K E) => match P.underlying K with
    | some (.int .i64) => some E
    | _ => none
  | _ => none
theorem MpTy.of {P : Program} {T E : TypeId} {zs : Value} (h1 : mapInt? P T = some E) (h2 : (P.info? E).map (fun i => i.zero) = some (some zs)) : MpTy P T E zs := by
  refine ⟨?_, h2⟩
  unfold mapInt? at h1
  split at h1
  · rename_i K E' hu
    split at h1
    · rename_i hk
      cases h1
      exact ⟨K, hu, hk⟩
    · cases h1
  · cases h1
theorem M_makeMap (H : Fr a n m) (ho : o.op = .makeMap T none) (hs : Sat w l) : Does P o a w fun u w' => ∃ b, u = .map (some b) ∧ Sat w' (Mp b [] [] :: l) := by
  refine Does.of_value (v := .map (some w.heap.size)) (w' := w.alloc (.map #[] 0)) ?_ ⟨_, rfl, Mp.open.2 ⟨[], 0, ⟨rfl, rfl⟩, hs.alloc _⟩⟩
  unfold execOp; rw [ho]; simp [run_makeMap, Result.andThen]
theorem run_checkInt (hk : P.underlying T = some (.int .i64)) (e : Bool) (i : Int) : (Instr.checkKey e 10000 T (.int .i64 i)).run P w = .ok () w := by
  show (Instr.checkKey e (9999 + 1) T (.int .i64 i)).run P w = .ok () w
  unfold Instr.checkKey
  simp [underlying, program, Sem.run, Result.andThen, hk]
theorem Y_lookup {zv : Value} {ks : List Int} {vs : List Value} (H : Fr a n m) (ho : o.op = .lookup T x y true) (ht : MpTy P T E zv) (hx : ev m x = some (.map (some b))) (hy : ev m y = some (.int .i64 i)) (hs : Sat w (Mp b ks vs :: l)) {j : Nat} (hj : keyAt ks i = some j) (hv : vs[j]? = some v) : Yl P o a w (.tuple #[v, .bool true]) := by
  obtain ⟨K, hu, hk⟩ := ht.und
  obtain ⟨es, c, h1, h2⟩ := Mp.open.1 hs
  have hb := h2.blk
  have hf := findNow_int i es ks vs 0 h1
  rw [hj] at hf
  simp only [hv] at hf
  unfold Yl execOp; rw [ho]
  simp [H.ev hx, H.ev hy, Instr.lookup, underlying, program, Sem.run, Result.andThen, hu, getObj, hb, run_checkInt hk, Instr.findKey, hk, hf]
theorem Y_lookupNot {zv : Value} {ks : List Int} {vs : List Value} (H : Fr a n m) (ho : o.op = .lookup T x y true) (ht : MpTy P T E zv) (hx : ev m x = some (.map (some b))) (hy : ev m y = some (.int .i64 i)) (hs : Sat w (Mp b ks vs :: l)) (hj : keyAt ks i = none) : Yl P o a w (.tuple #[zv, .bool false]) := by
  obtain ⟨K, hu, hk⟩ := ht.und
  obtain ⟨es, c, h1, h2⟩ := Mp.open.1 hs
  have hb := h2.blk
  have hf := findNow_int i es ks vs 0 h1
  rw [hj] at hf
  simp only at hf
  have hz : (zeroValue E).run P w = .ok zv w := by
    have hz := ht.zero
    cases hi : P.info? E with
    | none => rw [hi] at hz; cases hz
    | some q => rw [hi] at hz; simp at hz; simp [zeroValue, typeInfo, program, Sem.run, Result.andThen, hi, hz]
  unfold Yl execOp; rw [ho]
  simp [H.ev hx, H.ev hy, Instr.lookup, underlying, program, Sem.run, Result.andThen, hu, getObj, hb, run_checkInt hk, Instr.findKey, hk, hf, hz]
/-- A new key. -/
theorem M_mapNew {zv : Value} {ks : List Int} {vs : List Value} (H : Fr a n m) (ho : o.op = .mapUpdate T x y z) (ht : MpTy P T E zv) (hx : ev m x = some (.map (some b))) (hy : ev m y = some (.int .i64 i)) (hz : ev m z = some v) (hs : Sat w (Mp b ks vs :: l)) (hj : keyAt ks i = none) :
    Does P o a w fun _ w' => Sat w' (Mp b (ks ++ [i]) (vs ++ [v]) :: l) := by
  obtain ⟨K, hu, hk⟩ := ht.und
  obtain ⟨es, c, h1, h2⟩ := Mp.open.1 hs
  have hb := h2.blk
  have hf := findNow_int i es ks vs 0 h1
  rw [hj] at hf
  simp only at hf
  have hlt := h2.lt
  refine Does.of_skip (w' := { w with heap := w.heap.setIfInBounds b (.map (es.toArray.push { key := .int .i64 i, val := v, born := c }) (c + 1)) }) ?_ (Mp.open.2 ⟨es ++ [{ key := .int .i64 i, val := v, born := c }], c + 1, ⟨by simp [h1.1], by simp [h1.2]⟩, ?_⟩)
  · unfold execOp; rw [ho]
    simp [H.ev hx, H.ev hy, H.ev hz, Instr.mapUpdate, underlying, program, Sem.run, Result.andThen, hu, getObj, setObj, hb, run_checkInt hk, Instr.findKey, hk, hf]
  · have := h2.setObj (.map (es.toArray.push { key := .int .i64 i, val := v, born := c }) (c + 1))
    simpa using this
/-- A key that is there. -/
theorem M_mapOld {zv : Value} {ks : List Int} {vs : List Value} (H : Fr a n m) (ho : o.op = .mapUpdate T x y z) (ht : MpTy P T E zv) (hx : ev m x = some (.map (some b))) (hy : ev m y = some (.int .i64 i)) (hz : ev m z = some v) (hs : Sat w (Mp b ks vs :: l)) {j : Nat} (hj : keyAt ks i = some j) (hv : vs[j]? = some u) :
    Does P o a w fun _ w' => Sat w' (Mp b ks (vs.set j v) :: l) := by
  obtain ⟨K, hu, hk⟩ := ht.und
  obtain ⟨es, c, h1, h2⟩ := Mp.open.1 hs
  have hb := h2.blk
  have hf := findNow_int i es ks vs 0 h1
  rw [hj] at hf
  simp only [hv, Nat.zero_add] at hf
  have hlt := h2.lt
  obtain ⟨e, he⟩ : ∃ e, es[j]? = some e := by
    have h3 : (es.map (·.val))[j]? = some u := by rw [h1.2]; exact hv
    rw [List.getElem?_map] at h3
    cases h4 : es[j]? with
    | none => rw [h4] at h3; cases h3
    | some e => exact ⟨e, rfl⟩
  have hki : e.key = .int .i64 i := by
    have h3 : (es.map (·.key))[j]? = some e.key := by rw [List.getElem?_map, he]; rfl
    rw [h1.1, List.getElem?_map] at h3
    unfold keyAt at hj
    obtain ⟨hj1, hj2, _⟩ := List.findIdx?_eq_some_iff_getElem.1 hj
    rw [List.getElem?_eq_getElem hj1] at h3
    simp at h3 hj2
    rw [← h3, hj2]
  have hsame : Instr.sameBits 10000 (.int .i64 i) (.int .i64 i) = true := by simp [Instr.sameBits]
  refine Does.of_skip (w' := { w with heap := w.heap.setIfInBounds b (.map (es.toArray.modify j fun e => { e with key := .int .i64 i, val := v }) c) }) ?_ (Mp.open.2 ⟨es.modify j fun e => { e with key := .int .i64 i, val := v }, c, ⟨?_, ?_⟩, ?_⟩)
  · unfold execOp; rw [ho]
    simp [H.ev hx, H.ev hy, H.ev hz, Instr.mapUpdate, underlying, program, Sem.run, Result.andThen, hu, getObj, setObj, hb, run_checkInt hk, Instr.findKey, hk, hf, he, hki, Instr.keyThatStays, hsame]
  · rw [← h1.1]
    apply List.ext_getElem?
    intro q
    rw [List.getElem?_map, List.getElem?_map, List.getElem?_modify]
    split
    · rename_i hq; subst hq; rw [he]; simp [hki]
    · cases es[q]? <;> rfl
  · rw [← h1.2]
    apply List.ext_getElem?
    intro q
    rw [List.getElem?_map, List.getElem?_modify, List.getElem?_set, List.getElem?_map]
    have hjl := (List.getElem?_eq_some_iff.1 he).1
    split
    · rename_i hq; subst hq; rw [he]; simp [hjl]
    · rename_i hq; cases es[q]? <;> rfl
  · have := h2.setObj (.map (es.toArray.modify j fun e => { e with key := .int .i64 i, val := v }) c)
    have e2 : es.toArray.modify j (fun e => { e with key := .int .i64 i, val := v }) = (es.modify j fun e => { e with key := .int .i64 i, val := v }).toArray := by simp
    rw [e2] at this
    have e3 : (es.toArray.modify j fun e => { e with key := .int .i64 i, val := v }) = (es.modify j fun e => { e with key := .int .i64 i, val := v }).toArray := e2
    simp only [e3]
    exact this
theorem Y_lenM {ks : List Int} {vs : List Value} {E : TypeId} {zv : Value} (H : Fr a n m) (ho : o.op = .call { callee := .builtin .len, args := #[x], argTypes := #[T] }) (ht : MpTy P T E zv) (hx : ev m x = some (.map (some b))) (hs : Sat w (Mp b ks vs :: l)) : Yl P o a w (.int .i64 ks.length) := by
  obtain ⟨K, hu, hk⟩ := ht.und
  obtain ⟨es, c, h1, h2⟩ := Mp.open.1 hs
  have hb := h2.blk
  have hl : es.length = ks.length := by have := congrArg List.length h1.1; simpa using this
  unfold Yl execOp; rw [ho]; simp [resolve, H.ev hx, invoke, builtin, Builtin.len_, underlying, program, Sem.run, Result.andThen, hu, getObj, hb, goInt, hl]
end
end Go.Proofs.Ytaekiecidbhjhaa
