/- Maps of ours that a loop may range over. -/
import Derived.Test.YtaekiecidbhjhaaMem3
import Derived.Maps.RangeRun
namespace Go.Proofs.Ytaekiecidbhjhaa
open Go.RowKit

/-- A map with int keys; every entry is older than the clock. -/
def Mq (b : Nat) (ks : List Int) (vs : List Value) : HProp := Ex fun q : List MapEntry × Nat => [Pur (mpEnts q.1 ks vs ∧ ∀ e ∈ q.1, e.born < q.2), pts b (.map q.1.toArray q.2)]
theorem Mq.open {w : World} {l : List HProp} {b : Nat} {ks : List Int} {vs : List Value} : Sat w (Mq b ks vs :: l) ↔ ∃ es clock, mpEnts es ks vs ∧ (∀ e ∈ es, e.born < clock) ∧ Sat w (pts b (.map es.toArray clock) :: l) := by
  unfold Mq
  rw [Sat.ex]
  constructor
  · rintro ⟨⟨es, c⟩, h⟩
    obtain ⟨h1, h2⟩ := Sat.pur.1 h
    exact ⟨es, c, h1.1, h1.2, h2⟩
  · rintro ⟨es, c, h1, h3, h2⟩
    exact ⟨(es, c), Sat.pur.2 ⟨⟨h1, h3⟩, h2⟩⟩
theorem born_push {es : List MapEntry} {c : Nat} {k v : Value} (h : ∀ e ∈ es, e.born < c) : ∀ e ∈ es ++ [{ key := k, val := v, born := c }], e.born < c + 1 := by
  intro e he
  rcases List.mem_append.1 he with h1 | h1
  · exact Nat.lt_succ_of_lt (h e h1)
  · simp at h1; subst h1; exact Nat.lt_succ_self _
theorem born_modify {es : List MapEntry} {c j : Nat} {k v : Value} (h : ∀ e ∈ es, e.born < c) : ∀ e ∈ es.modify j (fun e => { e with key := k, val := v }), e.born < c := by
  intro e he
  obtain ⟨i, hi⟩ := List.getElem?_of_mem he
  rw [List.getElem?_modify] at hi
  split at hi
  · cases hq : es[i]? with
    | none => rw [hq] at hi; cases hi
    | some e' =>
      rw [hq] at hi
      simp at hi
      subst hi
      exact h e' (List.mem_of_getElem? hq)
  · cases hq : es[i]? with
    | none => rw [hq] at hi; cases hi
    | some e' =>
      rw [hq] at hi
      simp at hi
      subst hi
      exact h _ (List.mem_of_getElem? hq)
section
variable {P : Program} {a : Act} {w : World} {n : Nat} {m : List (Nat × Value)} {o : Oper} {x y z : Operand} {v u : Value} {T U S E : TypeId} {k k' : IntKind} {i j r : Int} {l : List HProp} {cs cs' xs ys : List Value} {b : Nat} {sz by_ : Nat}
theorem Q_makeMap (H : Fr a n m) (ho : o.op = .makeMap T none) (hs : Sat w l) : Does P o a w fun u w' => ∃ b, u = .map (some b) ∧ Sat w' (Mq b [] [] :: l) := by
  refine Does.of_value (v := .map (some w.heap.size)) (w' := w.alloc (.map #[] 0)) ?_ ⟨_, rfl, Mq.open.2 ⟨[], 0, ⟨rfl, rfl⟩, (fun e he => by simp at he), hs.alloc _⟩⟩
  unfold execOp; rw [ho]; simp [run_makeMap, Result.andThen]
theorem Q_mapNew {zv : Value} {ks : List Int} {vs : List Value} (H : Fr a n m) (ho : o.op = .mapUpdate T x y z) (ht : MpTy P T E zv) (hx : ev m x = some (.map (some b))) (hy : ev m y = some (.int .i64 i)) (hz : ev m z = some v) (hs : Sat w (Mq b ks vs :: l)) (hj : keyAt ks i = none) :
    Does P o a w fun _ w' => Sat w' (Mq b (ks ++ [i]) (vs ++ [v]) :: l) := by
  obtain ⟨K, hu, hk⟩ := ht.und
  obtain ⟨es, c, h1, hbn, h2⟩ := Mq.open.1 hs
  have hb := h2.blk
  have hf := findNow_int i es ks vs 0 h1
  rw [hj] at hf
  simp only at hf
  have hlt := h2.lt
  refine Does.of_skip (w' := { w with heap := w.heap.setIfInBounds b (.map (es.toArray.push { key := .int .i64 i, val := v, born := c }) (c + 1)) }) ?_ (Mq.open.2 ⟨es ++ [{ key := .int .i64 i, val := v, born := c }], c + 1, ⟨by simp [h1.1], by simp [h1.2]⟩, (born_push hbn), ?_⟩)
  · unfold execOp; rw [ho]
    simp [H.ev hx, H.ev hy, H.ev hz, Instr.mapUpdate, underlying, program, Sem.run, Result.andThen, hu, getObj, setObj, hb, run_checkInt hk, Instr.findKey, hk, hf]
  · have := h2.setObj (.map (es.toArray.push { key := .int .i64 i, val := v, born := c }) (c + 1))
    simpa using this
theorem Q_mapOld {zv : Value} {ks : List Int} {vs : List Value} (H : Fr a n m) (ho : o.op = .mapUpdate T x y z) (ht : MpTy P T E zv) (hx : ev m x = some (.map (some b))) (hy : ev m y = some (.int .i64 i)) (hz : ev m z = some v) (hs : Sat w (Mq b ks vs :: l)) {j : Nat} (hj : keyAt ks i = some j) (hv : vs[j]? = some u) :
    Does P o a w fun _ w' => Sat w' (Mq b ks (vs.set j v) :: l) := by
  obtain ⟨K, hu, hk⟩ := ht.und
  obtain ⟨es, c, h1, hbn, h2⟩ := Mq.open.1 hs
  have hb := h2.blk
  have hf := findNow_int i es ks vs 0 h1
  rw [hj] at hf
  simp only [hv, Nat.zero_add] at hf
  have hlt := h2.lt
  obtain ⟨e, he⟩ : ∃ e, es[j]? = some e := by
    have h3 : (es.map (·.val))[j]? = some u := by rw [h1.2]; exact hv
    rw [List.getElem?_map] at h3
    cases h4 : es[j]? with
    | none => rw [h4] at h3; cases h3
    | some e => exact ⟨e, rfl⟩
  have hki : e.key = .int .i64 i := by
    have h3 : (es.map (·.key))[j]? = some e.key := by rw [List.getElem?_map, he]; rfl
    rw [h1.1, List.getElem?_map] at h3
    unfold keyAt at hj
    obtain ⟨hj1, hj2, _⟩ := List.findIdx?_eq_some_iff_getElem.1 hj
    rw [List.getElem?_eq_getElem hj1] at h3
    simp at h3 hj2
    rw [← h3, hj2]
  have hsame : Instr.sameBits 10000 (.int .i64 i) (.int .i64 i) = true := by simp [Instr.sameBits]
  refine Does.of_skip (w' := { w with heap := w.heap.setIfInBounds b (.map (es.toArray.modify j fun e => { e with key := .int .i64 i, val := v }) c) }) ?_ (Mq.open.2 ⟨es.modify j fun e => { e with key := .int .i64 i, val := v }, c, ⟨?_, ?_⟩, born_modify hbn, ?_⟩)
  · unfold execOp; rw [ho]
    simp [H.ev hx, H.ev hy, H.ev hz, Instr.mapUpdate, underlying, program, Sem.run, Result.andThen, hu, getObj, setObj, hb, run_checkInt hk, Instr.findKey, hk, hf, he, hki, Instr.keyThatStays, hsame]
  · rw [← h1.1]
    apply List.ext_getElem?
    intro q
    rw [List.getElem?_map, List.getElem?_map, List.getElem?_modify]
    split
    · rename_i hq; subst hq; rw [he]; simp [hki]
    · cases es[q]? <;> rfl
  · rw [← h1.2]
    apply List.ext_getElem?
    intro q
    rw [List.getElem?_map, List.getElem?_modify, List.getElem?_set, List.getElem?_map]
    have hjl := (List.getElem?_eq_some_iff.1 he).1
    split
    · rename_i hq; subst hq; rw [he]; simp [hjl]
    · rename_i hq; cases es[q]? <;> rfl
  · have := h2.setObj (.map (es.toArray.modify j fun e => { e with key := .int .i64 i, val := v }) c)
    have e2 : es.toArray.modify j (fun e => { e with key := .int .i64 i, val := v }) = (es.modify j fun e => { e with key := .int .i64 i, val := v }).toArray := by simp
    rw [e2] at this
    have e3 : (es.toArray.modify j fun e => { e with key := .int .i64 i, val := v }) = (es.modify j fun e => { e with key := .int .i64 i, val := v }).toArray := e2
    simp only [e3]
    exact this
theorem Y_lenQ {ks : List Int} {vs : List Value} {E : TypeId} {zv : Value} (H : Fr a n m) (ho : o.op = .call { callee := .builtin .len, args := #[x], argTypes := #[T] }) (ht : MpTy P T E zv) (hx : ev m x = some (.map (some b))) (hs : Sat w (Mq b ks vs :: l)) : Yl P o a w (.int .i64 ks.length) := by
  obtain ⟨K, hu, hk⟩ := ht.und
  obtain ⟨es, c, h1, _, h2⟩ := Mq.open.1 hs
  have hb := h2.blk
  have hl : es.length = ks.length := by have := congrArg List.length h1.1; simpa using this
  unfold Yl execOp; rw [ho]; simp [resolve, H.ev hx, invoke, builtin, Builtin.len_, underlying, program, Sem.run, Result.andThen, hu, getObj, hb, goInt, hl]
/-- An iterator over it: n entries are left; after a step (f) an entry stands there. -/
def MqIt (b r : Nat) (ks : List Int) (vs : List Value) (n : Nat) (f : Bool) : HProp := Ex fun q : List MapEntry × Nat × Array Nat => [Pur (mpEnts q.1 ks vs ∧ (∀ e ∈ q.1, e.born < q.2.1) ∧ (leftOf q.1.toArray q.2.2).size = n ∧ (f = true → ∃ e ∈ q.1, q.2.2.back? = some e.born)), pts r (.mapIter (some b) q.2.1 q.2.2 q.2.1), pts b (.map q.1.toArray q.2.1)]
theorem MqIt.open {w : World} {l : List HProp} {b r n : Nat} {f : Bool} {ks : List Int} {vs : List Value} : Sat w (MqIt b r ks vs n f :: l) ↔ ∃ (es : List MapEntry) (clock : Nat) (seen : Array Nat), mpEnts es ks vs ∧ (∀ e ∈ es, e.born < clock) ∧ (leftOf es.toArray seen).size = n ∧ (f = true → ∃ e ∈ es, seen.back? = some e.born) ∧ Sat w (pts r (.mapIter (some b) clock seen clock) :: pts b (.map es.toArray clock) :: l) := by
  unfold MqIt
  rw [Sat.ex]
  constructor
  · rintro ⟨⟨es, c, s⟩, h⟩
    obtain ⟨h1, h2⟩ := Sat.pur.1 h
    exact ⟨es, c, s, h1.1, h1.2.1, h1.2.2.1, h1.2.2.2, h2⟩
  · rintro ⟨es, c, s, h1, h3, h4, h5, h2⟩
    exact ⟨(es, c, s), Sat.pur.2 ⟨⟨h1, h3, h4, h5⟩, h2⟩⟩
theorem MqIt.shut {w : World} {l : List HProp} {b r n : Nat} {f : Bool} {ks : List Int} {vs : List Value} (hs : Sat w (MqIt b r ks vs n f :: l)) : Sat w (Mq b ks vs :: l) := by
  obtain ⟨es, c, s, h1, h2, _, _, h3⟩ := MqIt.open.1 hs
  exact Mq.open.2 ⟨es, c, h1, h2, h3.tail⟩
theorem MqIt.rest {w : World} {l : List HProp} {b r n : Nat} {f : Bool} {ks : List Int} {vs : List Value} (hs : Sat w (MqIt b r ks vs n f :: l)) : Sat w (MqIt b r ks vs n false :: l) := by
  obtain ⟨es, c, s, h1, h2, h4, _, h3⟩ := MqIt.open.1 hs
  exact MqIt.open.2 ⟨es, c, s, h1, h2, h4, (fun h => by cases h), h3⟩
theorem M_range {ks : List Int} {vs : List Value} {E : TypeId} {zv : Value} (H : Fr a n m) (ho : o.op = .range T x) (ht : MpTy P T E zv) (hx : ev m x = some (.map (some b))) (hs : Sat w (Mq b ks vs :: l)) :
    Does P o a w fun u w' => ∃ r k, u = VPt r 0 ∧ Sat w' (MqIt b r ks vs k false :: l) := by
  obtain ⟨K, hu, hk⟩ := ht.und
  obtain ⟨es, c, h1, hbn, h2⟩ := Mq.open.1 hs
  have hb := h2.blk
  refine Does.of_value (v := VPt w.heap.size 0) (w' := w.alloc (.mapIter (some b) c #[] c)) ?_ ⟨_, _, rfl, MqIt.open.2 ⟨es, c, #[], h1, hbn, rfl, (fun h => by cases h), h2.alloc _⟩⟩
  unfold execOp; rw [ho]
  simp [H.ev hx, Instr.range, underlying, program, Sem.run, Result.andThen, hu, getObj, hb, newObj]
theorem M_next0 {r : Nat} {f : Bool} {ks : List Int} {vs : List Value} {k : Nat} (H : Fr a n m) (ho : o.op = .next x false) (hx : ev m x = some (VPt r 0)) (hs : Sat w (MqIt b r ks vs k f :: l)) (hk : k = 0) :
    Does P o a w fun u w' => u = .tuple #[.bool false] ∧ w = w' := by
  obtain ⟨es, c, s, h1, hbn, h4, h5, h2⟩ := MqIt.open.1 hs
  have hr := h2.blk
  have hb := h2.p1.blk
  rcases run_next_at (P := P) w o.type r b c c s es.toArray c hr hb (by simpa using hbn) (Nat.le_refl _) with ⟨_, hrun⟩ | ⟨e, he, _, _, _⟩
  · refine Does.of_value (v := .tuple #[.bool false]) (w' := w) ?_ ⟨rfl, rfl⟩
    unfold execOp; rw [ho]
    simp [H.ev hx, hrun, Result.andThen]
  · have := left_shrinks es.toArray s e he
    omega
theorem M_nextS {r : Nat} {f : Bool} {ks : List Int} {vs : List Value} {k : Nat} (H : Fr a n m) (ho : o.op = .next x false) (hx : ev m x = some (VPt r 0)) (hs : Sat w (MqIt b r ks vs k f :: l)) (hk : k ≠ 0) :
    Does P o a w fun u w' => ∃ (k' : Nat) (u1 u2 : Value), k' < k ∧ u = .tuple #[.bool true, u1, u2] ∧ Sat w' (MqIt b r ks vs k' true :: l) := by
  obtain ⟨es, c, s, h1, hbn, h4, h5, h2⟩ := MqIt.open.1 hs
  have hr := h2.blk
  have hb := h2.p1.blk
  rcases run_next_at (P := P) w o.type r b c c s es.toArray c hr hb (by simpa using hbn) (Nat.le_refl _) with ⟨h0, _⟩ | ⟨e, he, w1, hal, hrun⟩
  · omega
  · have hlt := left_shrinks es.toArray s e he
    refine Does.of_value (v := .tuple #[.bool true, e.key, e.val]) (w' := Go.ChangeMaps.setBlock w1 r (.mapIter (some b) c (s.push e.born) c)) ?_ ⟨(leftOf es.toArray (s.push e.born)).size, e.key, e.val, by omega, rfl, MqIt.open.2 ⟨es, c, s.push e.born, h1, hbn, rfl, (fun _ => ⟨e, by simpa using (mem_left he).1, by simp⟩), ?_⟩⟩
    · unfold execOp; rw [ho]
      simp [H.ev hx, hrun, Result.andThen]
    · have h3 : Sat w1 (pts r (.mapIter (some b) c s c) :: pts b (.map es.toArray c) :: l) := by
        rcases hal with rfl | rfl
        · exact h2
        · exact h2.drew
      exact h3.setObj _
/-- The entry that the step gave. -/
theorem Y_entry {r : Nat} {ks : List Int} {vs : List Value} {k : Nat} (H : Fr a n m) (ho : o.op = .entry x) (hx : ev m x = some (VPt r 0)) (hs : Sat w (MqIt b r ks vs k true :: l)) :
    ∃ (j : Nat) (q : Int) (u : Value), ks[j]? = some q ∧ vs[j]? = some u ∧ Yl P o a w (.tuple #[.int .i64 q, u]) := by
  obtain ⟨es, c, s, h1, hbn, h4, h5, h2⟩ := MqIt.open.1 hs
  have hr := h2.blk
  have hb := h2.p1.blk
  obtain ⟨e, he, hbk⟩ := h5 rfl
  have hsome : ∃ e', es.toArray.find? (·.born == e.born) = some e' := by
    cases hf : es.toArray.find? (·.born == e.born) with
    | none =>
      rw [Array.find?_eq_none] at hf
      have := hf e (by simpa using he)
      simp at this
    | some e' => exact ⟨e', rfl⟩
  obtain ⟨e', hf⟩ := hsome
  have hm : e' ∈ es := by simpa using Array.mem_of_find?_eq_some hf
  obtain ⟨j, hj⟩ := List.getElem?_of_mem hm
  have hkj : (ks.map (Value.int .i64))[j]? = some e'.key := by rw [← h1.1, List.getElem?_map, hj]; rfl
  have hvj : vs[j]? = some e'.val := by rw [← h1.2, List.getElem?_map, hj]; rfl
  rw [List.getElem?_map] at hkj
  cases hq : ks[j]? with
  | none => rw [hq] at hkj; cases hkj
  | some q =>
    rw [hq] at hkj
    simp at hkj
    refine ⟨j, q, e'.val, hq, hvj, ?_⟩
    unfold Yl execOp; rw [ho]
    simp [H.ev hx, Instr.entry, Sem.run, Result.andThen, getObj, hr, hb, hbk, hf, ← hkj]
end
end Go.Proofs.Ytaekiecidbhjhaa
