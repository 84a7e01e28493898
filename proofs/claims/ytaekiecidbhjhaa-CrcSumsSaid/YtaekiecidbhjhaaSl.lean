/- Slices in the logic of separate parts: 'Sl' (a slice whose array is ours), 'Rd' (a slice that can be read), and what append does. -/
import Derived.Test.YtaekiecidbhjhaaSep
import Derived.ArgAppend
namespace Go.Proofs.Ytaekiecidbhjhaa
open Go.RowKit

theorem addr_add (b o j : Nat) : (⟨b, o, none⟩ : Addr).add j = ⟨b, o + j, none⟩ := by unfold Addr.add; split <;> simp_all

/-- The slice v of n elements of sz cells each can be read: its cells are xs. -/
def Rd (w : World) (sz : Nat) (v : Value) (n : Nat) (xs : List Value) : Prop :=
  ∃ a cap, v = .slice a n cap ∧ xs.length = n * sz ∧ n ≤ cap ∧ cap ≤ maxLen ∧ (a = none → cap = 0) ∧
    ∀ ad, a = some ad → ∀ j u, xs[j]? = some u → w.cell? (ad.add j) = some u
/-- The slice v of n elements of sz cells each is ours, xs its cells. -/
def Sl (T : TypeId) (sz : Nat) (v : Value) (n : Nat) (xs : List Value) : HProp := fun ev h =>
  (v = .slice none 0 0 ∧ n = 0 ∧ xs = []) ∨
  ∃ b pre suf cap, v = .slice (some ⟨b, pre.length, none⟩) n cap ∧ xs.length = n * sz ∧ n ≤ cap ∧ cap ≤ maxLen ∧ cap * sz ≤ xs.length + suf.length ∧ cel b T (pre ++ xs ++ suf) ev h

theorem Sl.nil (T : TypeId) (sz : Nat) (w : World) (l : List HProp) (hs : Sat w l) : Sat w (Sl T sz (.slice none 0 0) 0 [] :: l) := by
  have := Sat.pur.2 ⟨(trivial : True), hs⟩
  exact this.cons_mono fun _ _ => .inl ⟨rfl, rfl, rfl⟩
theorem Sl.mk {T : TypeId} {sz : Nat} {w : World} {l : List HProp} {b : Nat} {pre xs suf : List Value} {n cap : Nat} (hs : Sat w (cel b T (pre ++ xs ++ suf) :: l)) (hl : xs.length = n * sz) (hn : n ≤ cap) (hm : cap ≤ maxLen) (hc : cap * sz ≤ xs.length + suf.length) :
    Sat w (Sl T sz (.slice (some ⟨b, pre.length, none⟩) n cap) n xs :: l) := hs.cons_mono fun _ hh => .inr ⟨b, pre, suf, cap, rfl, hl, hn, hm, hc, hh⟩
theorem Sl.cases {T : TypeId} {sz : Nat} {w : World} {l : List HProp} {v : Value} {n : Nat} {xs : List Value} (hs : Sat w (Sl T sz v n xs :: l)) :
    (v = .slice none 0 0 ∧ n = 0 ∧ xs = [] ∧ Sat w l) ∨ ∃ b pre suf cap, v = .slice (some ⟨b, pre.length, none⟩) n cap ∧ xs.length = n * sz ∧ n ≤ cap ∧ cap ≤ maxLen ∧ cap * sz ≤ xs.length + suf.length ∧ Sat w (cel b T (pre ++ xs ++ suf) :: l) := by
  obtain ⟨_, ⟨a, c, d, rfl, h, hl⟩, hw⟩ := id hs
  rcases h with ⟨h1, h2, h3⟩ | ⟨b, pre, suf, cap, h1, h2, h3, h4, h5, h6⟩
  · exact .inl ⟨h1, h2, h3, hs.tail⟩
  · exact .inr ⟨b, pre, suf, cap, h1, h2, h3, h4, h5, _, ⟨a, c, d, rfl, h6, hl⟩, hw⟩
theorem mid_get {pre xs suf : List Value} {j : Nat} {u : Value} (h : xs[j]? = some u) : (pre ++ xs ++ suf)[pre.length + j]? = some u := by
  have hj : j < xs.length := (List.getElem?_eq_some_iff.1 h).1
  rw [List.append_assoc, List.getElem?_append_right (by omega), List.getElem?_append_left (by omega)]
  rw [show pre.length + j - pre.length = j by omega]; exact h
theorem Sl.rd {T : TypeId} {sz : Nat} {w : World} {l : List HProp} {v : Value} {n : Nat} {xs : List Value} (hs : Sat w (Sl T sz v n xs :: l)) : Rd w sz v n xs := by
  rcases Sl.cases hs with ⟨rfl, rfl, rfl, _⟩ | ⟨b, pre, suf, cap, rfl, h1, h2, h3, _, h5⟩
  · exact ⟨none, 0, rfl, by simp, Nat.le_refl _, by simp [maxLen], fun _ => rfl, fun _ h => by cases h⟩
  · refine ⟨_, cap, rfl, h1, h2, h3, (fun h => by cases h), (fun ad e j u hu => ?_)⟩
    cases e
    rw [addr_add, h5.cell]; exact mid_get hu
theorem Rd.len {w : World} {sz : Nat} {v : Value} {n : Nat} {xs : List Value} (h : Rd w sz v n xs) : xs.length = n * sz := let ⟨_, _, _, h, _⟩ := h; h
theorem Rd.keep {w w' : World} {sz : Nat} {v : Value} {n : Nat} {xs : List Value} (h : Rd w sz v n xs) (hk : ∀ i, i < w.heap.size → w'.heap[i]? = w.heap[i]?) : Rd w' sz v n xs := by
  obtain ⟨a, cap, h1, h2, h3, h4, h5, h6⟩ := h
  refine ⟨a, cap, h1, h2, h3, h4, h5, fun ad e j u hu => ?_⟩
  have h7 := h6 ad e j u hu
  rw [← h7]
  exact World.cell?_of_block (hk _ (World.block_lt_of_cell? _ _ h7))
theorem Rd.alloc {w : World} {sz : Nat} {v : Value} {n : Nat} {xs : List Value} (h : Rd w sz v n xs) (o : Obj) : Rd (w.alloc o) sz v n xs := h.keep fun _ hi => heap_alloc_old w o hi
theorem Rd.drew {w : World} {sz : Nat} {v : Value} {n : Nat} {xs : List Value} (h : Rd w sz v n xs) : Rd w.drew sz v n xs := h
theorem Rd.nil (w : World) (sz : Nat) : Rd w sz (.slice none 0 0) 0 [] := ⟨none, 0, rfl, by simp, Nat.le_refl _, by simp [maxLen], fun _ => rfl, fun _ h => by cases h⟩
theorem cell_spot {w : World} {a : Addr} {u : Value} (h : w.cell? a = some u) : a.spot = none := by
  unfold World.cell? at h
  split at h
  · cases hs : a.spot with
    | none => rfl
    | some _ => simp [hs] at h
  · cases h
/-- Where there is an element the slice's place is known. -/
theorem Rd.at {w : World} {sz : Nat} {v : Value} {n : Nat} {xs : List Value} (h : Rd w sz v n xs) (hx : xs ≠ []) :
    ∃ b off cap, v = .slice (some ⟨b, off, none⟩) n cap ∧ n ≤ cap ∧ cap ≤ maxLen ∧ b < w.heap.size ∧ ∀ j u, xs[j]? = some u → w.cell? ⟨b, off + j, none⟩ = some u := by
  obtain ⟨a, cap, h1, h2, h3, h4, h5, h6⟩ := h
  have h0 : xs[0]? = some (xs.head hx) := by
    cases xs with
    | nil => exact absurd rfl hx
    | cons x r => rfl
  cases a with
  | none =>
    have := h5 rfl
    subst this
    have : n = 0 := by omega
    subst this
    simp at h2; exact absurd h2 hx
  | some ad =>
    have h7 := h6 ad rfl 0 _ h0
    have h8 := cell_spot h7
    obtain ⟨b, off, sp⟩ := ad
    have hsp : sp = none := by simpa [Addr.add] using h8
    subst hsp
    refine ⟨b, off, cap, h1, h3, h4, ?_, fun j u hu => ?_⟩
    · have := World.block_lt_of_cell? _ _ h7
      simpa [Addr.add] using this
    · have := h6 _ rfl j u hu
      rwa [addr_add] at this
theorem Rd.val {w : World} {sz : Nat} {v : Value} {n : Nat} {xs : List Value} (h : Rd w sz v n xs) : ∃ a cap, v = .slice a n cap ∧ n ≤ cap ∧ cap ≤ maxLen := let ⟨a, cap, h1, _, h2, h3, _⟩ := h; ⟨a, cap, h1, h2, h3⟩

/-- Which operation is it? A guard of the arms in a region. -/
def opTag : Op → Nat
  | .call { callee := .builtin .append, .. } => 1
  | .call { callee := .builtin .copy, .. } => 2
  | .call { callee := .value (.func f), .. } => 100 + f
  | .mapUpdate .. => 3
  | .call { callee := .builtin .clear, .. } => 4
  | _ => 0
theorem step_tag {P : Program} {ops : Array Oper} {o : Oper} {a : Act} {w : World} {K : Act → World → Prop} {Q : Exit → Act → World → Prop} {D : Prop} (k : Nat) (_ : opTag o.op = k)
    (h : if Region.wanted o (yielded ops a.tmps) = true then Oper.wp P o a w K Q else D) : if Region.wanted o (yielded ops a.tmps) = true then Oper.wp P o a w K Q else D := h

theorem wpList_tag {P : Program} {ops : Array Oper} {rest : List Oper} {o : Oper} {a : Act} {w : World} {Q : Exit → Act → World → Prop} (k : Nat) (_ : opTag o.op = k) (h : wpList P ops Q (o :: rest) a w) : wpList P ops Q (o :: rest) a w := h

/-- What the walk asks of a slice type: T is []E, an element has sz cells and by bytes. -/
structure SlTy (P : Program) (T E sz by_ : Nat) : Prop where
  und : P.underlying T = some (.slice E)
  info : ∃ i z, P.info? E = some i ∧ i.zero = some z ∧ i.size = sz ∧ i.bytes = by_ ∧ z.cells.size = sz
  pos : 0 < sz
  pos2 : 0 < by_
theorem SlTy.of {P : Program} {T E sz by_ : Nat} {z : Value} (h1 : P.underlying T = some (.slice E)) (h2 : (P.info? E).map (fun i => (i.zero, i.size, i.bytes)) = some (some z, sz, by_)) (h3 : z.cells.size = sz) (h4 : 0 < sz) (h5 : 0 < by_) : SlTy P T E sz by_ := by
  refine ⟨h1, ?_, h4, h5⟩
  cases h : P.info? E with
  | none => rw [h] at h2; cases h2
  | some i => rw [h] at h2; simp at h2; exact ⟨i, z, rfl, h2.1, h2.2.1, h2.2.2, h3⟩

theorem setCells_heap_other (b : Nat) : ∀ (vs : List Value) (o : Nat) (w : World) (k : Nat), k ≠ b → (w.setCells b o vs).heap[k]? = w.heap[k]?
  | [], _, _, _, _ => rfl
  | v :: r, o, w, k, h => by
    rw [World.setCells, setCells_heap_other b r _ _ k h]
    exact heap_setCell_other w ⟨b, o, none⟩ k v h
theorem setCells_env (b : Nat) : ∀ (vs : List Value) (o : Nat) (w : World), envOf (w.setCells b o vs) = envOf w
  | [], _, _ => rfl
  | v :: r, o, w => by rw [World.setCells, setCells_env b r]; rfl
/-- xs with ys written over it from place o on. -/
def over (xs : List Value) : Nat → List Value → List Value
  | _, [] => xs
  | o, v :: r => over (xs.set o v) (o + 1) r
theorem setCells_heap_same (b : Nat) (T : TypeId) : ∀ (vs : List Value) (o : Nat) (w : World) (cs : List Value), w.heap[b]? = some (.cells cs.toArray T (0, 0)) → (w.setCells b o vs).heap[b]? = some (.cells (over cs o vs).toArray T (0, 0))
  | [], _, _, _, h => h
  | v :: r, o, w, cs, h => by
    rw [World.setCells]
    exact setCells_heap_same b T r (o + 1) _ (cs.set o v) (by rw [heap_setCell_same w b o _ T v h]; simp)
theorem over_app (pre ys suf : List Value) : ∀ (vs : List Value), ys.length = vs.length → over (pre ++ ys ++ suf) pre.length vs = pre ++ vs ++ suf := by
  induction ys generalizing pre with
  | nil => intro vs h; cases vs <;> simp_all [over]
  | cons y ys ih =>
    intro vs h
    cases vs with
    | nil => simp at h
    | cons v r =>
      have e : (pre ++ (y :: ys) ++ suf).set pre.length v = (pre ++ [v]) ++ ys ++ suf := by simp
      have := ih (pre ++ [v]) r (by simpa using h)
      rw [over, e, show pre.length + 1 = (pre ++ [v]).length by simp, this]
      simp
theorem Sat.setCells {w : World} {b : Nat} {T : TypeId} {pre ys suf : List Value} {l : List HProp} (hs : Sat w (cel b T (pre ++ ys ++ suf) :: l)) (vs : List Value) (hl : ys.length = vs.length) : Sat (w.setCells b pre.length vs) (cel b T (pre ++ vs ++ suf) :: l) := by
  refine hs.upd (setCells_env b vs _ w) ?_ (fun i _ hne => setCells_heap_other b vs _ w i hne)
  rw [setCells_heap_same b T vs _ w _ hs.blk, over_app pre ys suf vs hl]

section
variable {P : Program}
theorem run_firstCells_rd {w : World} {sz : Nat} {v : Value} {n : Nat} {xs : List Value} (h : Rd w sz v n xs) : (Builtin.firstCells sz n v).run P w = .ok xs.toArray w := by
  obtain ⟨a, cap, rfl, h2, h3, h4, h5, h6⟩ := h
  cases a with
  | none =>
    have := h5 rfl
    subst this
    have hn : n = 0 := by omega
    subst hn
    have : xs = [] := List.eq_nil_of_length_eq_zero (by simpa using h2)
    subst this
    simp [Builtin.firstCells]
  | some ad => exact run_firstCells_some (P := P) w sz n ad n cap xs h2 (h6 ad rfl)

theorem run_append_sl {T ty E sz by_ : Nat} (ht : SlTy P T E sz by_) {w : World} {sv yv : Value} {n m : Nat} {xs ys : List Value} {l : List HProp} (hs : Sat w (Sl E sz sv n xs :: l)) (hr : Rd w sz yv m ys)
    (h1 : ∀ u ∈ ys, u.oneCell' = true) (b2 : (n + m) * by_ ≤ 140737488355328) :
    ∃ v' w', (Builtin.append_ #[T, T] ty #[sv, yv]).run P w = .ok v' w' ∧ Sat w' (Sl E sz v' (n + m) (xs ++ ys) :: l) ∧ w.heap.size ≤ w'.heap.size ∧ (∀ a cap, sv = .slice a n cap → n + m ≤ cap → v' = .slice a (n + m) cap) := by
  obtain ⟨i, z, hi, hz, rfl, rfl, hzs⟩ := ht.info
  have hpos := ht.pos
  have hpos2 := ht.pos2
  have hnm : n + m ≤ 140737488355328 := Nat.le_trans (Nat.le_mul_of_pos_right _ hpos2) b2
  have hrd := Sl.rd hs
  have hf := run_firstCells_rd (P := P) hr
  have hfd := run_firstCells_rd (P := P) (w := w.drew) hr
  have hod := run_firstCells_rd (P := P) (w := w.drew) hrd
  obtain ⟨a, cap, rfl, h2, h3, h4, h5, h6⟩ := hrd
  obtain ⟨ya, ycap, rfl, hy2, hy3, hy4, hy5, hy6⟩ := id hr
  by_cases hroom : n + m ≤ cap
  · rcases Sl.cases hs with ⟨e1, e2, e3, hs0⟩ | ⟨b, pre, suf, cap', e1, e2, e3, e4, e5, hs1⟩
    · cases e1
      subst e3
      have hm : m = 0 := by omega
      subst hm
      have : ys = [] := List.eq_nil_of_length_eq_zero (by simpa using hy2)
      subst this
      refine ⟨.slice none 0 0, w, ?_, by simpa using hs, Nat.le_refl _, fun a cap e _ => by cases e; rfl⟩
      simp [Builtin.append_, run_underlying ht.und, sizeOf, typeInfo, hi, Builtin.lenOf, hf]
    · cases e1
      -- the cells that are written over
      have hcs : (n + m) * i.size ≤ cap * i.size := Nat.mul_le_mul_right _ hroom
      rw [Nat.add_mul] at hcs
      have hsl : ys.length ≤ suf.length := by omega
      have esuf : suf = suf.take ys.length ++ suf.drop ys.length := (List.take_append_drop _ _).symm
      have hcell : ∀ j, j < ys.length → (w.cell? ⟨b, pre.length + n * i.size + j, none⟩).isSome = true := by
        intro j hj
        rw [hs1.cell, ← e2, List.getElem?_append_right (by simp)]
        simp; omega
      have hfz : ∀ j, j < ys.length → w.frozen? ⟨b, pre.length + n * i.size + j, none⟩ = false := fun j _ => hs1.free _
      have hst := run_storeCells_cells (P := P) b (pre.length + n * i.size) ys 0 w (by simpa using hcell) (by simpa using hfz) h1
      simp only [Nat.add_zero] at hst
      refine ⟨.slice (some ⟨b, pre.length, none⟩) (n + m) cap, w.setCells b (pre.length + n * i.size) ys, ?_, ?_, ?_, fun a cap e _ => by cases e; rfl⟩
      · simp [Builtin.append_, run_underlying ht.und, sizeOf, typeInfo, hi, Builtin.lenOf, hroom, hf, addr_add, hst]
      · have hs2 : Sat w (cel b E ((pre ++ xs) ++ suf.take ys.length ++ suf.drop ys.length) :: l) := by
          rw [List.append_assoc, List.take_append_drop]; exact hs1
        have hs3 := hs2.setCells ys (by simp; omega)
        rw [List.length_append, e2] at hs3
        have hs4 : Sat (w.setCells b (pre.length + n * i.size) ys) (cel b E (pre ++ (xs ++ ys) ++ suf.drop ys.length) :: l) := by
          rw [← List.append_assoc pre]; exact hs3
        exact Sl.mk hs4 (by rw [List.length_append, e2, hy2, Nat.add_mul]) hroom e4 (by simp; omega)
      · have : ∀ (vs : List Value) (o : Nat) (w : World), (w.setCells b o vs).heap.size = w.heap.size := by
          intro vs
          induction vs with
          | nil => intros; rfl
          | cons v r ih => intro o w; rw [World.setCells, ih]; simp
        rw [this]; exact Nat.le_refl _
  · have hn' : ¬ (n + m ≤ cap) := hroom
    have h63' : ¬ (9223372036854775807 < ((n : Int) + (m : Int))) := by omega
    have hfit := growslice_fits (show cap < n + m by omega) b2
    have h48' : ¬ (281474976710656 < Builtin.nextslicecap (n + m) cap * i.bytes) := by omega
    have hm63 : n + m ≤ maxLen := by simp only [maxLen]; omega
    have hge := grownCap_ge w (n + m) cap E
    have hcm : grownCap w (n + m) cap E ≤ maxLen := grownCap_le_maxLen w (n + m) cap E hm63
    refine ⟨.slice (some ⟨w.heap.size, 0, none⟩) (n + m) (grownCap w (n + m) cap E), w.drew.alloc (.cells (xs ++ ys ++ (Builtin.zeroCells z.cells (grownCap w (n + m) cap E - (n + m))).toList).toArray E), ?_, ?_, by simp, fun a cap e h => by cases e; exact absurd h hroom⟩
    · simp [Builtin.append_, run_underlying ht.und, sizeOf, typeInfo, zeroValue, hi, hz, Builtin.lenOf, hn', h63', h48', Question.forced, hfd, hod, newRow, grownCap]
      congr 2
      apply Array.ext'
      simp
    · have hs0 : Sat w l := hs.tail
      have hs1 := hs0.drew.alloc (.cells (xs ++ ys ++ (Builtin.zeroCells z.cells (grownCap w (n + m) cap E - (n + m))).toList).toArray E)
      have hs2 : Sat (w.drew.alloc (.cells (xs ++ ys ++ (Builtin.zeroCells z.cells (grownCap w (n + m) cap E - (n + m))).toList).toArray E)) (cel w.heap.size E ([] ++ (xs ++ ys) ++ (Builtin.zeroCells z.cells (grownCap w (n + m) cap E - (n + m))).toList) :: l) := by
        simpa using hs1
      refine Sl.mk hs2 (by rw [List.length_append, h2, hy2, Nat.add_mul]) hge hcm ?_
      simp only [List.length_append, Array.length_toList, size_zeroCells, hzs, h2, hy2, ← Nat.add_mul]
      refine Nat.mul_le_mul_right _ ?_
      omega

/-- append, as a step of the walk. -/
theorem wp_append_sl {o : Oper} {a : Act} {w : World} {K : Act → World → Prop} {Q : Exit → Act → World → Prop} (x y : Operand) (T E sz by_ : Nat) (ht : SlTy P T E sz by_)
    (ho : o.op = Op.call { callee := Callee.builtin Builtin.append, args := #[x, y], argTypes := #[T, T] })
    {sv yv : Value} {n m : Nat} {xs ys : List Value} {l : List HProp} (hs : Sat w (Sl E sz sv n xs :: l)) (hr : Rd w sz yv m ys) (hx : a.eval x = sv) (hy : a.eval y = yv)
    (h1 : ∀ u ∈ ys, u.oneCell' = true) (b2 : (n + m) * by_ ≤ 140737488355328)
    (h : ∀ v' w', Sat w' (Sl E sz v' (n + m) (xs ++ ys) :: l) → w.heap.size ≤ w'.heap.size → (∀ a cap, sv = .slice a n cap → n + m ≤ cap → v' = .slice a (n + m) cap) → K (a.put o.dst v') w') : o.wp P a w K Q := by
  obtain ⟨v', w', hrun, r1, r2, r3⟩ := run_append_sl (P := P) (ty := o.type) ht hs hr h1 b2
  unfold Oper.wp
  simp [execOp, ho, resolve, invoke, builtin, hx, hy, hrun, Result.andThen]
  exact h _ _ r1 r2 r3
theorem wpList_append_sl {ops : Array Oper} {rest : List Oper} {o : Oper} {a : Act} {w : World} {Q : Exit → Act → World → Prop} (hg : o.guard = none) (x y : Operand) (T E sz by_ : Nat) (ht : SlTy P T E sz by_)
    (ho : o.op = Op.call { callee := Callee.builtin Builtin.append, args := #[x, y], argTypes := #[T, T] })
    {sv yv : Value} {n m : Nat} {xs ys : List Value} {l : List HProp} (hs : Sat w (Sl E sz sv n xs :: l)) (hr : Rd w sz yv m ys) (hx : a.eval x = sv) (hy : a.eval y = yv)
    (h1 : ∀ u ∈ ys, u.oneCell' = true) (b2 : (n + m) * by_ ≤ 140737488355328)
    (h : ∀ v' w', Sat w' (Sl E sz v' (n + m) (xs ++ ys) :: l) → w.heap.size ≤ w'.heap.size → (∀ a cap, sv = .slice a n cap → n + m ≤ cap → v' = .slice a (n + m) cap) → wpList P ops Q rest (a.put o.dst v') w') : wpList P ops Q (o :: rest) a w :=
  wpList_plain hg fun _ hK => wp_append_sl x y T E sz by_ ht ho hs hr hx hy h1 b2 fun v' w' r1 r2 r3 => hK _ _ (h v' w' r1 r2 r3)
theorem step_append_sl {ops : Array Oper} {o : Oper} {a : Act} {w : World} {K : Act → World → Prop} {Q : Exit → Act → World → Prop} {D : Prop} (hg : o.guard = none) (x y : Operand) (T E sz by_ : Nat) (ht : SlTy P T E sz by_)
    (ho : o.op = Op.call { callee := Callee.builtin Builtin.append, args := #[x, y], argTypes := #[T, T] })
    {sv yv : Value} {n m : Nat} {xs ys : List Value} {l : List HProp} (hs : Sat w (Sl E sz sv n xs :: l)) (hr : Rd w sz yv m ys) (hx : a.eval x = sv) (hy : a.eval y = yv)
    (h1 : ∀ u ∈ ys, u.oneCell' = true) (b2 : (n + m) * by_ ≤ 140737488355328)
    (h : ∀ v' w', Sat w' (Sl E sz v' (n + m) (xs ++ ys) :: l) → w.heap.size ≤ w'.heap.size → (∀ a cap, sv = .slice a n cap → n + m ≤ cap → v' = .slice a (n + m) cap) → K (a.put o.dst v') w') :
    if Region.wanted o (yielded ops a.tmps) = true then Oper.wp P o a w K Q else D := by
  have hw : Region.wanted o (yielded ops a.tmps) = true := by simp [Region.wanted, hg]
  rw [if_pos hw]
  exact wp_append_sl x y T E sz by_ ht ho hs hr hx hy h1 b2 h

/-- clear, behind a slice's end, within its capacity. -/
theorem run_clear_sl {T ty E sz by_ : Nat} (ht : SlTy P T E sz by_) (hone : ∀ i z, P.info? E = some i → i.zero = some z → ∀ u ∈ z.cells.toList, u.oneCell' = true) {w : World} {b off n k cap cap2 : Nat} {xs : List Value} {l : List HProp} (hs : Sat w (Sl E sz (.slice (some ⟨b, off, none⟩) n cap) n xs :: l)) (hk : 0 < k) (hc : n + k ≤ cap) :
    ∃ w', (Builtin.clear_ #[T] ty #[.slice (some ⟨b, off + n * sz, none⟩) k cap2]).run P w = .ok (.tuple #[]) w' ∧ Sat w' (Sl E sz (.slice (some ⟨b, off, none⟩) n cap) n xs :: l) ∧ w.heap.size ≤ w'.heap.size := by
  obtain ⟨i, z, hi, hz, rfl, rfl, hzs⟩ := ht.info
  rcases Sl.cases hs with ⟨e1, _⟩ | ⟨b', pre, suf, cap', e1, e2, e3, e4, e5, hs1⟩
  · cases e1
  cases e1
  obtain ⟨k, rfl⟩ : ∃ m, k = m + 1 := ⟨k - 1, by omega⟩
  have hzl : (Builtin.zeroCells z.cells (k + 1)).toList.length = (k + 1) * i.size := by rw [Array.length_toList, size_zeroCells, hzs]
  have hcs : (n + (k + 1)) * i.size ≤ cap * i.size := Nat.mul_le_mul_right _ hc
  rw [Nat.add_mul] at hcs
  generalize hzz : (Builtin.zeroCells z.cells (k + 1)).toList = zs at *
  have h1 : ∀ u ∈ zs, u.oneCell' = true := by
    intro u hu
    rw [← hzz] at hu
    simp [Builtin.zeroCells] at hu
    obtain ⟨j, hj, rfl⟩ := hu
    have hpos := ht.pos
    have hlt : j % z.cells.size < z.cells.size := Nat.mod_lt _ (by omega)
    refine hone i z hi hz _ ?_
    rw [getElem!_pos z.cells _ hlt]
    simp
  have hcell : ∀ j, j < zs.length → (w.cell? ⟨b, pre.length + n * i.size + j, none⟩).isSome = true := by
    intro j hj
    rw [hs1.cell, ← e2, List.getElem?_append_right (by simp)]
    simp; omega
  have hfz : ∀ j, j < zs.length → w.frozen? ⟨b, pre.length + n * i.size + j, none⟩ = false := fun j _ => hs1.free _
  have hst := run_storeCells_cells (P := P) b (pre.length + n * i.size) zs 0 w (by simpa using hcell) (by simpa using hfz) h1
  simp only [Nat.add_zero] at hst
  refine ⟨w.setCells b (pre.length + n * i.size) zs, ?_, ?_, ?_⟩
  · simp [Builtin.clear_, run_underlying ht.und, zeroValue, typeInfo, hi, hz, hzz, hst]
  · have hs2 : Sat w (cel b E ((pre ++ xs) ++ suf.take zs.length ++ suf.drop zs.length) :: l) := by
      rw [List.append_assoc, List.take_append_drop]; exact hs1
    have hs3 := hs2.setCells zs (by simp; omega)
    rw [List.length_append, e2] at hs3
    have hs4 : Sat (w.setCells b (pre.length + n * i.size) zs) (cel b E (pre ++ xs ++ (zs ++ suf.drop zs.length)) :: l) := by
      rw [← List.append_assoc]; exact hs3
    exact Sl.mk hs4 e2 e3 e4 (by simp; omega)
  · have : ∀ (vs : List Value) (o : Nat) (w : World), (w.setCells b o vs).heap.size = w.heap.size := by
      intro vs
      induction vs with
      | nil => intros; rfl
      | cons v r ih => intro o w; rw [World.setCells, ih]; simp
    rw [this]; exact Nat.le_refl _
theorem wpList_clear_sl {ops : Array Oper} {rest : List Oper} {o : Oper} {a : Act} {w : World} {Q : Exit → Act → World → Prop} (hg : o.guard = none) (x : Operand) (T E sz by_ : Nat) (ht : SlTy P T E sz by_)
    (hone : ∀ i z, P.info? E = some i → i.zero = some z → ∀ u ∈ z.cells.toList, u.oneCell' = true)
    (ho : o.op = Op.call { callee := Callee.builtin Builtin.clear, args := #[x], argTypes := #[T] })
    {b off n k cap cap2 : Nat} {xs : List Value} {l : List HProp} (hx : a.eval x = .slice (some ⟨b, off + n * sz, none⟩) k cap2) (hs : Sat w (Sl E sz (.slice (some ⟨b, off, none⟩) n cap) n xs :: l)) (hk : 0 < k) (hc : n + k ≤ cap)
    (h : ∀ w', Sat w' (Sl E sz (.slice (some ⟨b, off, none⟩) n cap) n xs :: l) → w.heap.size ≤ w'.heap.size → wpList P ops Q rest (a.put o.dst (.tuple #[])) w') : wpList P ops Q (o :: rest) a w := by
  refine wpList_plain hg fun K hK => ?_
  obtain ⟨w', hrun, r1, r2⟩ := run_clear_sl (P := P) (ty := o.type) ht hone hs hk hc
  unfold Oper.wp
  simp [execOp, ho, resolve, invoke, builtin, hx, Result.andThen]
  rw [hrun]
  exact hK _ _ (h _ r1 r2)
end
end Go.Proofs.Ytaekiecidbhjhaa
