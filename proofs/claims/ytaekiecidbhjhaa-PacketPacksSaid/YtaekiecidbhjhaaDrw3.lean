/- Regions whose order is drawn, where three operations may come up at once. -/
import Derived.Test.YtaekiecidbhjhaaDrw
namespace Go.Proofs.Ytaekiecidbhjhaa
open Go.RowKit

/-- In which order the operations are taken: one that only yields a value; one that stands alone when it comes up; two, either of which may come up. -/
inductive Ord3 where
  | fin
  | val (i : Nat) (r : Ord3)
  | one (i : Nat) (r : Ord3)
  | two (i j : Nat) (r1 r2 : Ord3)
  | thr (i j k : Nat) (r1 r2 r3 : Ord3)
/-- May they be taken so? -/
def inOrder3 (ops : Array Oper) : Ord3 → Array Bool → Bool
  | .fin, l => (Region.ready .any ops l).isEmpty
  | .val i r, l => (match ops[i]? with
    | none => false
    | some o => Region.free .any ops l i && (Region.ready .any ops l).contains i && o.dst.isSome) && inOrder3 ops r (l.setIfInBounds i true)
  | .one i r, l => (ops[i]?).isSome && Region.ready .any ops l == [i] && inOrder3 ops r (l.setIfInBounds i true)
  | .two i j r1 r2, l => (ops[i]?).isSome && (ops[j]?).isSome && Region.ready .any ops l == [i, j] && inOrder3 ops r1 (l.setIfInBounds i true) && inOrder3 ops r2 (l.setIfInBounds j true)
  | .thr i j k r1 r2 r3, l => (ops[i]?).isSome && (ops[j]?).isSome && (ops[k]?).isSome && Region.ready .any ops l == [i, j, k] && inOrder3 ops r1 (l.setIfInBounds i true) && inOrder3 ops r2 (l.setIfInBounds j true) && inOrder3 ops r3 (l.setIfInBounds k true)
def Ord3.depth : Ord3 → Nat
  | .fin => 0
  | .val _ r | .one _ r => r.depth + 1
  | .two _ _ r1 r2 => max r1.depth r2.depth + 1
  | .thr _ _ _ r1 r2 r3 => max (max r1.depth r2.depth) r3.depth + 1

section
variable {P : Program} {ops : Array Oper} {Q : Exit → Act → World → Prop} {S : World → Prop}
/-- The operations in the order named. -/
def wpLin3 (P : Program) (ops : Array Oper) (Q : Exit → Act → World → Prop) (S : World → Prop) : Ord3 → Act → World → Prop
  | .fin, a, w => Q .normal a w
  | .val i r, a, w => ∃ o v, ops[i]? = some o ∧ YieldsIf P ops S o v a ∧ wpLin3 P ops Q S r (a.put o.dst v) w
  | .one i r, a, w => wpOp P ops Q i (fun a' w' => S w' ∧ wpLin3 P ops Q S r a' w') a w
  | .two i j r1 r2, a, w => wpOp P ops Q i (fun a' w' => S w' ∧ wpLin3 P ops Q S r1 a' w') a w ∧ wpOp P ops Q j (fun a' w' => S w' ∧ wpLin3 P ops Q S r2 a' w') a w
  | .thr i j k r1 r2 r3, a, w => wpOp P ops Q i (fun a' w' => S w' ∧ wpLin3 P ops Q S r1 a' w') a w ∧ wpOp P ops Q j (fun a' w' => S w' ∧ wpLin3 P ops Q S r2 a' w') a w ∧ wpOp P ops Q k (fun a' w' => S w' ∧ wpLin3 P ops Q S r3 a' w') a w

theorem any_of_lin3 (hsel : Region.noSelect ops = true) (hQ : ∀ d v c a w, Q (.panic c) (a.put (some d) v) w → Q (.panic c) a w) : ∀ (r : Ord3) (l : Array Bool) (fuel : Nat) (a : Act) (w : World), inOrder3 ops r l = true → r.depth ≤ fuel → S w → wpLin3 P ops Q S r a w → wpAnyH P .any ops Q S fuel l a w := by
  intro r
  induction r with
  | fin =>
    intro l fuel a w ho _ _ h
    exact wpAnyH_done (by simpa [inOrder3] using ho) h fuel
  | val i r ih =>
    intro l fuel a w ho hf hS h
    obtain ⟨fuel, rfl⟩ : ∃ k, fuel = k + 1 := ⟨fuel - 1, by simp [Ord3.depth] at hf; omega⟩
    have hf' : r.depth ≤ fuel := by simp [Ord3.depth] at hf; omega
    obtain ⟨o, v, hi, hy, h⟩ := h
    unfold inOrder3 at ho
    simp only [hi, Bool.and_eq_true] at ho
    obtain ⟨⟨⟨h3, h4⟩, h5⟩, h2⟩ := ho
    obtain ⟨d, hd⟩ := Option.isSome_iff_exists.1 h5
    refine wpAnyH_take hi hsel h3 h4 ?_ hy hS (ih _ _ _ _ h2 hf' hS h)
    rw [hd]
    exact hQ d v
  | one i r ih =>
    intro l fuel a w ho hf hS h
    obtain ⟨fuel, rfl⟩ : ∃ k, fuel = k + 1 := ⟨fuel - 1, by simp [Ord3.depth] at hf; omega⟩
    have hf' : r.depth ≤ fuel := by simp [Ord3.depth] at hf; omega
    unfold inOrder3 at ho
    simp only [Bool.and_eq_true] at ho
    obtain ⟨⟨_, h1⟩, h2⟩ := ho
    refine wpAnyH_all (by simpa using h1) (by simp) fun k hk => ?_
    obtain rfl : k = i := by simpa using hk
    exact wpOp_mono (fun a' w' hh => ⟨hh.1, ih _ _ _ _ h2 hf' hh.1 hh.2⟩) h
  | two i j r1 r2 ih1 ih2 =>
    intro l fuel a w ho hf hS h
    obtain ⟨fuel, rfl⟩ : ∃ k, fuel = k + 1 := ⟨fuel - 1, by simp [Ord3.depth] at hf; omega⟩
    have hf1 : r1.depth ≤ fuel := by simp [Ord3.depth] at hf; omega
    have hf2 : r2.depth ≤ fuel := by simp [Ord3.depth] at hf; omega
    unfold inOrder3 at ho
    simp only [Bool.and_eq_true] at ho
    obtain ⟨⟨⟨_, h1⟩, h2⟩, h3⟩ := ho
    obtain ⟨ha, hb⟩ := h
    refine wpAnyH_all (by simpa using h1) (by simp) fun k hk => ?_
    rcases List.mem_cons.1 hk with rfl | hk
    · exact wpOp_mono (fun a' w' hh => ⟨hh.1, ih1 _ _ _ _ h2 hf1 hh.1 hh.2⟩) ha
    · obtain rfl : k = j := by simpa using hk
      exact wpOp_mono (fun a' w' hh => ⟨hh.1, ih2 _ _ _ _ h3 hf2 hh.1 hh.2⟩) hb
  | thr i j q r1 r2 r3 ih1 ih2 ih3 =>
    intro l fuel a w ho hf hS h
    obtain ⟨fuel, rfl⟩ : ∃ k, fuel = k + 1 := ⟨fuel - 1, by simp [Ord3.depth] at hf; omega⟩
    have hf1 : r1.depth ≤ fuel := by simp [Ord3.depth] at hf; omega
    have hf2 : r2.depth ≤ fuel := by simp [Ord3.depth] at hf; omega
    have hf3 : r3.depth ≤ fuel := by simp [Ord3.depth] at hf; omega
    unfold inOrder3 at ho
    simp only [Bool.and_eq_true] at ho
    obtain ⟨⟨⟨⟨_, h1⟩, h2⟩, h3⟩, h4⟩ := ho
    obtain ⟨ha, hb, hc⟩ := h
    refine wpAnyH_all (by simpa using h1) (by simp) fun k hk => ?_
    rcases List.mem_cons.1 hk with rfl | hk
    · exact wpOp_mono (fun a' w' hh => ⟨hh.1, ih1 _ _ _ _ h2 hf1 hh.1 hh.2⟩) ha
    · rcases List.mem_cons.1 hk with rfl | hk
      · exact wpOp_mono (fun a' w' hh => ⟨hh.1, ih2 _ _ _ _ h3 hf2 hh.1 hh.2⟩) hb
      · obtain rfl : k = q := by simpa using hk
        exact wpOp_mono (fun a' w' hh => ⟨hh.1, ih3 _ _ _ _ h4 hf3 hh.1 hh.2⟩) hc

theorem N3_begin {id : Nat} {a : Act} {w : World} (S : World → Prop) (ord : Ord3) (hm : P.follows .mixedOrders = true) (hsel : Region.noSelect ops = true) (hl : Nat.ble ord.depth ops.size = true) (ho : inOrder3 ops ord (Array.replicate ops.size false) = true)
    (hQ : ∀ d v c a w, Q (.panic c) (a.put (some d) v) w → Q (.panic c) a w) (hS : S w.drew)
    (h : ∀ w', S w' → w' = w.drew → wpLin3 P ops Q S ord a w') : (Code.region id ops true).wp P Q a w :=
  wp_region_held hm (any_of_lin3 hsel hQ ord _ _ a _ ho (Nat.le_of_ble_eq_true hl) hS (h _ hS rfl))
end

section
variable {P : Program} {ops : Array Oper} {Q : Exit → Act → World → Prop} {S : World → Prop} {a : Act} {w w' : World} {n : Nat} {m : List (Nat × Value)} {o : Oper} {rest : List Oper} {d i j : Nat} {v : Value} {R : Value → World → Prop} {r r1 r2 : Ord3} {b b' : Bool} {s : Nat}
theorem N3_end (h : Q .normal a w) : wpLin3 P ops Q S .fin a w := h
theorem N3_thr {k : Nat} {r3 : Ord3} (h1 : wpLin3 P ops Q S (.one i r1) a w) (h2 : wpLin3 P ops Q S (.one j r2) a w) (h3 : wpLin3 P ops Q S (.one k r3) a w) : wpLin3 P ops Q S (.thr i j k r1 r2 r3) a w := ⟨h1, h2, h3⟩
theorem N3_two (h1 : wpLin3 P ops Q S (.one i r1) a w) (h2 : wpLin3 P ops Q S (.one j r2) a w) : wpLin3 P ops Q S (.two i j r1 r2) a w := ⟨h1, h2⟩
theorem N3_val (hi : ops[i]? = some o) (hw : Region.wanted o (yielded ops a.tmps) = true) (hd : o.dst = some d) (hn : Nat.blt d n = true) (H : Fr a n m) (he : ∀ w, S w → Yl P o a w v) (hk : ∀ a', Fr a' n ((d, v) :: m) → wpLin3 P ops Q S r a' w) : wpLin3 P ops Q S (.val i r) a w := by
  refine ⟨o, v, hi, .inl ⟨hw, he⟩, ?_⟩
  rw [hd]
  exact hk _ (H.put (by simpa using hn) v)
theorem N3_skip (hi : ops[i]? = some o) (hw : Region.wanted o (yielded ops a.tmps) = false) (hd : o.dst = some d) (hn : Nat.blt d n = true) (H : Fr a n m) (hk : ∀ a', Fr a' n ((d, undef) :: m) → wpLin3 P ops Q S r a' w) : wpLin3 P ops Q S (.val i r) a w := by
  refine ⟨o, undef, hi, .inr ⟨hw, rfl⟩, ?_⟩
  rw [hd]
  exact hk _ (H.put (by simpa using hn) undef)
theorem N3_do (hi : ops[i]? = some o) (hw : Region.wanted o (yielded ops a.tmps) = true) (hd : o.dst = some d) (hn : Nat.blt d n = true) (H : Fr a n m) (he : Does P o a w R) (hk : ∀ v w', R v w' → S w' ∧ ∀ a', Fr a' n ((d, v) :: m) → wpLin3 P ops Q S r a' w') : wpLin3 P ops Q S (.one i r) a w := by
  unfold wpLin3 wpOp
  simp only [hi, hw]
  refine .inl (he _ Q fun v w' hR => ?_)
  obtain ⟨h1, h2⟩ := hk v w' hR
  refine ⟨h1, ?_⟩
  rw [hd]
  exact h2 _ (H.put (by simpa using hn) v)
theorem N3_do0 (hi : ops[i]? = some o) (hw : Region.wanted o (yielded ops a.tmps) = true) (hd : o.dst = none) (H : Fr a n m) (he : Does P o a w R) (hk : ∀ v w', R v w' → S w' ∧ ∀ a', Fr a' n m → wpLin3 P ops Q S r a' w') : wpLin3 P ops Q S (.one i r) a w := by
  unfold wpLin3 wpOp
  simp only [hi, hw]
  refine .inl (he _ Q fun v w' hR => ?_)
  obtain ⟨h1, h2⟩ := hk v w' hR
  refine ⟨h1, ?_⟩
  rw [hd]
  exact h2 _ H
theorem N3_call {f : FuncId} {args : Array Operand} {ats : Array TypeId} {vs : Array Value} {fn : Func} {R0 : Ending → World → Prop} (hi : ops[i]? = some o) (hw : Region.wanted o (yielded ops a.tmps) = true) (hd : o.dst = some d) (hn : Nat.blt d n = true) (ho : o.op = .call { callee := .value (.func f), args := args, argTypes := ats })
    (hf : P.funcs[f]? = some fn) (hname : (fn.name == "runtime.NumGoroutine") = false) (hb : fn.body.isNone = false)
    (H : Fr a n m) (hc : Calls P f vs w R0) (hx : args.toList.map (ev m) = vs.toList.map some) (hk : ∀ e w', R0 e w' → ∃ v, e = .returned v ∧ S w' ∧ ∀ a', Fr a' n ((d, v) :: m) → wpLin3 P ops Q S r a' w') : wpLin3 P ops Q S (.one i r) a w :=
  N3_do hi hw hd hn H (R := fun v w' => S w' ∧ ∀ a', Fr a' n ((d, v) :: m) → wpLin3 P ops Q S r a' w') (D_call H ho hf hname hb hc hx hk) fun _ _ h => h
end
end Go.Proofs.Ytaekiecidbhjhaa
