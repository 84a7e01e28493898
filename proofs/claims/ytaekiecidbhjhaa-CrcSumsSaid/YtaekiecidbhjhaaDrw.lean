/- Regions whose order is drawn: in the order that a list names, where the kernel has asked that no other order can be told from it. Guards. Effects and calls. -/
import Derived.Test.YtaekiecidbhjhaaOps
import Derived.OrdersHeld
namespace Go.Proofs.Ytaekiecidbhjhaa
open Go.RowKit

/-- In which order the operations are taken: one that only yields a value; one that stands alone when it comes up; two, either of which may come up. -/
inductive Ord where
  | fin
  | val (i : Nat) (r : Ord)
  | one (i : Nat) (r : Ord)
  | two (i j : Nat) (r1 r2 : Ord)
/-- May they be taken so? -/
def inOrder (ops : Array Oper) : Ord → Array Bool → Bool
  | .fin, l => (Region.ready .any ops l).isEmpty
  | .val i r, l => (match ops[i]? with
    | none => false
    | some o => Region.free .any ops l i && (Region.ready .any ops l).contains i && o.dst.isSome) && inOrder ops r (l.setIfInBounds i true)
  | .one i r, l => (ops[i]?).isSome && Region.ready .any ops l == [i] && inOrder ops r (l.setIfInBounds i true)
  | .two i j r1 r2, l => (ops[i]?).isSome && (ops[j]?).isSome && Region.ready .any ops l == [i, j] && inOrder ops r1 (l.setIfInBounds i true) && inOrder ops r2 (l.setIfInBounds j true)
def Ord.depth : Ord → Nat
  | .fin => 0
  | .val _ r | .one _ r => r.depth + 1
  | .two _ _ r1 r2 => max r1.depth r2.depth + 1

section
variable {P : Program} {ops : Array Oper} {Q : Exit → Act → World → Prop} {S : World → Prop}
/-- The operations in the order named. -/
def wpLin (P : Program) (ops : Array Oper) (Q : Exit → Act → World → Prop) (S : World → Prop) : Ord → Act → World → Prop
  | .fin, a, w => Q .normal a w
  | .val i r, a, w => ∃ o v, ops[i]? = some o ∧ YieldsIf P ops S o v a ∧ wpLin P ops Q S r (a.put o.dst v) w
  | .one i r, a, w => wpOp P ops Q i (fun a' w' => S w' ∧ wpLin P ops Q S r a' w') a w
  | .two i j r1 r2, a, w => wpOp P ops Q i (fun a' w' => S w' ∧ wpLin P ops Q S r1 a' w') a w ∧ wpOp P ops Q j (fun a' w' => S w' ∧ wpLin P ops Q S r2 a' w') a w

theorem any_of_lin (hsel : Region.noSelect ops = true) (hQ : ∀ d v c a w, Q (.panic c) (a.put (some d) v) w → Q (.panic c) a w) : ∀ (r : Ord) (l : Array Bool) (fuel : Nat) (a : Act) (w : World), inOrder ops r l = true → r.depth ≤ fuel → S w → wpLin P ops Q S r a w → wpAnyH P .any ops Q S fuel l a w := by
  intro r
  induction r with
  | fin =>
    intro l fuel a w ho _ _ h
    exact wpAnyH_done (by simpa [inOrder] using ho) h fuel
  | val i r ih =>
    intro l fuel a w ho hf hS h
    obtain ⟨fuel, rfl⟩ : ∃ k, fuel = k + 1 := ⟨fuel - 1, by simp [Ord.depth] at hf; omega⟩
    have hf' : r.depth ≤ fuel := by simp [Ord.depth] at hf; omega
    obtain ⟨o, v, hi, hy, h⟩ := h
    unfold inOrder at ho
    simp only [hi, Bool.and_eq_true] at ho
    obtain ⟨⟨⟨h3, h4⟩, h5⟩, h2⟩ := ho
    obtain ⟨d, hd⟩ := Option.isSome_iff_exists.1 h5
    refine wpAnyH_take hi hsel h3 h4 ?_ hy hS (ih _ _ _ _ h2 hf' hS h)
    rw [hd]
    exact hQ d v
  | one i r ih =>
    intro l fuel a w ho hf hS h
    obtain ⟨fuel, rfl⟩ : ∃ k, fuel = k + 1 := ⟨fuel - 1, by simp [Ord.depth] at hf; omega⟩
    have hf' : r.depth ≤ fuel := by simp [Ord.depth] at hf; omega
    unfold inOrder at ho
    simp only [Bool.and_eq_true] at ho
    obtain ⟨⟨_, h1⟩, h2⟩ := ho
    refine wpAnyH_all (by simpa using h1) (by simp) fun k hk => ?_
    obtain rfl : k = i := by simpa using hk
    exact wpOp_mono (fun a' w' hh => ⟨hh.1, ih _ _ _ _ h2 hf' hh.1 hh.2⟩) h
  | two i j r1 r2 ih1 ih2 =>
    intro l fuel a w ho hf hS h
    obtain ⟨fuel, rfl⟩ : ∃ k, fuel = k + 1 := ⟨fuel - 1, by simp [Ord.depth] at hf; omega⟩
    have hf1 : r1.depth ≤ fuel := by simp [Ord.depth] at hf; omega
    have hf2 : r2.depth ≤ fuel := by simp [Ord.depth] at hf; omega
    unfold inOrder at ho
    simp only [Bool.and_eq_true] at ho
    obtain ⟨⟨⟨_, h1⟩, h2⟩, h3⟩ := ho
    obtain ⟨ha, hb⟩ := h
    refine wpAnyH_all (by simpa using h1) (by simp) fun k hk => ?_
    rcases List.mem_cons.1 hk with rfl | hk
    · exact wpOp_mono (fun a' w' hh => ⟨hh.1, ih1 _ _ _ _ h2 hf1 hh.1 hh.2⟩) ha
    · obtain rfl : k = j := by simpa using hk
      exact wpOp_mono (fun a' w' hh => ⟨hh.1, ih2 _ _ _ _ h3 hf2 hh.1 hh.2⟩) hb

theorem N_begin {id : Nat} {a : Act} {w : World} (S : World → Prop) (ord : Ord) (hm : P.follows .mixedOrders = true) (hsel : Region.noSelect ops = true) (hl : Nat.ble ord.depth ops.size = true) (ho : inOrder ops ord (Array.replicate ops.size false) = true)
    (hQ : ∀ d v c a w, Q (.panic c) (a.put (some d) v) w → Q (.panic c) a w) (hS : S w.drew)
    (h : ∀ w', S w' → w' = w.drew → wpLin P ops Q S ord a w') : (Code.region id ops true).wp P Q a w :=
  wp_region_held hm (any_of_lin hsel hQ ord _ _ a _ ho (Nat.le_of_ble_eq_true hl) hS (h _ hS rfl))
end

/-- An operation that does something: every way out leads on. -/
def Does (P : Program) (o : Oper) (a : Act) (w : World) (R : Value → World → Prop) : Prop :=
  ∀ (K : Act → World → Prop) (Q : Exit → Act → World → Prop), (∀ v w', R v w' → K (a.put o.dst v) w') → o.wp P a w K Q
section
variable {P : Program} {ops : Array Oper} {Q : Exit → Act → World → Prop} {S : World → Prop} {a : Act} {w w' : World} {n : Nat} {m : List (Nat × Value)} {o : Oper} {rest : List Oper} {d i j : Nat} {v : Value} {R : Value → World → Prop} {r r1 r2 : Ord} {b b' : Bool} {s : Nat}
theorem Does.of_value (he : (execOp a.eval o).run P w = .ok (.value v) w') (hR : R v w') : Does P o a w R := fun K Q hk => by
  unfold Oper.wp; rw [he]; exact hk _ _ hR
theorem Does.of_skip (he : (execOp a.eval o).run P w = .ok .skip w') (hR : R undef w') : Does P o a w R := fun K Q hk => by
  unfold Oper.wp; rw [he]; exact hk _ _ hR
/-- A call, by the callee's contract. -/
theorem D_call {f : FuncId} {args : Array Operand} {ats : Array TypeId} {vs : Array Value} {fn : Func} {R : Value → World → Prop} {R0 : Ending → World → Prop} (H : Fr a n m) (ho : o.op = .call { callee := .value (.func f), args := args, argTypes := ats })
    (hf : P.funcs[f]? = some fn) (hname : (fn.name == "runtime.NumGoroutine") = false) (hb : fn.body.isNone = false)
    (hc : Calls P f vs w R0) (hx : args.toList.map (ev m) = vs.toList.map some) (hk : ∀ e w', R0 e w' → ∃ v, e = .returned v ∧ R v w') : Does P o a w R := by
  have hargs : args.map a.eval = vs := by
    have key : ∀ (l : List Operand) (us : List Value), l.map (ev m) = us.map some → l.map a.eval = us := by
      intro l
      induction l with
      | nil => intro us h; cases us <;> simp_all
      | cons x l ih =>
        intro us h
        cases us with
        | nil => simp at h
        | cons u us =>
          simp only [List.map_cons, List.cons.injEq] at h
          rw [List.map_cons, H.ev h.1, ih us h.2]
    apply Array.ext'
    rw [Array.toList_map]
    exact key _ _ hx
  have he : (execOp a.eval o).run P w = .ok (.enter f vs) w := by
    unfold execOp
    rw [ho]
    have hn : ¬ fn.name = "runtime.NumGoroutine" := by simpa using hname
    have hb' : ¬ fn.body = none := by intro h; rw [h] at hb; cases hb
    simp [resolve, Act.eval, Deferred.ofValue, invoke, hargs, callFunc, program, Sem.run, Result.andThen, hf, hn, hb']
  intro K Q hK
  unfold Oper.wp
  rw [he]
  refine Calls.mono hc fun e w2 hr => ?_
  obtain ⟨v, rfl, h⟩ := hk e w2 hr
  exact hK _ _ h

/-- What a guard says. -/
theorem Fr.want (H : Fr a n m) (hg : o.guard = some (j, b)) (hj : (ops[j]?).bind (·.dst) = some s) (hs : look m s = some (.bool b)) : Region.wanted o (yielded ops a.tmps) = true := by
  unfold Region.wanted yielded
  simp [hg, hj, H.get s _ hs]
theorem Fr.unwant (H : Fr a n m) (hg : o.guard = some (j, b)) (hj : (ops[j]?).bind (·.dst) = some s) (hs : look m s = some (.bool b')) (hb : (b' == b) = false) : Region.wanted o (yielded ops a.tmps) = false := by
  unfold Region.wanted yielded
  simp [hg, hj, H.get s _ hs]
  simpa using hb
theorem Fr.unyielded (H : Fr a n m) (hg : o.guard = some (j, b)) (hj : (ops[j]?).bind (·.dst) = some s) (hs : look m s = some undef) : Region.wanted o (yielded ops a.tmps) = false := by
  unfold Region.wanted yielded
  simp [hg, hj, H.get s _ hs, undef]
theorem want0 (hg : o.guard = none) {f : Nat → Option Bool} : Region.wanted o f = true := by unfold Region.wanted; rw [hg]

theorem LG_val (hw : Region.wanted o (yielded ops a.tmps) = true) (hd : o.dst = some d) (hn : Nat.blt d n = true) (H : Fr a n m) (he : Yl P o a w v) (hk : ∀ a', Fr a' n ((d, v) :: m) → wpList P ops Q rest a' w) : wpList P ops Q (o :: rest) a w := by
  refine wpList_step fun K hK => ?_
  rw [if_pos hw]
  unfold Oper.wp
  rw [he]
  refine hK _ _ ?_
  rw [hd]
  exact hk _ (H.put (by simpa using hn) v)
theorem LG_skip (hw : Region.wanted o (yielded ops a.tmps) = false) (hd : o.dst = some d) (hn : Nat.blt d n = true) (H : Fr a n m) (hk : ∀ a', Fr a' n ((d, undef) :: m) → wpList P ops Q rest a' w) : wpList P ops Q (o :: rest) a w := by
  refine wpList_step fun K hK => ?_
  rw [if_neg (by rw [hw]; simp)]
  refine hK _ _ ?_
  rw [hd]
  exact hk _ (H.put (by simpa using hn) undef)
theorem LG_skip0 (hw : Region.wanted o (yielded ops a.tmps) = false) (hd : o.dst = none) (H : Fr a n m) (hk : ∀ a', Fr a' n m → wpList P ops Q rest a' w) : wpList P ops Q (o :: rest) a w := by
  refine wpList_step fun K hK => ?_
  rw [if_neg (by rw [hw]; simp)]
  refine hK _ _ ?_
  rw [hd]
  exact hk _ H
theorem LG_do (hw : Region.wanted o (yielded ops a.tmps) = true) (hd : o.dst = some d) (hn : Nat.blt d n = true) (H : Fr a n m) (he : Does P o a w R) (hk : ∀ v w', R v w' → ∀ a', Fr a' n ((d, v) :: m) → wpList P ops Q rest a' w') : wpList P ops Q (o :: rest) a w := by
  refine wpList_step fun K hK => ?_
  rw [if_pos hw]
  refine he K Q fun v w' hR => hK _ _ ?_
  rw [hd]
  exact hk _ _ hR _ (H.put (by simpa using hn) v)
theorem LG_do0 (hw : Region.wanted o (yielded ops a.tmps) = true) (hd : o.dst = none) (H : Fr a n m) (he : Does P o a w R) (hk : ∀ v w', R v w' → ∀ a', Fr a' n m → wpList P ops Q rest a' w') : wpList P ops Q (o :: rest) a w := by
  refine wpList_step fun K hK => ?_
  rw [if_pos hw]
  refine he K Q fun v w' hR => hK _ _ ?_
  rw [hd]
  exact hk _ _ hR _ H

theorem LG_call {f : FuncId} {args : Array Operand} {ats : Array TypeId} {vs : Array Value} {fn : Func} {R0 : Ending → World → Prop} (hw : Region.wanted o (yielded ops a.tmps) = true) (hd : o.dst = some d) (hn : Nat.blt d n = true) (ho : o.op = .call { callee := .value (.func f), args := args, argTypes := ats })
    (hf : P.funcs[f]? = some fn) (hname : (fn.name == "runtime.NumGoroutine") = false) (hb : fn.body.isNone = false)
    (H : Fr a n m) (hc : Calls P f vs w R0) (hx : args.toList.map (ev m) = vs.toList.map some) (hk : ∀ e w', R0 e w' → ∃ v, e = .returned v ∧ ∀ a', Fr a' n ((d, v) :: m) → wpList P ops Q rest a' w') : wpList P ops Q (o :: rest) a w :=
  LG_do hw hd hn H (R := fun v w' => ∀ a', Fr a' n ((d, v) :: m) → wpList P ops Q rest a' w') (D_call H ho hf hname hb hc hx hk) fun _ _ h => h
theorem N_end (h : Q .normal a w) : wpLin P ops Q S .fin a w := h
theorem N_two (h1 : wpLin P ops Q S (.one i r1) a w) (h2 : wpLin P ops Q S (.one j r2) a w) : wpLin P ops Q S (.two i j r1 r2) a w := ⟨h1, h2⟩
theorem N_val (hi : ops[i]? = some o) (hw : Region.wanted o (yielded ops a.tmps) = true) (hd : o.dst = some d) (hn : Nat.blt d n = true) (H : Fr a n m) (he : ∀ w, S w → Yl P o a w v) (hk : ∀ a', Fr a' n ((d, v) :: m) → wpLin P ops Q S r a' w) : wpLin P ops Q S (.val i r) a w := by
  refine ⟨o, v, hi, .inl ⟨hw, he⟩, ?_⟩
  rw [hd]
  exact hk _ (H.put (by simpa using hn) v)
theorem N_skip (hi : ops[i]? = some o) (hw : Region.wanted o (yielded ops a.tmps) = false) (hd : o.dst = some d) (hn : Nat.blt d n = true) (H : Fr a n m) (hk : ∀ a', Fr a' n ((d, undef) :: m) → wpLin P ops Q S r a' w) : wpLin P ops Q S (.val i r) a w := by
  refine ⟨o, undef, hi, .inr ⟨hw, rfl⟩, ?_⟩
  rw [hd]
  exact hk _ (H.put (by simpa using hn) undef)
theorem N_do (hi : ops[i]? = some o) (hw : Region.wanted o (yielded ops a.tmps) = true) (hd : o.dst = some d) (hn : Nat.blt d n = true) (H : Fr a n m) (he : Does P o a w R) (hk : ∀ v w', R v w' → S w' ∧ ∀ a', Fr a' n ((d, v) :: m) → wpLin P ops Q S r a' w') : wpLin P ops Q S (.one i r) a w := by
  unfold wpLin wpOp
  simp only [hi, hw]
  refine .inl (he _ Q fun v w' hR => ?_)
  obtain ⟨h1, h2⟩ := hk v w' hR
  refine ⟨h1, ?_⟩
  rw [hd]
  exact h2 _ (H.put (by simpa using hn) v)
theorem N_do0 (hi : ops[i]? = some o) (hw : Region.wanted o (yielded ops a.tmps) = true) (hd : o.dst = none) (H : Fr a n m) (he : Does P o a w R) (hk : ∀ v w', R v w' → S w' ∧ ∀ a', Fr a' n m → wpLin P ops Q S r a' w') : wpLin P ops Q S (.one i r) a w := by
  unfold wpLin wpOp
  simp only [hi, hw]
  refine .inl (he _ Q fun v w' hR => ?_)
  obtain ⟨h1, h2⟩ := hk v w' hR
  refine ⟨h1, ?_⟩
  rw [hd]
  exact h2 _ H
theorem N_call {f : FuncId} {args : Array Operand} {ats : Array TypeId} {vs : Array Value} {fn : Func} {R0 : Ending → World → Prop} (hi : ops[i]? = some o) (hw : Region.wanted o (yielded ops a.tmps) = true) (hd : o.dst = some d) (hn : Nat.blt d n = true) (ho : o.op = .call { callee := .value (.func f), args := args, argTypes := ats })
    (hf : P.funcs[f]? = some fn) (hname : (fn.name == "runtime.NumGoroutine") = false) (hb : fn.body.isNone = false)
    (H : Fr a n m) (hc : Calls P f vs w R0) (hx : args.toList.map (ev m) = vs.toList.map some) (hk : ∀ e w', R0 e w' → ∃ v, e = .returned v ∧ S w' ∧ ∀ a', Fr a' n ((d, v) :: m) → wpLin P ops Q S r a' w') : wpLin P ops Q S (.one i r) a w :=
  N_do hi hw hd hn H (R := fun v w' => S w' ∧ ∀ a', Fr a' n ((d, v) :: m) → wpLin P ops Q S r a' w') (D_call H ho hf hname hb hc hx hk) fun _ _ h => h
end
end Go.Proofs.Ytaekiecidbhjhaa
