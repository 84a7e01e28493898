/- Regions whose order is drawn: in the order that a list names, where the kernel has asked that no other order can be told from it. Guards. Effects and calls. -/
import Derived.Test.YtaekiecidbhjhaaOps
import Derived.OrdersHeld
namespace Go.Proofs.Ytaekiecidbhjhaa
open Go.RowKit

/-- May the operations be taken in this order? The flag: this one stands alone when it comes up, and may touch the world; else it only yields a value. -/
def inOrder (ops : Array Oper) : List (Nat × Bool) → Array Bool → Bool
  | [], l => (Region.ready .any ops l).isEmpty
  | p :: r, l =>
    (match ops[p.1]? with
    | none => false
    | some o => if p.2 then Region.ready .any ops l == [p.1] else Region.free .any ops l p.1 && (Region.ready .any ops l).contains p.1 && o.dst.isSome) && inOrder ops r (l.setIfInBounds p.1 true)

section
variable {P : Program} {ops : Array Oper} {Q : Exit → Act → World → Prop} {S : World → Prop}
/-- The operations in the order named. -/
def wpLin (P : Program) (ops : Array Oper) (Q : Exit → Act → World → Prop) (S : World → Prop) : List (Nat × Bool) → Act → World → Prop
  | [], a, w => Q .normal a w
  | (i, fl) :: r, a, w => match ops[i]? with
    | none => False
    | some o => if fl then wpOp P ops Q i (fun a' w' => S w' ∧ wpLin P ops Q S r a' w') a w else ∃ v, YieldsIf P ops S o v a ∧ wpLin P ops Q S r (a.put o.dst v) w

theorem any_of_lin (hsel : Region.noSelect ops = true) (hQ : ∀ d v c a w, Q (.panic c) (a.put (some d) v) w → Q (.panic c) a w) : ∀ (r : List (Nat × Bool)) (l : Array Bool) (fuel : Nat) (a : Act) (w : World), inOrder ops r l = true → r.length ≤ fuel → S w → wpLin P ops Q S r a w → wpAnyH P .any ops Q S fuel l a w := by
  intro r
  induction r with
  | nil =>
    intro l fuel a w ho _ _ h
    exact wpAnyH_done (by simpa [inOrder] using ho) h fuel
  | cons p r ih =>
    obtain ⟨i, fl⟩ := p
    intro l fuel a w ho hf hS h
    obtain ⟨fuel, rfl⟩ : ∃ k, fuel = k + 1 := ⟨fuel - 1, by simp at hf; omega⟩
    have hf' : r.length ≤ fuel := by simp at hf; omega
    unfold inOrder at ho
    unfold wpLin at h
    cases hi : ops[i]? with
    | none => simp [hi] at ho
    | some o =>
      simp only [hi, Bool.and_eq_true] at ho h
      obtain ⟨h1, h2⟩ := ho
      split at h
      · rename_i hl
        rw [if_pos hl] at h1
        refine wpAnyH_all (by simpa using h1) (by simp) fun j hj => ?_
        obtain rfl : j = i := by simpa using hj
        refine wpOp_mono (fun a' w' hh => ⟨hh.1, ih _ _ _ _ h2 hf' hh.1 hh.2⟩) h
      · rename_i hl
        rw [if_neg hl] at h1
        simp only [Bool.and_eq_true] at h1
        obtain ⟨⟨h3, h4⟩, h5⟩ := h1
        obtain ⟨v, hy, h⟩ := h
        obtain ⟨d, hd⟩ := Option.isSome_iff_exists.1 h5
        refine wpAnyH_take hi hsel h3 h4 ?_ hy hS (ih _ _ _ _ h2 hf' hS h)
        rw [hd]
        exact hQ d v

theorem N_begin {id : Nat} {a : Act} {w : World} (S : World → Prop) (ord : List (Nat × Bool)) (hm : P.follows .mixedOrders = true) (hsel : Region.noSelect ops = true) (hl : ord.length ≤ ops.size) (ho : inOrder ops ord (Array.replicate ops.size false) = true)
    (hQ : ∀ d v c a w, Q (.panic c) (a.put (some d) v) w → Q (.panic c) a w) (hS : S w.drew)
    (h : ∀ w', S w' → w' = w.drew → wpLin P ops Q S ord a w') : (Code.region id ops true).wp P Q a w :=
  wp_region_held hm (any_of_lin hsel hQ ord _ _ a _ ho hl hS (h _ hS rfl))
end

/-- An operation that does something: every way out leads on. -/
def Does (P : Program) (o : Oper) (a : Act) (w : World) (R : Value → World → Prop) : Prop :=
  ∀ (K : Act → World → Prop) (Q : Exit → Act → World → Prop), (∀ v w', R v w' → K (a.put o.dst v) w') → o.wp P a w K Q
section
variable {P : Program} {ops : Array Oper} {Q : Exit → Act → World → Prop} {S : World → Prop} {a : Act} {w w' : World} {n : Nat} {m : List (Nat × Value)} {o : Oper} {rest : List Oper} {d i j : Nat} {v : Value} {R : Value → World → Prop} {r : List (Nat × Bool)} {b b' : Bool} {s : Nat}
theorem Does.of_value (he : (execOp a.eval o).run P w = .ok (.value v) w') (hR : R v w') : Does P o a w R := fun K Q hk => by
  unfold Oper.wp; rw [he]; exact hk _ _ hR
theorem Does.of_skip (he : (execOp a.eval o).run P w = .ok .skip w') (hR : R undef w') : Does P o a w R := fun K Q hk => by
  unfold Oper.wp; rw [he]; exact hk _ _ hR
/-- A call, by the callee's contract. -/
theorem D_call {f : FuncId} {args : Array Operand} {ats : Array TypeId} {vs : Array Value} {fn : Func} {R : Value → World → Prop} {R0 : Ending → World → Prop} (H : Fr a n m) (ho : o.op = .call { callee := .value (.func f), args := args, argTypes := ats })
    (hf : P.funcs[f]? = some fn) (hname : (fn.name == "runtime.NumGoroutine") = false) (hb : fn.body.isNone = false)
    (hc : Calls P f vs w R0) (hx : args.toList.map (ev m) = vs.toList.map some) (hk : ∀ e w', R0 e w' → ∃ v, e = .returned v ∧ R v w') : Does P o a w R := by
  have hargs : args.map a.eval = vs := by
    have key : ∀ (l : List Operand) (us : List Value), l.map (ev m) = us.map some → l.map a.eval = us := by
      intro l
      induction l with
      | nil => intro us h; cases us <;> simp_all
      | cons x l ih =>
        intro us h
        cases us with
        | nil => simp at h
        | cons u us =>
          simp only [List.map_cons, List.cons.injEq] at h
          rw [List.map_cons, H.ev h.1, ih us h.2]
    apply Array.ext'
    rw [Array.toList_map]
    exact key _ _ hx
  have he : (execOp a.eval o).run P w = .ok (.enter f vs) w := by
    unfold execOp
    rw [ho]
    have hn : ¬ fn.name = "runtime.NumGoroutine" := by simpa using hname
    have hb' : ¬ fn.body = none := by intro h; rw [h] at hb; cases hb
    simp [resolve, Act.eval, Deferred.ofValue, invoke, hargs, callFunc, program, Sem.run, Result.andThen, hf, hn, hb']
  intro K Q hK
  unfold Oper.wp
  rw [he]
  refine Calls.mono hc fun e w2 hr => ?_
  obtain ⟨v, rfl, h⟩ := hk e w2 hr
  exact hK _ _ h

/-- What a guard says. -/
theorem Fr.want (H : Fr a n m) (hg : o.guard = some (j, b)) (hj : (ops[j]?).bind (·.dst) = some s) (hs : look m s = some (.bool b)) : Region.wanted o (yielded ops a.tmps) = true := by
  unfold Region.wanted yielded
  simp [hg, hj, H.get s _ hs]
theorem Fr.unwant (H : Fr a n m) (hg : o.guard = some (j, b)) (hj : (ops[j]?).bind (·.dst) = some s) (hs : look m s = some (.bool b')) (hb : (b' == b) = false) : Region.wanted o (yielded ops a.tmps) = false := by
  unfold Region.wanted yielded
  simp [hg, hj, H.get s _ hs]
  simpa using hb
theorem Fr.unyielded (H : Fr a n m) (hg : o.guard = some (j, b)) (hj : (ops[j]?).bind (·.dst) = some s) (hs : look m s = some undef) : Region.wanted o (yielded ops a.tmps) = false := by
  unfold Region.wanted yielded
  simp [hg, hj, H.get s _ hs, undef]
theorem want0 (hg : o.guard = none) {f : Nat → Option Bool} : Region.wanted o f = true := by unfold Region.wanted; rw [hg]

theorem LG_val (hw : Region.wanted o (yielded ops a.tmps) = true) (hd : o.dst = some d) (hn : Nat.blt d n = true) (H : Fr a n m) (he : Yl P o a w v) (hk : ∀ a', Fr a' n ((d, v) :: m) → wpList P ops Q rest a' w) : wpList P ops Q (o :: rest) a w := by
  refine wpList_step fun K hK => ?_
  rw [if_pos hw]
  unfold Oper.wp
  rw [he]
  refine hK _ _ ?_
  rw [hd]
  exact hk _ (H.put (by simpa using hn) v)
theorem LG_skip (hw : Region.wanted o (yielded ops a.tmps) = false) (hd : o.dst = some d) (hn : Nat.blt d n = true) (H : Fr a n m) (hk : ∀ a', Fr a' n ((d, undef) :: m) → wpList P ops Q rest a' w) : wpList P ops Q (o :: rest) a w := by
  refine wpList_step fun K hK => ?_
  rw [if_neg (by rw [hw]; simp)]
  refine hK _ _ ?_
  rw [hd]
  exact hk _ (H.put (by simpa using hn) undef)
theorem LG_skip0 (hw : Region.wanted o (yielded ops a.tmps) = false) (hd : o.dst = none) (H : Fr a n m) (hk : ∀ a', Fr a' n m → wpList P ops Q rest a' w) : wpList P ops Q (o :: rest) a w := by
  refine wpList_step fun K hK => ?_
  rw [if_neg (by rw [hw]; simp)]
  refine hK _ _ ?_
  rw [hd]
  exact hk _ H
theorem LG_do (hw : Region.wanted o (yielded ops a.tmps) = true) (hd : o.dst = some d) (hn : Nat.blt d n = true) (H : Fr a n m) (he : Does P o a w R) (hk : ∀ v w', R v w' → ∀ a', Fr a' n ((d, v) :: m) → wpList P ops Q rest a' w') : wpList P ops Q (o :: rest) a w := by
  refine wpList_step fun K hK => ?_
  rw [if_pos hw]
  refine he K Q fun v w' hR => hK _ _ ?_
  rw [hd]
  exact hk _ _ hR _ (H.put (by simpa using hn) v)
theorem LG_do0 (hw : Region.wanted o (yielded ops a.tmps) = true) (hd : o.dst = none) (H : Fr a n m) (he : Does P o a w R) (hk : ∀ v w', R v w' → ∀ a', Fr a' n m → wpList P ops Q rest a' w') : wpList P ops Q (o :: rest) a w := by
  refine wpList_step fun K hK => ?_
  rw [if_pos hw]
  refine he K Q fun v w' hR => hK _ _ ?_
  rw [hd]
  exact hk _ _ hR _ H

theorem LG_call {f : FuncId} {args : Array Operand} {ats : Array TypeId} {vs : Array Value} {fn : Func} {R0 : Ending → World → Prop} (hw : Region.wanted o (yielded ops a.tmps) = true) (hd : o.dst = some d) (hn : Nat.blt d n = true) (ho : o.op = .call { callee := .value (.func f), args := args, argTypes := ats })
    (hf : P.funcs[f]? = some fn) (hname : (fn.name == "runtime.NumGoroutine") = false) (hb : fn.body.isNone = false)
    (H : Fr a n m) (hc : Calls P f vs w R0) (hx : args.toList.map (ev m) = vs.toList.map some) (hk : ∀ e w', R0 e w' → ∃ v, e = .returned v ∧ ∀ a', Fr a' n ((d, v) :: m) → wpList P ops Q rest a' w') : wpList P ops Q (o :: rest) a w :=
  LG_do hw hd hn H (R := fun v w' => ∀ a', Fr a' n ((d, v) :: m) → wpList P ops Q rest a' w') (D_call H ho hf hname hb hc hx hk) fun _ _ h => h
theorem N_end (h : Q .normal a w) : wpLin P ops Q S [] a w := h
theorem N_val (hi : ops[i]? = some o) (hw : Region.wanted o (yielded ops a.tmps) = true) (hd : o.dst = some d) (hn : Nat.blt d n = true) (H : Fr a n m) (he : ∀ w, S w → Yl P o a w v) (hk : ∀ a', Fr a' n ((d, v) :: m) → wpLin P ops Q S r a' w) : wpLin P ops Q S ((i, false) :: r) a w := by
  unfold wpLin
  simp only [hi]
  refine ⟨v, .inl ⟨hw, he⟩, ?_⟩
  rw [hd]
  exact hk _ (H.put (by simpa using hn) v)
theorem N_skip {fl : Bool} (hi : ops[i]? = some o) (hw : Region.wanted o (yielded ops a.tmps) = false) (hd : o.dst = some d) (hn : Nat.blt d n = true) (H : Fr a n m) (hS : S w) (hk : ∀ a', Fr a' n ((d, undef) :: m) → wpLin P ops Q S r a' w) : wpLin P ops Q S ((i, fl) :: r) a w := by
  unfold wpLin
  simp only [hi]
  split
  · unfold wpOp
    simp only [hi, hw]
    refine ⟨hS, ?_⟩
    rw [hd]
    exact hk _ (H.put (by simpa using hn) undef)
  · refine ⟨undef, .inr ⟨hw, rfl⟩, ?_⟩
    rw [hd]
    exact hk _ (H.put (by simpa using hn) undef)
theorem N_do (hi : ops[i]? = some o) (hw : Region.wanted o (yielded ops a.tmps) = true) (hd : o.dst = some d) (hn : Nat.blt d n = true) (H : Fr a n m) (he : Does P o a w R) (hk : ∀ v w', R v w' → S w' ∧ ∀ a', Fr a' n ((d, v) :: m) → wpLin P ops Q S r a' w') : wpLin P ops Q S ((i, true) :: r) a w := by
  unfold wpLin
  simp only [hi]
  unfold wpOp
  simp only [hi, hw]
  refine .inl (he _ Q fun v w' hR => ?_)
  obtain ⟨h1, h2⟩ := hk v w' hR
  refine ⟨h1, ?_⟩
  rw [hd]
  exact h2 _ (H.put (by simpa using hn) v)
theorem N_do0 (hi : ops[i]? = some o) (hw : Region.wanted o (yielded ops a.tmps) = true) (hd : o.dst = none) (H : Fr a n m) (he : Does P o a w R) (hk : ∀ v w', R v w' → S w' ∧ ∀ a', Fr a' n m → wpLin P ops Q S r a' w') : wpLin P ops Q S ((i, true) :: r) a w := by
  unfold wpLin
  simp only [hi]
  unfold wpOp
  simp only [hi, hw]
  refine .inl (he _ Q fun v w' hR => ?_)
  obtain ⟨h1, h2⟩ := hk v w' hR
  refine ⟨h1, ?_⟩
  rw [hd]
  exact h2 _ H
theorem N_call {f : FuncId} {args : Array Operand} {ats : Array TypeId} {vs : Array Value} {fn : Func} {R0 : Ending → World → Prop} (hi : ops[i]? = some o) (hw : Region.wanted o (yielded ops a.tmps) = true) (hd : o.dst = some d) (hn : Nat.blt d n = true) (ho : o.op = .call { callee := .value (.func f), args := args, argTypes := ats })
    (hf : P.funcs[f]? = some fn) (hname : (fn.name == "runtime.NumGoroutine") = false) (hb : fn.body.isNone = false)
    (H : Fr a n m) (hc : Calls P f vs w R0) (hx : args.toList.map (ev m) = vs.toList.map some) (hk : ∀ e w', R0 e w' → ∃ v, e = .returned v ∧ S w' ∧ ∀ a', Fr a' n ((d, v) :: m) → wpLin P ops Q S r a' w') : wpLin P ops Q S ((i, true) :: r) a w :=
  N_do hi hw hd hn H (R := fun v w' => S w' ∧ ∀ a', Fr a' n ((d, v) :: m) → wpLin P ops Q S r a' w') (D_call H ho hf hname hb hc hx hk) fun _ _ h => h
end
end Go.Proofs.Ytaekiecidbhjhaa
