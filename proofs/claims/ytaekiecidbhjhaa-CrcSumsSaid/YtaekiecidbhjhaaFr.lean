/- A frame told by its slots: 'Fr a n m' says what the slots named in the table m hold; one law per operation, so that a walk is a list of rules. -/
import Derived.Test.YtaekiecidbhjhaaSl
import Derived.KernelRfl
namespace Go.Proofs.Ytaekiecidbhjhaa
open Go.RowKit

/-- The table's word on a slot: the newest row counts. -/
def look : List (Nat × Value) → Nat → Option Value
  | [], _ => none
  | (k, v) :: m, i => bif Nat.beq k i then some v else look m i
/-- What the frame's slots hold. -/
structure Fr (a : Act) (n : Nat) (m : List (Nat × Value)) : Prop where
  size : a.tmps.size = n
  defs : a.defers = []
  get : ∀ i v, look m i = some v → a.tmps[i]? = some v
/-- An operand's value by the table. -/
def ev (m : List (Nat × Value)) : Operand → Option Value
  | .tmp t => look m t
  | .const v => some v
  | .global g => some (.pointer (some ⟨g, 0, none⟩))
  | .func f => some (.func (.func f) #[] #[])

section
variable {a : Act} {n : Nat} {m : List (Nat × Value)} {x y : Operand} {v u : Value}
theorem Fr.ev (H : Fr a n m) (h : ev m x = some v) : a.eval x = v := by
  cases x with
  | tmp t =>
    have := H.get t v h
    simp [Act.eval, Array.getD_eq_getD_getElem?, this]
  | const c => simpa [Proofs.Ytaekiecidbhjhaa.ev, Act.eval] using h
  | global g => simpa [Proofs.Ytaekiecidbhjhaa.ev, Act.eval] using h
  | func f => simpa [Proofs.Ytaekiecidbhjhaa.ev, Act.eval] using h
theorem Fr.put (H : Fr a n m) {d : Nat} (hd : d < n) (v : Value) : Fr (a.put (some d) v) n ((d, v) :: m) := by
  refine ⟨by simp [Act.put, H.size], by simp [Act.put, H.defs], fun i u h => ?_⟩
  simp only [look] at h
  have hsz := H.size
  cases hb : Nat.beq d i with
  | true =>
    have := Nat.eq_of_beq_eq_true hb
    subst this
    rw [hb] at h
    simp at h
    subst h
    simp [Act.put, hsz, hd]
  | false =>
    rw [hb] at h
    have hne : d ≠ i := Nat.ne_of_beq_eq_false hb
    have := H.get i u h
    simp [Act.put, Array.getElem?_setIfInBounds, hne, this]
theorem Fr.skip (H : Fr a n m) (v : Value) : Fr (a.put none v) n m := H
theorem Fr.sub (H : Fr a n m) {m' : List (Nat × Value)} (h : m'.map (fun p => look m p.1) = m'.map (fun p => some p.2)) : Fr a n m' := by
  refine ⟨H.size, H.defs, fun i u hu => H.get i u ?_⟩
  induction m' with
  | nil => cases hu
  | cons p m' ih =>
    simp only [List.map_cons, List.cons.injEq] at h
    simp only [look] at hu
    cases hb : Nat.beq p.1 i with
    | true =>
      have := Nat.eq_of_beq_eq_true hb
      subst this
      rw [hb] at hu
      simp at hu
      subst hu
      exact h.1
    | false =>
      rw [hb] at hu
      exact ih h.2 hu
theorem Fr.start (args : Array Value) (k : Nat) {m : List (Nat × Value)} (h : m.map (fun p => args.toList[p.1]?) = m.map (fun p => some p.2)) : Fr ⟨args ++ Array.replicate (k - args.size) undef, []⟩ (args.size + (k - args.size)) m := by
  refine ⟨by simp, rfl, fun i u hu => ?_⟩
  induction m with
  | nil => cases hu
  | cons p m ih =>
    simp only [List.map_cons, List.cons.injEq] at h
    simp only [look] at hu
    cases hb : Nat.beq p.1 i with
    | true =>
      have := Nat.eq_of_beq_eq_true hb
      subst this
      rw [hb] at hu
      simp at hu
      subst hu
      have h1 : args[p.1]? = some p.2 := by simpa using h.1
      have := (Array.getElem?_eq_some_iff.1 h1).1
      rw [Array.getElem?_append_left this]
      exact h1
    | false =>
      rw [hb] at hu
      exact ih h.2 hu
end

/-- The walk begins. -/
theorem enter {P : Program} {f : FuncId} {fn : Func} {c : Code} {args : Array Value} {w : World} {R : Ending → World → Prop} {n : Nat}
    (hf : P.funcs[f]? = some fn) (hb : fn.body = some c) (m : List (Nat × Value)) (hm : m.map (fun p => args.toList[p.1]?) = m.map (fun p => some p.2)) (hn : args.size + (fn.ntmps - args.size) = n)
    (h : ∀ a, Fr a n m → c.wp P (bodyPost P fn R) a w) : Calls P f args w R :=
  calls_of_wp hf hb (h _ (hn ▸ Fr.start args fn.ntmps hm))

section
variable {P : Program} {fn : Func} {R : Ending → World → Prop} {a : Act} {w : World} {n : Nat} {m : List (Nat × Value)} {v u : Value}
theorem Fr.getD (H : Fr a n m) {t : Nat} (h : look m t = some v) : a.tmps.getD t undef = v := by
  have := H.get t v h
  simp [Array.getD_eq_getD_getElem?, this]
theorem ret0 (h : fn.results = #[]) (H : Fr a n m) (hR : R (.returned (.tuple #[])) w) : bodyPost P fn R .ret a w :=
  bodyPost_ret (results_none h _ _ _) H.defs hR
theorem ret1 {t : Tmp} (h : fn.results = #[.tmp t]) (H : Fr a n m) (hv : look m t = some v) (hR : R (.returned v) w) : bodyPost P fn R .ret a w :=
  bodyPost_ret (results_tmp h _ _ _) H.defs (by rw [H.getD hv]; exact hR)
theorem ret2 {t s : Tmp} (h : fn.results = #[.tmp t, .tmp s]) (H : Fr a n m) (hv : look m t = some v) (hu : look m s = some u) (hR : R (.returned (.tuple #[v, u])) w) : bodyPost P fn R .ret a w :=
  bodyPost_ret (results_tmp2 h _ _ _) H.defs (by rw [H.getD hv, H.getD hu]; exact hR)
/-- The result, or the first one, is a struct in a block of ours. -/
theorem retS {l : List HProp} {t : Tmp} {ty T : TypeId} {g : Nat} {cs : List Value} (h : fn.results = #[.cell t ty]) (H : Fr a n m) (hp : look m t = some (.pointer (some ⟨g, 0, none⟩)))
    (hs : Sat w (cel g T cs :: l)) (hu : ∃ fs, P.underlying ty = some (.struct fs)) (hi : (P.info? ty).map (·.size) = some cs.length) (hR : R (.returned (.agg cs.toArray)) w) : bodyPost P fn R .ret a w := by
  obtain ⟨fs, hu⟩ := hu
  exact bodyPost_ret (results_cell_row h _ _ g T cs.toArray (0, 0) _ (H.getD hp) hs.blk hu rfl (by simpa using hi)) H.defs hR
theorem retS2 {l : List HProp} {t s : Tmp} {ty T : TypeId} {g : Nat} {cs : List Value} (h : fn.results = #[.cell t ty, .tmp s]) (H : Fr a n m) (hp : look m t = some (.pointer (some ⟨g, 0, none⟩))) (hx : look m s = some v)
    (hs : Sat w (cel g T cs :: l)) (hu : ∃ fs, P.underlying ty = some (.struct fs)) (hi : (P.info? ty).map (·.size) = some cs.length) (hR : R (.returned (.tuple #[.agg cs.toArray, v])) w) : bodyPost P fn R .ret a w := by
  obtain ⟨fs, hu⟩ := hu
  have hrow := run_loadVar_row (P := P) w g T ty cs.toArray (0, 0) _ hs.blk hu rfl (by simpa using hi)
  have hp := H.getD hp
  have hx := H.getD hx
  simp only [Array.getD_eq_getD_getElem?] at hp hx
  exact bodyPost_ret (by simp [results, h, hp, hx, hrow, asAddr]) H.defs hR
end

/- The code's forms. -/
section
variable {P : Program} {Q : Exit → Act → World → Prop} {K : Act → World → Prop} {a : Act} {w : World} {id id' : Nat} {n : Nat} {m : List (Nat × Value)}
theorem t_exit (h : Q (.exit id) a w) : Exit.then K Q (.exit id) a w := h
theorem t_ret (h : Q .ret a w) : Exit.then K Q .ret a w := h
theorem t_norm (h : K a w) : Exit.then K Q .normal a w := h
theorem b_norm (h : Q .normal a w) : Exit.inBlock id Q .normal a w := h
theorem b_ret (h : Q .ret a w) : Exit.inBlock id Q .ret a w := h
theorem b_exit (h : Q .normal a w) : Exit.inBlock id Q (.exit id) a w := by simp [Exit.inBlock, h]
theorem b_exit' (hne : (id' == id) = false) (h : Q (.exit id') a w) : Exit.inBlock id Q (.exit id') a w := by
  have : ¬ id' = id := by simpa using hne
  simp [Exit.inBlock, this, h]
theorem c_if {x : Operand} {c d : Code} {t : Bool} (H : Fr a n m) (hx : ev m x = some (.bool t)) (h : (if t then c else d).wp P Q a w) : (Code.cond x c d).wp P Q a w := wp_cond (H.ev hx) h
theorem c_yes {x : Operand} {c d : Code} (H : Fr a n m) (hx : ev m x = some (.bool true)) (h : c.wp P Q a w) : (Code.cond x c d).wp P Q a w := wp_cond (H.ev hx) h
theorem c_no {x : Operand} {c d : Code} (H : Fr a n m) (hx : ev m x = some (.bool false)) (h : d.wp P Q a w) : (Code.cond x c d).wp P Q a w := wp_cond (H.ev hx) h
theorem c_dec {x : Operand} {c d : Code} {p : Prop} [Decidable p] (H : Fr a n m) (hx : ev m x = some (.bool (decide p))) (ht : p → c.wp P Q a w) (hf : ¬ p → d.wp P Q a w) : (Code.cond x c d).wp P Q a w :=
  wp_cond_split (H.ev hx) (fun h => ht (of_decide_eq_true h)) (fun h => hf (of_decide_eq_false h))
theorem c_bool {x : Operand} {c d : Code} {t : Bool} (H : Fr a n m) (hx : ev m x = some (.bool t)) (ht : t = true → c.wp P Q a w) (hf : t = false → d.wp P Q a w) : (Code.cond x c d).wp P Q a w :=
  wp_cond_split (H.ev hx) ht hf
/-- A loop: what holds at the head of each round, by a ghost state; a measure that each round lowers. -/
theorem c_loop {σ : Type} {c : Code} (I : σ → Act → World → Prop) (μ : σ → Nat) (s0 : σ) (h0 : I s0 a w)
    (round : ∀ s a w, I s a w → c.wp P (Exit.then (fun a' w' => ∃ s', I s' a' w' ∧ μ s' < μ s) Q) a w) : (Code.loop c).wp P Q a w := by
  intro b k cs
  have key : ∀ n s a w, μ s = n → I s a w →
      ∃ e a' w', Q e a' w' ∧ Arrives P (lone (b.at a (.code c :: .inLoop c :: k)) cs w) b k cs e a' w' := by
    intro n
    induction n using Nat.strongRecOn with
    | _ n ih =>
      intro s a w hn hI
      obtain ⟨e, a₁, w₁, hq, harr⟩ := round s a w hI b (.inLoop c :: k) cs
      cases e with
      | normal =>
        obtain ⟨s', hI₁, hlt⟩ := hq
        obtain ⟨e₂, a₂, w₂, hq₂, harr₂⟩ := ih (μ s') (hn ▸ hlt) s' a₁ w₁ rfl hI₁
        exact ⟨e₂, a₂, w₂, hq₂, .of_steps (Steps.trans harr (.one step_inLoop)) harr₂⟩
      | exit id => exact ⟨_, a₁, w₁, hq, .pass (x := .inLoop c) rfl (fun _ _ => .inl (by simp)) harr⟩
      | goto l => exact ⟨_, a₁, w₁, hq, .pass (x := .inLoop c) rfl (fun _ _ => .inl (by simp)) harr⟩
      | ret => exact ⟨_, a₁, w₁, hq, .pass (x := .inLoop c) rfl (fun _ _ => .inl (by simp)) harr⟩
      | panic ch => exact ⟨_, a₁, w₁, hq, .pass (x := .inLoop c) rfl (fun _ _ => .inl (by simp)) harr⟩
      | outgrown => exact ⟨_, a₁, w₁, hq, .pass (x := .inLoop c) rfl (fun _ _ => .inl (by simp)) harr⟩
  obtain ⟨e, a', w', hq, harr⟩ := key _ s0 a w rfl h0
  exact ⟨e, a', w', hq, .of_steps (.one step_loop) harr⟩
/-- A cut: what holds behind a piece, whichever way it went. -/
theorem c_cut {x y : Code} (J : Act → World → Prop) (h1 : x.wp P (Exit.then J Q) a w) (h2 : ∀ a w, J a w → y.wp P Q a w) : (Code.seq x y).wp P Q a w :=
  wp_seq (wp_mono h1 fun e a w q => by cases e <;> first | exact h2 _ _ q | exact q)
end

/- The operations, one after another. -/
section
variable {P : Program} {ops : Array Oper} {Q : Exit → Act → World → Prop} {a : Act} {w w' : World} {n : Nat} {m : List (Nat × Value)} {o : Oper} {rest : List Oper} {d : Nat} {v : Value}
/-- An operation that only yields a value. -/
abbrev Yl (P : Program) (o : Oper) (a : Act) (w : World) (v : Value) : Prop := (execOp a.eval o).run P w = .ok (.value v) w
theorem L_at (hg : o.guard = none) (he : (execOp a.eval o).run P w = .ok (.value v) w') (hk : wpList P ops Q rest (a.put o.dst v) w') : wpList P ops Q (o :: rest) a w :=
  wpList_plain hg fun K hK => by
    unfold Oper.wp
    rw [he]
    exact hK _ _ hk
theorem L_val (hg : o.guard = none) (hd : o.dst = some d) (hn : Nat.blt d n = true) (H : Fr a n m) (he : (execOp a.eval o).run P w = .ok (.value v) w') (hk : ∀ a', Fr a' n ((d, v) :: m) → wpList P ops Q rest a' w') : wpList P ops Q (o :: rest) a w := by
  refine L_at hg he ?_
  rw [hd]
  exact hk _ (H.put (by simpa using hn) v)
/-- An operation without a result. -/
theorem L_do (hg : o.guard = none) (hd : o.dst = none) (H : Fr a n m) (he : (execOp a.eval o).run P w = .ok .skip w') (hk : ∀ a', Fr a' n m → wpList P ops Q rest a' w') : wpList P ops Q (o :: rest) a w :=
  wpList_plain hg fun K hK => by
    unfold Oper.wp
    rw [he]
    exact hK _ _ (by rw [hd]; exact hk _ H)
theorem L_end (h : Q .normal a w) : wpList P ops Q [] a w := h
/-- A call, by the callee's contract. -/
theorem L_call {f : FuncId} {args : Array Operand} {ats : Array TypeId} {vs : Array Value} {fn : Func} {R : Ending → World → Prop} (hg : o.guard = none) (hd : o.dst = some d) (hn : Nat.blt d n = true) (ho : o.op = .call { callee := .value (.func f), args := args, argTypes := ats })
    (hf : P.funcs[f]? = some fn) (hname : (fn.name == "runtime.NumGoroutine") = false) (hb : fn.body.isNone = false)
    (H : Fr a n m) (hx : args.toList.map (ev m) = vs.toList.map some) (hc : Calls P f vs w R) (hk : ∀ e w', R e w' → ∃ v, e = .returned v ∧ ∀ a', Fr a' n ((d, v) :: m) → wpList P ops Q rest a' w') : wpList P ops Q (o :: rest) a w := by
  have hargs : args.map a.eval = vs := by
    have key : ∀ (l : List Operand) (us : List Value), l.map (ev m) = us.map some → l.map a.eval = us := by
      intro l
      induction l with
      | nil => intro us h; cases us <;> simp_all
      | cons x l ih =>
        intro us h
        cases us with
        | nil => simp at h
        | cons u us =>
          simp only [List.map_cons, List.cons.injEq] at h
          rw [List.map_cons, H.ev h.1, ih us h.2]
    apply Array.ext'
    rw [Array.toList_map]
    exact key _ _ hx
  have he : (execOp a.eval o).run P w = .ok (.enter f vs) w := by
    unfold execOp
    rw [ho]
    have hn : ¬ fn.name = "runtime.NumGoroutine" := by simpa using hname
    have hb' : ¬ fn.body = none := by intro h; rw [h] at hb; cases hb
    simp [resolve, Act.eval, Deferred.ofValue, invoke, hargs, callFunc, program, Sem.run, Result.andThen, hf, hn, hb']
  refine wpList_plain hg fun K hK => ?_
  unfold Oper.wp
  rw [he]
  refine Calls.mono hc fun e w2 hr => ?_
  obtain ⟨v, rfl, h⟩ := hk e w2 hr
  refine hK _ _ ?_
  rw [hd]
  exact h _ (H.put (by simpa using hn) v)
end
end Go.Proofs.Ytaekiecidbhjhaa
