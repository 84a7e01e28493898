/- Contracts of the small library functions on []int: chapletkeep.Copy, slices.Clone. -/
import Derived.Test.YtaekiecidbhjhaaTy
namespace Go.Proofs.Ytaekiecidbhjhaa
open Go.RowKit

/-- append to a slice of numbers, as an arm of the walk. -/
theorem appI {ops : Array Oper} {rest : List Oper} {o : Oper} {a : Act} {w : World} {Q : Exit → Act → World → Prop} (hg : o.guard = none) (x y : Operand)
    (ho : o.op = Op.call { callee := Callee.builtin Builtin.append, args := #[x, y], argTypes := #[22, 22] })
    {sv yv : Value} {xs ys : List Int} {l : List HProp} (hs : Sat w (Ints sv xs :: l)) (hr : RdI w yv ys) (hx : a.eval x = sv) (hy : a.eval y = yv)
    (b2 : (xs.length + ys.length) * 8 ≤ 140737488355328)
    (h : ∀ v' w', Sat w' (Ints v' (xs ++ ys) :: l) → w.heap.size ≤ w'.heap.size → wpList Try.prog ops Q rest (a.put o.dst v') w') : wpList Try.prog ops Q (o :: rest) a w :=
  wpList_append_sl hg x y _ _ _ _ ty_ints ho hs hr hx hy (one_ints ys) b2 (fun v' w' h1 h2 _ => h v' w' (by unfold Ints; rw [List.length_append, List.map_append]; exact h1) h2)

set_option maxHeartbeats 400000 in
theorem copy_ok {w : World} {l : List HProp} {v : Value} {xs : List Int} (hr : RdI w v xs) (hb : xs.length * 8 ≤ 140737488355328) (hs : Sat w l) :
    Calls Try.prog 19 #[v] w fun e w' => ∃ v', e = .returned v' ∧ Sat w' (Ints v' xs :: l) ∧ w.heap.size ≤ w'.heap.size := by
  go_enter Try.func19, Try.ntmps19
  go_wp2_with (at_builtin; refine appI rfl _ _ rfl (Ints.nil w l hs) hr rfl rfl ?_ ?_)
  · simpa using hb
  intro v' w' h1 h2
  go_wp2
  go_ret
  exact ⟨v', rfl, h1, h2⟩

/-- A new empty array. -/
theorem Ints.made {w : World} {l : List HProp} (hs : Sat w l) : Sat (w.alloc (.cells #[] 3)) (Ints (.slice (some ⟨w.heap.size, 0, none⟩) 0 0) [] :: l) :=
  Sl.mk (pre := []) (xs := []) (suf := []) (n := 0) (cap := 0) (hs.alloc _) rfl (Nat.le_refl _) (Nat.zero_le _) (by simp)

set_option maxHeartbeats 400000 in
theorem clone_ok {w : World} {l : List HProp} {v : Value} {xs : List Int} (hr : RdI w v xs) (hb : xs.length * 8 ≤ 140737488355328) (hs : Sat w l) :
    Calls Try.prog 78 #[v] w fun e w' => ∃ v', e = .returned v' ∧ Sat w' (Ints v' xs :: l) ∧ w.heap.size ≤ w'.heap.size := by
  obtain ⟨a, cap, rfl, h2, h3, h4, h5, h6⟩ := id hr
  have he := Lib.run_eql_slice_nil (P := Try.prog) w 22 3 a xs.length cap 0 0 ty_ints.und
  cases a with
  | none =>
    have hc := h5 rfl
    subst hc
    have hx : xs = [] := List.eq_nil_of_length_eq_zero (by omega)
    subst hx
    simp at he
    go_enter Try.func78, Try.ntmps78
    go_wp2
    go_ret
    exact ⟨_, rfl, Ints.nil w l hs, Nat.le_refl _⟩
  | some ad =>
    simp at he
    clear h2 h3 h4 h5 h6
    have hs1 := Ints.made hs
    have hr1 : RdI (w.alloc (.cells #[] 3)) _ xs := Rd.alloc hr _
    go_enter Try.func78, Try.ntmps78
    go_wp2_with (at_builtin; refine appI rfl _ _ rfl hs1 hr1 rfl rfl ?_ ?_)
    · simpa using hb
    intro v' w' h1 h2
    go_wp2
    go_ret
    (try simp at h2)
    exact ⟨v', rfl, h1, by omega⟩
end Go.Proofs.Ytaekiecidbhjhaa
