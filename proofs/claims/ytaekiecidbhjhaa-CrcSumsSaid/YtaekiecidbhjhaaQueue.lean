/- queue.Queue: its representation, and what each call does. -/
import Derived.Test.YtaekiecidbhjhaaOwn
namespace Go.Proofs.Ytaekiecidbhjhaa
open Go.RowKit

/-- What holds of a queue of so much room that has these packets. -/
def QOk (room : Int) (ps : List Pkt) : Prop := room ≤ 1000 ∧ (ps.length : Int) ≤ room ∧ ∀ p ∈ ps, p.data.length * 8 ≤ 140737488351232
def QRep (q : Nat) (room : Int) (ps : List Pkt) : HProp := Ex fun v : Value => [Pur (QOk room ps), cel q 112 [v, VI room], PkQ v ps]
theorem QRep.open {w : World} {l : List HProp} {q : Nat} {room : Int} {ps : List Pkt} : Sat w (QRep q room ps :: l) ↔ QOk room ps ∧ ∃ v, Sat w (cel q 112 [v, VI room] :: PkQ v ps :: l) := by
  unfold QRep
  rw [Sat.ex]
  constructor
  · rintro ⟨v, h⟩
    obtain ⟨h1, h2⟩ := Sat.pur.1 h
    exact ⟨h1, v, h2⟩
  · rintro ⟨h1, v, h2⟩
    exact ⟨v, Sat.pur.2 ⟨h1, h2⟩⟩

theorem QRep.new {w : World} {l : List HProp} (room : Int) (h0 : 0 ≤ room) (hb : room ≤ 1000) (hs : Sat w l) : Sat (w.alloc (.cells #[VNil, VI room] 112)) (QRep w.heap.size room [] :: l) :=
  QRep.open.2 ⟨⟨hb, by simpa using h0, by simp⟩, VNil, (PkQ.nil (hs.alloc _)).p1⟩

set_option maxHeartbeats 400000 in
theorem qnew_ok {w : World} {l : List HProp} (room : Int) (hb : room ≤ 1000) (hs : Sat w l) :
    Calls Try.prog 18 #[VI room] w fun e w' => ∃ q, e = .returned (VP q 0) ∧ Sat w' (QRep q (max 0 room) [] :: l) ∧ w.heap.size ≤ w'.heap.size := by
  go_enter Try.func18, Try.ntmps18
  go_wp2
  · go_ret
    exact ⟨_, rfl, by rw [Int.max_eq_right (by omega)]; exact QRep.new room (by omega) hb hs, by simp⟩
  · go_ret
    exact ⟨_, rfl, by rw [Int.max_eq_left (by omega)]; exact QRep.new 0 (by omega) (by omega) hs, by simp⟩

set_option maxHeartbeats 400000 in
theorem qlen_ok {w : World} {l : List HProp} {q : Nat} {room : Int} {ps : List Pkt} (hs : Sat w (QRep q room ps :: l)) :
    Calls Try.prog 24 #[VP q 0] w fun e w' => e = .returned (VI ps.length) ∧ w = w' := by
  obtain ⟨⟨h1, h2, h3⟩, v, h4⟩ := QRep.open.1 hs
  obtain ⟨a, cap, rfl, _, _⟩ := (PkQ.val h4.p1)
  have c0 := h4.cell
  clear hs h3 h4
  go_enter Try.func24, Try.ntmps24
  go_wp2
  go_ret
  exact ⟨rfl, rfl⟩

set_option maxHeartbeats 400000 in
theorem qroom_ok {w : World} {l : List HProp} {q : Nat} {room : Int} {ps : List Pkt} (hs : Sat w (QRep q room ps :: l)) :
    Calls Try.prog 25 #[VP q 0] w fun e w' => e = .returned (VI (room - ps.length)) ∧ ∃ k, w' = w.drewN k := by
  obtain ⟨⟨h1, h2, h3⟩, v, h4⟩ := QRep.open.1 hs
  obtain ⟨a, cap, rfl, _, _⟩ := (PkQ.val h4.p1)
  have c0 := h4.cell
  clear hs h3 h4
  go_enter Try.func25, Try.ntmps25
  go_wp2
  go_quiet (fail)
  go_wp2
  go_ret
  exact ⟨rfl, _, rfl⟩

/-- A packet more, in a list of packets of ours. -/
theorem PkQ.snoc {w : World} {l : List HProp} {v u : Value} {ps : List Pkt} {vs : List Value} {p : Pkt} (h1 : vs.length = ps.length) (hs : Sat w (Sl 43 9 v (ps.length + 1) (pkCells ps vs ++ p.cells u) :: Ints u p.data :: (pkData ps vs ++ l))) : Sat w (PkQ v (ps ++ [p]) :: l) := by
  refine PkQ.open.2 ⟨vs ++ [u], by simp [h1], ?_⟩
  rw [pkCells_app _ _ _ _ h1, pkData_app _ _ _ _ h1, List.length_append]
  simp only [pkCells, pkData, List.append_nil, List.length_cons, List.length_nil, Nat.zero_add, List.append_assoc]
  refine hs.perm (List.Perm.cons _ ?_)
  simpa using List.perm_middle.symm
theorem one_pkt (p : Pkt) (a : Option Addr) (n c : Nat) : ∀ u ∈ p.cells (.slice a n c), u.oneCell' = true := by
  intro u hu
  simp at hu
  rcases hu with rfl | rfl | rfl | rfl | rfl | rfl | rfl | rfl | rfl <;> rfl

theorem Ints.val {w : World} {l : List HProp} {v : Value} {xs : List Int} (hs : Sat w (Ints v xs :: l)) : ∃ a cap, v = .slice a xs.length cap ∧ xs.length ≤ cap ∧ cap ≤ maxLen := (Ints.rd hs).val
theorem Ints.one {w : World} {l : List HProp} {v : Value} {xs : List Int} (hs : Sat w (Ints v xs :: l)) (p : Pkt) : ∀ u ∈ p.cells v, u.oneCell' = true := by
  obtain ⟨a, cap, rfl, _, _⟩ := Ints.val hs
  exact one_pkt p _ _ _
/-- A packet in a new array of one, appended to packets of ours. -/
theorem wp_app_pkt {o : Oper} {a : Act} {w : World} {K : Act → World → Prop} {Q : Exit → Act → World → Prop} (x y : Operand)
    (ho : o.op = Op.call { callee := Callee.builtin Builtin.append, args := #[x, y], argTypes := #[40, 40] })
    {sv u : Value} {bk : Nat} {ps : List Pkt} {p : Pkt} {l : List HProp} (hs : Sat w (cel bk 43 (p.cells u) :: PkQ sv ps :: Ints u p.data :: l)) (hx : a.eval x = sv) (hy : a.eval y = .slice (some ⟨bk, 0, none⟩) 1 1)
    (hb : (ps.length + 1) * 88 ≤ 140737488355328)
    (h : ∀ v' w', Sat w' (PkQ v' (ps ++ [p]) :: l) → w.heap.size ≤ w'.heap.size → K (a.put o.dst v') w') : o.wp Try.prog a w K Q := by
  have h1 := Ints.one hs.p2 p
  obtain ⟨vs, h2, h3⟩ := PkQ.open.1 hs.p1
  have hr : Rd w 9 (.slice (some ⟨bk, 0, none⟩) 1 1) 1 (p.cells u) := by
    refine ⟨_, 1, rfl, rfl, Nat.le_refl _, by simp [maxLen], (fun h => by cases h), fun ad e j x hx => ?_⟩
    cases e
    rw [addr_add, hs.cell]
    simpa using hx
  refine wp_append_sl x y _ _ _ _ ty_pkts ho h3 hr hx hy h1 hb fun v' w' r1 r2 _ => h v' w' (PkQ.snoc (u := u) h2 (l := l) ?_) r2
  have r3 : Sat w' (Sl 43 9 v' (ps.length + 1) (pkCells ps vs ++ p.cells u) :: (pkData ps vs ++ Ints u p.data :: l)) := by
    refine Sat.tail (A := cel bk 43 (p.cells u)) (r1.perm (List.perm_middle (l₁ := _ :: pkData ps vs)))
  exact r3.perm (List.Perm.cons _ List.perm_middle)
theorem step_app_pkt {ops : Array Oper} {o : Oper} {a : Act} {w : World} {K : Act → World → Prop} {Q : Exit → Act → World → Prop} {D : Prop} (hg : o.guard = none) (x y : Operand)
    (ho : o.op = Op.call { callee := Callee.builtin Builtin.append, args := #[x, y], argTypes := #[40, 40] })
    {sv u : Value} {bk : Nat} {ps : List Pkt} {p : Pkt} {l : List HProp} (hs : Sat w (cel bk 43 (p.cells u) :: PkQ sv ps :: Ints u p.data :: l)) (hx : a.eval x = sv) (hy : a.eval y = .slice (some ⟨bk, 0, none⟩) 1 1)
    (hb : (ps.length + 1) * 88 ≤ 140737488355328)
    (h : ∀ v' w', Sat w' (PkQ v' (ps ++ [p]) :: l) → w.heap.size ≤ w'.heap.size → K (a.put o.dst v') w') :
    if Region.wanted o (yielded ops a.tmps) = true then Oper.wp Try.prog o a w K Q else D := by
  have hw : Region.wanted o (yielded ops a.tmps) = true := by simp [Region.wanted, hg]
  rw [if_pos hw]
  exact wp_app_pkt x y ho hs hx hy hb h
theorem wpList_app_pkt {ops : Array Oper} {rest : List Oper} {o : Oper} {a : Act} {w : World} {Q : Exit → Act → World → Prop} (hg : o.guard = none) (x y : Operand)
    (ho : o.op = Op.call { callee := Callee.builtin Builtin.append, args := #[x, y], argTypes := #[40, 40] })
    {sv u : Value} {bk : Nat} {ps : List Pkt} {p : Pkt} {l : List HProp} (hs : Sat w (cel bk 43 (p.cells u) :: PkQ sv ps :: Ints u p.data :: l)) (hx : a.eval x = sv) (hy : a.eval y = .slice (some ⟨bk, 0, none⟩) 1 1)
    (hb : (ps.length + 1) * 88 ≤ 140737488355328)
    (h : ∀ v' w', Sat w' (PkQ v' (ps ++ [p]) :: l) → w.heap.size ≤ w'.heap.size → wpList Try.prog ops Q rest (a.put o.dst v') w') : wpList Try.prog ops Q (o :: rest) a w :=
  wpList_plain hg fun _ hK => wp_app_pkt x y ho hs hx hy hb fun v' w' r1 r2 => hK _ _ (h v' w' r1 r2)

set_option maxHeartbeats 400000 in
theorem qput_full {w : World} {l : List HProp} {q : Nat} {room : Int} {ps : List Pkt} (hs : Sat w (QRep q room ps :: l)) (p : Pkt) (u : Value) (hf : room = ps.length) :
    Calls Try.prog 20 #[VP q 0, p.val u] w fun e w' => e = .returned (VI 5) ∧ Sat w' (QRep q room ps :: l) ∧ w.heap.size ≤ w'.heap.size := by
  have hs1 := hs.skip (.cells (p.cells u).toArray 43)
  have hz : (room - (ps.length : Int) == 0) = true := by simp; omega
  go_enter Try.func20, Try.ntmps20
  go_wp2_with fail
  refine (qroom_ok hs1).mono ?_
  rintro e w1 ⟨rfl, k, rfl⟩
  go_wp2
  go_ret
  exact ⟨rfl, hs1.drewN k, by simp⟩

set_option maxRecDepth 100000 in
set_option maxHeartbeats 400000 in
theorem qput_room {w : World} {l : List HProp} {q : Nat} {room : Int} {ps : List Pkt} (hs : Sat w (QRep q room ps :: l)) (p : Pkt) (u : Value) (hr : RdI w u p.data) (hb : p.data.length * 8 ≤ 140737488351232) (hf : (ps.length : Int) < room) :
    Calls Try.prog 20 #[VP q 0, p.val u] w fun e w' => e = .returned (VI 0) ∧ Sat w' (QRep q room (ps ++ [p]) :: l) ∧ w.heap.size ≤ w'.heap.size := by
  have hs1 := hs.alloc (.cells (p.cells u).toArray 43)
  have hr1 : RdI (w.alloc (.cells (p.cells u).toArray 43)) u p.data := Rd.alloc hr _
  have hz : (room - (ps.length : Int) == 0) = false := by simp; omega
  go_enter Try.func20, Try.ntmps20
  go_wp2_with fail
  refine (qroom_ok hs1.p1).mono ?_
  rintro e w1 ⟨rfl, k, rfl⟩
  generalize hW : (w.alloc (.cells (p.cells u).toArray 43)).drewN k = W
  have hs2 : Sat W (pts w.heap.size (.cells (p.cells u).toArray 43) :: QRep q room ps :: l) := hW ▸ hs1.drewN k
  have hr2 : RdI W u p.data := hW ▸ hr1
  have hsz : w.heap.size ≤ W.heap.size := by rw [← hW]; simp
  clear hW hs1 hr1
  obtain ⟨⟨o1, o2, o3⟩, v, hs3⟩ := QRep.open.1 hs2.p1
  obtain ⟨a, cap, rfl, _, _⟩ := PkQ.val hs3.p1
  have c0 := hs3.cell
  have f0 := hs3.free
  have c1 := hs3.p2.cell
  go_wp2
  go_region_law (first | (refine step_tag 1 (by decide) ?_; refine step_app_pkt rfl _ _ rfl ((h2.alloc _).p3.p1) (by kernel_rfl) (by kernel_rfl) (by omega) ?_; intro v2 w2 h4 h5; obtain ⟨a2, cap2, rfl, _, _⟩ := PkQ.val h4; have c0 := h4.p1.cell; have f0 := h4.p1.free) | (refine step_tag (100 + 79) (by decide) ?_; go_simp; refine (qown_ok p u hr2.drew (by omega) hs3.drew).mono ?_; rintro e w1 ⟨v', rfl, h2, h3⟩; obtain ⟨a', cap', rfl, _, _⟩ := Ints.val h2; have c0 := h2.p1.cell; have f0 := h2.p1.free; have l0 := h2.p1.lt))
  all_goals
    go_wp2
    go_ret
    refine ⟨rfl, QRep.open.2 ⟨⟨o1, by simp; omega, ?_⟩, _, by simpa using (h4.p1.set 0 (.slice a2 (ps.length + 1) cap2)).d2⟩, by (try simp at h3 h5 ⊢); omega⟩
    intro x hx
    rcases List.mem_append.1 hx with h | h
    · exact o3 x h
    · simp at h; subst h; exact hb
end Go.Proofs.Ytaekiecidbhjhaa
