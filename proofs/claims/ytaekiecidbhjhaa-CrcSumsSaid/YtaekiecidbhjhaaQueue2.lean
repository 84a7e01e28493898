/- queue.Queue: Peek, Take, All. -/
import Derived.Test.YtaekiecidbhjhaaDel
namespace Go.Proofs.Ytaekiecidbhjhaa
open Go.RowKit

/-- The cells of packet i, as the walk reads them. -/
theorem PkQ.cells {w : World} {l : List HProp} {v : Value} {ps : List Pkt} (hs : Sat w (PkQ v ps :: l)) (i : Nat) (p : Pkt) (hi : ps[i]? = some p) :
    ∃ b off cap u, v = .slice (some ⟨b, off, none⟩) ps.length cap ∧ RdI w u p.data ∧
      w.cell? ⟨b, off + i * 9, none⟩ = some (VI p.kind) ∧ w.cell? ⟨b, off + i * 9 + 1, none⟩ = some (VI p.src) ∧ w.cell? ⟨b, off + i * 9 + 2, none⟩ = some (VI p.dst) ∧
      w.cell? ⟨b, off + i * 9 + 3, none⟩ = some (VI p.id) ∧ w.cell? ⟨b, off + i * 9 + 4, none⟩ = some (VI p.line) ∧ w.cell? ⟨b, off + i * 9 + 5, none⟩ = some (VI p.ptr) ∧
      w.cell? ⟨b, off + i * 9 + 6, none⟩ = some (VI p.state) ∧ w.cell? ⟨b, off + i * 9 + 7, none⟩ = some (VB p.flag) ∧ w.cell? ⟨b, off + i * 9 + 8, none⟩ = some u := by
  obtain ⟨b, off, cap, u, h1, h2, h3⟩ := PkQ.get hs i p hi
  exact ⟨b, off, cap, u, h1, h3, h2 0 _ rfl, h2 1 _ rfl, h2 2 _ rfl, h2 3 _ rfl, h2 4 _ rfl, h2 5 _ rfl, h2 6 _ rfl, h2 7 _ rfl, h2 8 _ rfl⟩

/-- Stores of a whole packet into a block. -/
def setPkt (w : World) (g : Nat) (p : Pkt) (u : Value) : World :=
  ((((((((w.setCell ⟨g, 0, none⟩ (VI p.kind)).setCell ⟨g, 1, none⟩ (VI p.src)).setCell ⟨g, 2, none⟩ (VI p.dst)).setCell ⟨g, 3, none⟩ (VI p.id)).setCell ⟨g, 4, none⟩ (VI p.line)).setCell ⟨g, 5, none⟩ (VI p.ptr)).setCell ⟨g, 6, none⟩ (VI p.state)).setCell ⟨g, 7, none⟩ (VB p.flag)).setCell ⟨g, 8, none⟩ u
theorem Sat.setPkt {w : World} {g : Nat} {p q : Pkt} {u v : Value} {l : List HProp} (hs : Sat w (cel g 43 (q.cells v) :: l)) : Sat (setPkt w g p u) (cel g 43 (p.cells u) :: l) :=
  ((((((((hs.set 0 _).set 1 _).set 2 _).set 3 _).set 4 _).set 5 _).set 6 _).set 7 _).set 8 _

set_option maxHeartbeats 400000 in
theorem qpeek_none {w : World} {l : List HProp} {q : Nat} {room : Int} (hs : Sat w (QRep q room [] :: l)) :
    Calls Try.prog 21 #[VP q 0] w fun e w' => e = .returned (.tuple #[Pkt.zero.val VNil, VB false]) ∧ Sat w' (QRep q room [] :: l) ∧ w.heap.size ≤ w'.heap.size := by
  obtain ⟨ho, v, h4⟩ := QRep.open.1 hs
  obtain ⟨a, cap, rfl, _, _⟩ := (PkQ.val h4.p1)
  have c0 := h4.cell
  have l0 := h4.lt
  have h5 := hs.alloc (.cells (Pkt.zero.cells VNil).toArray 43)
  clear h4 hs
  go_enter Try.func21, Try.ntmps21
  go_wp2
  exact ret_struct2 rfl rfl rfl h5 und_pkt size_pkt rfl ⟨rfl, h5.tail, by simp⟩

set_option maxHeartbeats 400000 in
theorem qpeek_some {w : World} {l : List HProp} {q : Nat} {room : Int} {p : Pkt} {ps : List Pkt} (hs : Sat w (QRep q room (p :: ps) :: l)) :
    Calls Try.prog 21 #[VP q 0] w fun e w' => ∃ u, e = .returned (.tuple #[p.val u, VB true]) ∧ Sat w' (Ints u p.data :: QRep q room (p :: ps) :: l) ∧ w.heap.size ≤ w'.heap.size := by
  obtain ⟨⟨o1, o2, o3⟩, v, h4⟩ := QRep.open.1 hs
  obtain ⟨b, off, cap, u, rfl, hr, e0, e1, e2, e3, e4, e5, e6, e7, e8⟩ := PkQ.cells h4.p1 0 p rfl
  simp only [Nat.zero_mul, Nat.add_zero] at e0 e1 e2 e3 e4 e5 e6 e7 e8
  have c0 := h4.cell
  have l0 := h4.lt
  have l1 := World.block_lt_of_cell? _ _ e0
  have hlen : (p :: ps).length = ps.length + 1 := rfl
  have hb := o3 p List.mem_cons_self
  simp only [hlen] at c0
  have h5 := hs.alloc (.cells (Pkt.zero.cells VNil).toArray 43)
  have hr5 : RdI (w.alloc (.cells (Pkt.zero.cells VNil).toArray 43)) u p.data := Rd.alloc hr _
  clear h4 hs o3 o2 hlen
  go_enter Try.func21, Try.ntmps21
  go_wp2_with fail
  refine (qown_ok p u hr5 (by omega) h5).mono ?_
  rintro e w1 ⟨u', rfl, h6, h7⟩
  obtain ⟨a', cap', rfl, _, _⟩ := Ints.val h6
  have f1 := h6.p1.free
  have c1 := h6.p1.cell
  go_wp2
  have h8 := Sat.setPkt (p := p) (u := .slice a' p.data.length cap') h6.p1
  exact ret_struct2 rfl rfl rfl h8 und_pkt size_pkt rfl ⟨_, rfl, h8.tail, by simp [setPkt] at h7 ⊢; omega⟩

set_option maxHeartbeats 400000 in
theorem qtake_none {w : World} {l : List HProp} {q : Nat} {room : Int} (hs : Sat w (QRep q room [] :: l)) :
    Calls Try.prog 23 #[VP q 0] w fun e w' => e = .returned (.tuple #[Pkt.zero.val VNil, VB false]) ∧ Sat w' (QRep q room [] :: l) ∧ w.heap.size ≤ w'.heap.size := by
  have h5 := (hs.alloc (.cells (Pkt.zero.cells VNil).toArray 43)).p1
  go_enter Try.func23, Try.ntmps23
  go_wp2_with fail
  refine (qpeek_none h5).mono ?_
  rintro e w1 ⟨rfl, h6, h7⟩
  have c1 := h6.p1.cell
  have f1 := h6.p1.free
  have l1 := h6.p1.lt
  have h8 := h6.alloc (.cells (Pkt.zero.cells VNil).toArray 43)
  go_wp2
  have h9 := (Sat.setPkt (p := Pkt.zero) (u := VNil) h6.p1).skip (.cells (Pkt.zero.cells VNil).toArray 43)
  exact ret_struct2 rfl rfl rfl h9 und_pkt size_pkt rfl ⟨rfl, h9.tail, by simp [setPkt] at h7 ⊢; omega⟩

theorem pkOne : ∀ (ps : List Pkt) (vs : List Value) {w : World} {l : List HProp}, vs.length = ps.length → Sat w (pkData ps vs ++ l) → ∀ u ∈ pkCells ps vs, u.oneCell' = true
  | p :: ps, v :: vs, w, l, h, hs, u, hu => by
    rcases List.mem_append.1 hu with h1 | h1
    · exact Ints.one (l := pkData ps vs ++ l) hs p u h1
    · exact pkOne ps vs (by simpa using h) (Sat.tail hs) u h1
  | [], [], _, _, _, _, u, hu => by cases hu
  | [], _ :: _, _, _, h, _, _, _ => by simp at h
  | _ :: _, [], _, _, h, _, _, _ => by simp at h

/-- The first one goes. -/
theorem del_first {w : World} {l : List HProp} {v : Value} {p : Pkt} {ps : List Pkt} (hs : Sat w (PkQ v (p :: ps) :: l)) (hn : ps.length < 1000) :
    Calls Try.prog 80 #[v, VI 0, VI 1] w fun e w' => ∃ v', e = .returned v' ∧ Sat w' (PkQ v' ps :: l) ∧ w.heap.size ≤ w'.heap.size := by
  obtain ⟨vs, h1, h2⟩ := PkQ.open.1 hs
  obtain ⟨v0, vs, rfl⟩ : ∃ a b, vs = a :: b := by
    cases vs with
    | nil => simp at h1
    | cons a b => exact ⟨a, b, rfl⟩
  have h3 := del_ok h2 0 (by simp) (by simp; omega) (pkOne _ _ h1 h2.tail)
  refine h3.mono ?_
  rintro e w' ⟨v', rfl, h4, h5⟩
  refine ⟨v', rfl, PkQ.open.2 ⟨vs, by simpa using h1, ?_⟩, h5⟩
  have e1 : List.take (0 * 9) (pkCells (p :: ps) (v0 :: vs)) ++ List.drop ((0 + 1) * 9) (pkCells (p :: ps) (v0 :: vs)) = pkCells ps vs := by
    simp [pkCells, Pkt.cells]
  rw [e1] at h4
  exact (Sat.p1 h4).tail

set_option maxHeartbeats 400000 in
theorem qtake_some {w : World} {l : List HProp} {q : Nat} {room : Int} {p : Pkt} {ps : List Pkt} (hs : Sat w (QRep q room (p :: ps) :: l)) :
    Calls Try.prog 23 #[VP q 0] w fun e w' => ∃ u, e = .returned (.tuple #[p.val u, VB true]) ∧ Sat w' (Ints u p.data :: QRep q room ps :: l) ∧ w.heap.size ≤ w'.heap.size := by
  have h5 := (hs.alloc (.cells (Pkt.zero.cells VNil).toArray 43)).p1
  go_enter Try.func23, Try.ntmps23
  go_wp2_with fail
  refine (qpeek_some h5).mono ?_
  rintro e w1 ⟨u, rfl, h6, h7⟩
  obtain ⟨a', cap', rfl, _, _⟩ := Ints.val h6
  have h8 := (h6.alloc (.cells (p.cells (.slice a' p.data.length cap')).toArray 43)).p2
  obtain ⟨⟨o1, o2, o3⟩, v, h9⟩ := QRep.open.1 h8
  obtain ⟨a, cap, rfl, _, _⟩ := PkQ.val h9.p1
  have c0 := h9.cell
  have l0 := h9.lt
  go_wp2_with fail
  refine (del_first h9.p1 (by simp at o2; omega)).mono ?_
  rintro e w2 ⟨v2, rfl, h10, h11⟩
  obtain ⟨a2, cap2, rfl, _, _⟩ := PkQ.val h10
  have c0 := h10.p1.cell
  have f0 := h10.p1.free
  have c1 := h10.p2.cell
  have c2 := h10.p4.cell
  have f2 := h10.p4.free
  have n1 := Sat.ne h10.tail
  have n2 := Ne.symm (Sat.ne h10.tail.p3)
  go_wp2
  have h12 := (h10.p1.set 0 (.slice a2 ps.length cap2))
  have h13 := Sat.setPkt (p := p) (u := .slice a' p.data.length cap') h12.p4
  refine ret_struct2 rfl rfl rfl h13 und_pkt size_pkt rfl ⟨_, rfl, ?_, by simp [setPkt] at h7 h11 ⊢; omega⟩
  exact Sat.p1 (QRep.open.2 ⟨⟨o1, by simp at o2; omega, fun x hx => o3 x (List.mem_cons_of_mem _ hx)⟩, _, h13.tail.d2⟩)
end Go.Proofs.Ytaekiecidbhjhaa
