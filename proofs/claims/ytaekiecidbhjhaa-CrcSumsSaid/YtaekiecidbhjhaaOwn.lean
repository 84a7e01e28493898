/- queue.own, pool.own: a packet in new memory. -/
import Derived.Test.YtaekiecidbhjhaaPkt
namespace Go.Proofs.Ytaekiecidbhjhaa
open Go.RowKit

set_option maxHeartbeats 400000 in
theorem qown_ok {w : World} {l : List HProp} (p : Pkt) (v : Value) (hr : RdI w v p.data) (hb : p.data.length * 8 ≤ 140737488355328) (hs : Sat w l) :
    Calls Try.prog 79 #[p.val v] w fun e w' => ∃ v', e = .returned (p.val v') ∧ Sat w' (Ints v' p.data :: l) ∧ w.heap.size ≤ w'.heap.size := by
  have h1 := (hs.alloc (.cells (p.cells v).toArray 43)).alloc (.cells (Pkt.zero.cells VNil).toArray 43)
  have hr1 : RdI ((w.alloc (.cells (p.cells v).toArray 43)).alloc (.cells (Pkt.zero.cells VNil).toArray 43)) v p.data := (Rd.alloc hr _).alloc _
  go_enter Try.func79, Try.ntmps79
  go_wp2_with fail
  refine (clone_ok hr1 hb h1).mono ?_
  rintro e w1 ⟨v', rfl, h2, h3⟩
  obtain ⟨a', cap', rfl, _, _⟩ := (Ints.rd h2).val
  simp only [World.size_alloc] at h2 h3
  have c0 := h2.p2.cell
  have f0 := h2.p2.free
  have c1 := h2.p1.cell
  have f1 := h2.p1.free
  go_wp2
  have h4 := (((((((((h2.p2.set 8 (.slice a' p.data.length cap')).p2.set 0 (VI p.kind)).set 1 (VI p.src)).set 2 (VI p.dst)).set 3 (VI p.id)).set 4 (VI p.line)).set 5 (VI p.ptr)).set 6 (VI p.state)).set 7 (VB p.flag)).set 8 (.slice a' p.data.length cap')
  refine ret_struct rfl rfl h4 und_pkt size_pkt rfl ⟨_, rfl, h4.tail.tail, by simp; omega⟩
end Go.Proofs.Ytaekiecidbhjhaa
