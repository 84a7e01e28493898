/- queue.Queue: All. -/
import Derived.Test.YtaekiecidbhjhaaQueue2
import Derived.Test.YtaekiecidbhjhaaAll
namespace Go.Proofs.Ytaekiecidbhjhaa
open Go.RowKit

set_option maxRecDepth 100000 in
set_option maxHeartbeats 1000000 in
theorem qall_ok {w : World} {l : List HProp} {q : Nat} {room : Int} {ps : List Pkt} (hs : Sat w (QRep q room ps :: l)) :
    Calls Try.prog 27 #[VP q 0] w fun e w' => ∃ v, e = .returned v ∧ Sat w' (PkQ v ps :: QRep q room ps :: l) ∧ w.heap.size ≤ w'.heap.size := by
  obtain ⟨⟨o1, o2, o3⟩, v, h4⟩ := QRep.open.1 hs
  have hval := PkQ.val h4.p1
  obtain ⟨a, cap, hv, hc1, hc2⟩ := hval
  have c0 := h4.cell
  rw [hv] at c0
  have Hv := Lib.hid hv
  have Ho2 := Lib.hid o2
  have hlen : (ps.length : Int) ≤ 1000 := by omega
  clear hs hv o2
  generalize hn : ps.length = n at *
  have Hn := Lib.hid hn
  clear hn
  go_enter Try.func27, Try.ntmps27
  go_wp2
  clear c0
  go_loopw [3, 11] (fun x t wr => ∃ (k : Nat) (u : Value), k ≤ n ∧ t = VI k ∧ x = u ∧ Sat wr (PkQ u (ps.take k) :: cel q 112 [v, VI room] :: PkQ v ps :: l) ∧ w.heap.size ≤ wr.heap.size) (fun _ t _ => n - (intOf t).toNat)
  case atStart => exact ⟨0, _, Nat.zero_le _, rfl, rfl, PkQ.nil h4, Nat.le_refl _⟩
  case round wr =>
    obtain ⟨k, u, hk, rfl, rfl, hsr, hsz⟩ := hrel
    clear h4
    obtain ⟨a2, cap2, rfl, _, _⟩ := PkQ.val hsr
    by_cases hlt : k < n
    · obtain ⟨p, hp⟩ : ∃ p, ps[k]? = some p := ⟨ps[k]'(by rw [Hn.out]; exact hlt), by simp [Hn.out, hlt]⟩
      obtain ⟨b1, f1, c1, u1, e1, r1, p0, p1, p2, p3, p4, p5, p6, p7, p8⟩ := PkQ.cells hsr.p2 k p hp
      have l1 := World.block_lt_of_cell? _ _ p0
      obtain ⟨d1, d2, rfl, _, _⟩ := r1.val
      rw [Hv.out, Value.slice.injEq] at e1
      obtain ⟨rfl, z1, rfl⟩ := e1
      have hbp := o3 p (List.mem_of_getElem? hp)
      have hlk : (ps.take k).length = k := by simp [Hn.out]; omega
      have hs5 := hsr.alloc (.cells (p.cells (.slice d1 p.data.length d2)).toArray 43)
      have hr5 : RdI (wr.alloc (.cells (p.cells (.slice d1 p.data.length d2)).toArray 43)) _ p.data := Rd.alloc r1 _
      have Hp := Lib.hid hp
      rw [hlk]
      have Hlk := Lib.hid hlk
      clear hp z1 hlk r1
      go_wp2_with fail
      refine (qown_ok p _ hr5 (by omega) hs5).mono ?_
      rintro e w2 ⟨u2, rfl, h6, h7⟩
      obtain ⟨a3, cap3, rfl, _, _⟩ := Ints.val h6
      go_wp2_with (at_builtin; refine wpList_app_pkt rfl _ _ rfl ((h6.alloc _).p3.p1) ?_ ?_ ?_ ?_)
      · rw [Hlk.out]; rfl
      · rfl
      · rw [Hlk.out]; omega
      intro v3 w3 h8 h9
      go_wp2
      go_roundw
      case rel =>
        refine ⟨k + 1, v3, by omega, by go_num, rfl, ?_, by simp at h7; omega⟩
        have e : ps.take (k + 1) = ps.take k ++ [p] := by rw [List.take_add_one, Hp.out]; rfl
        rw [e]
        exact h8.d1
      case measure => simp [intOf]; omega
    · have hkn : k = n := by omega
      have Hkn := Lib.hid hkn
      clear hkn
      go_wp2
      go_ret
      have e : ps.take k = ps := by rw [Hkn.out, ← Hn.out]; exact List.take_length
      have hok : QOk room ps := ⟨o1, by rw [Hn.out]; exact Ho2.out, o3⟩
      have h9 : Sat wr (PkQ (.slice a2 (ps.take k).length cap2) ps :: QRep q room ps :: l) := by
        rw [e] at hsr ⊢
        exact Sat.p1 (QRep.open.2 ⟨hok, v, hsr.p2.p2⟩)
      exact ⟨_, rfl, h9, hsz⟩
end Go.Proofs.Ytaekiecidbhjhaa
