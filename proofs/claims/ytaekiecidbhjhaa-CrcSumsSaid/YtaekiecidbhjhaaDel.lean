/- slices.Delete at packets: the one at a place goes. -/
import Derived.Test.YtaekiecidbhjhaaQueue
namespace Go.Proofs.Ytaekiecidbhjhaa
open Go.RowKit

theorem one_zero_pkt : ∀ i z, Try.prog.info? 43 = some i → i.zero = some z → ∀ u ∈ z.cells.toList, u.oneCell' = true := by
  intro i z hi hz
  have h : (Try.prog.info? 43).map (fun i => i.zero) = some (some (.agg #[VI 0, VI 0, VI 0, VI 0, VI 0, VI 0, VI 0, VB false, VNil])) := by kernel_rfl
  rw [hi] at h
  simp [hz] at h
  subst h
  intro u hu
  simp [Value.cells] at hu
  rcases hu with rfl | rfl | rfl <;> rfl

set_option maxRecDepth 100000 in
set_option maxHeartbeats 1000000 in
theorem del_ok {w : World} {l : List HProp} {v : Value} {n : Nat} {xs : List Value} (hs : Sat w (Sl 43 9 v n xs :: l)) (i : Nat) (hi : i < n) (hn : n ≤ 1000) (hx : ∀ u ∈ xs, u.oneCell' = true) :
    Calls Try.prog 80 #[v, VI i, VI (i + 1)] w fun e w' => ∃ v', e = .returned v' ∧ Sat w' (Sl 43 9 v' (n - 1) (xs.take (i * 9) ++ xs.drop ((i + 1) * 9)) :: l) ∧ w.heap.size ≤ w'.heap.size := by
  rcases Sl.cases hs with ⟨_, e, _⟩ | ⟨b, pre, suf, cap, rfl, e2, e3, e4, e5, hs1⟩
  · omega
  have g1 : (0 : Int) ≤ (i : Int) := by omega
  have g2 : (i : Int) < (n : Int) := by omega
  have g3 : (n : Int) ≤ 1000 := by omega
  have g4 : (n : Int) ≤ (cap : Int) := by omega
  have ne : ((i : Int) == (i : Int) + 1) = false := by simp; omega
  unfold maxLen at e4
  go_enter Try.func80, Try.ntmps80
  go_wp2
  have hA : Sat w (Sl 43 9 (.slice (some ⟨b, pre.length, none⟩) i cap) i (xs.take (i * 9)) :: l) := by
    have h1 : Sat w (cel b 43 (pre ++ xs.take (i * 9) ++ (xs.drop (i * 9) ++ suf)) :: l) := by
      rw [List.append_assoc, ← List.append_assoc (xs.take (i * 9)), List.take_append_drop, ← List.append_assoc]; exact hs1
    exact Sl.mk h1 (by simp; omega) (by omega) (by unfold maxLen; omega) (by simp; omega)
  have hB : ∀ ad c, (ad = ⟨b, pre.length + (i + 1) * 9, none⟩ ∨ n = i + 1) → n - (i + 1) ≤ c → c ≤ maxLen → Rd w 9 (.slice (some ad) (n - (i + 1)) c) (n - (i + 1)) (xs.drop ((i + 1) * 9)) := by
    intro ad c had h1 h2
    refine ⟨_, c, rfl, by simp; omega, h1, h2, (fun h => by cases h), fun ad' e j u hu => ?_⟩
    cases e
    have hj : j < (xs.drop ((i + 1) * 9)).length := (List.getElem?_eq_some_iff.1 hu).1
    simp at hj
    rcases had with rfl | e
    · rw [addr_add, hs1.cell]
      rw [List.getElem?_drop] at hu
      rw [show pre.length + (i + 1) * 9 + j = pre.length + ((i + 1) * 9 + j) by omega]
      exact mid_get hu
    · omega
  have hone : ∀ u ∈ xs.drop ((i + 1) * 9), u.oneCell' = true := fun u hu => hx u (List.mem_of_mem_drop hu)
  have g9 : (0 : Int) ≤ (i : Int) + 1 := by omega
  by_cases hcap : cap = i + 1
  · obtain rfl : n = i + 1 := by omega
    subst hcap
    have g6 : (i : Int) ≤ (i : Int) + 1 := by omega
    have hC : Rd w 9 (.slice (some ⟨b, pre.length, none⟩) 0 0) 0 [] := ⟨_, 0, rfl, rfl, Nat.le_refl _, by simp [maxLen], (fun _ => rfl), fun _ _ _ _ h => by simp at h⟩
    go_region_law (refine step_append_sl rfl _ _ _ _ _ _ ty_pkts rfl hA.drew hC.drew (by kernel_rfl) (by kernel_rfl) (by simp) (by omega) ?_; intro v' w' r1 r2 r3; obtain rfl := r3 _ _ rfl (by omega))
    simp only [Nat.add_zero] at r1
    go_wp2
    obtain ⟨w2, hrun, r4, r5⟩ := run_clear_sl (P := Try.prog) (ty := 0) (k := 1) (cap2 := 1) ty_pkts one_zero_pkt r1 (by omega) (by omega)
    rw [hrun]
    go_wp2
    go_ret
    rw [List.drop_eq_nil_of_le (show xs.length ≤ (i + 1) * 9 by omega), Nat.add_sub_cancel]
    exact ⟨_, rfl, r4, by simp at r2; omega⟩
  · obtain ⟨m, rfl⟩ : ∃ m, n = i + 1 + m := ⟨n - (i + 1), by omega⟩
    have g5 : ¬ ((cap : Int) = (i : Int) + 1) := by omega
    have g6 : i ≤ cap := by omega
    have g7 : (i : Int) + 1 ≤ (i : Int) + 1 + (m : Int) := by omega
    have g8 : ¬ (cap = i + 1) := hcap
    have hB1 := hB ⟨b, pre.length + (i + 1) * 9, none⟩ (cap - (i + 1)) (Or.inl rfl) (by omega) (by unfold maxLen; omega)
    rw [show i + 1 + m - (i + 1) = m by omega] at hB1
    clear hB
    go_region_law (refine step_append_sl rfl _ _ _ _ _ _ ty_pkts rfl hA.drew hB1.drew (by kernel_rfl) (by kernel_rfl) hone (by omega) ?_; intro v' w' r1 r2 r3; obtain rfl := r3 _ _ rfl (by omega))
    go_wp2
    obtain ⟨w2, hrun, r4, r5⟩ := run_clear_sl (P := Try.prog) (ty := 0) (k := i + 1 + m - (i + m)) (cap2 := cap - (i + m)) ty_pkts one_zero_pkt r1 (by omega) (by omega)
    rw [hrun]
    go_wp2
    go_ret
    have e : i + 1 + m - 1 = i + m := by omega
    rw [e]
    exact ⟨_, rfl, r4, by simp at r2; omega⟩
end Go.Proofs.Ytaekiecidbhjhaa
