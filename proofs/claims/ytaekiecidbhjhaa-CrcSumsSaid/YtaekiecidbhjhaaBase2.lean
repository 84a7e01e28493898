/- chapletkeep.Within; stores into a slice that is ours; packets in a slice that share one data slice. -/
import Derived.Test.YtaekiecidbhjhaaAll
namespace Go.Proofs.Ytaekiecidbhjhaa
open Go.RowKit

/-- A number as one from 0 to n - 1. -/
def within (v n : Int) : Int := if n < 1 then 0 else v % n
theorem within_lo (v n : Int) : 0 ≤ within v n := by
  unfold within
  split
  · omega
  · exact Int.emod_nonneg _ (by omega)
theorem within_hi (v n : Int) (h : 1 ≤ n) : within v n < n := by
  unfold within
  rw [if_neg (by omega)]
  exact Int.emod_lt_of_pos _ (by omega)

theorem tmod_lo (v n : Int) (h : 1 ≤ n) : -n < v.tmod n ∧ v.tmod n < n := by
  have := Int.tmod_lt_of_pos v (show 0 < n by omega)
  have h2 := Int.lt_tmod_of_pos v (show 0 < n by omega)
  omega
theorem emod_of_tmod (v n : Int) (h : 1 ≤ n) : v % n = if v.tmod n < 0 then v.tmod n + n else v.tmod n := by
  have h1 := Int.emod_nonneg v (show n ≠ 0 by omega)
  have h2 := Int.emod_lt_of_pos v (show 0 < n by omega)
  have h3 := tmod_lo v n h
  have e1 := Int.mul_ediv_add_emod v n
  have e2 := Int.mul_tdiv_add_tmod v n
  have key : ∀ a : Int, 0 ≤ a → a < n → n ∣ (v % n - a) → v % n = a := by
    intro a ha hb ⟨c, hc⟩
    have : c = 0 := by
      rcases Int.lt_trichotomy c 0 with h | h | h
      · have : n * c ≤ n * (-1) := Int.mul_le_mul_of_nonneg_left (by omega) (by omega)
        omega
      · exact h
      · have : n * 1 ≤ n * c := Int.mul_le_mul_of_nonneg_left (by omega) (by omega)
        omega
    subst this
    omega
  split
  · refine key _ (by omega) (by omega) ⟨v.tdiv n - v / n - 1, ?_⟩
    have : n * (v.tdiv n - v / n - 1) = n * v.tdiv n - n * (v / n) - n := by simp [Int.mul_sub]
    omega
  · refine key _ (by omega) (by omega) ⟨v.tdiv n - v / n, ?_⟩
    have : n * (v.tdiv n - v / n) = n * v.tdiv n - n * (v / n) := by simp [Int.mul_sub]
    omega

set_option maxRecDepth 100000 in
set_option maxHeartbeats 1000000 in
theorem within_pos {w : World} (v n : Int) (h : 1 ≤ n) (hn : n ≤ 4611686018427387904) : Calls Try.prog 17 #[VI v, VI n] w fun e w' => e = .returned (VI (within v n)) ∧ w = w' := by
  have h3 := tmod_lo v n h
  have e := emod_of_tmod v n h
  have ew : within v n = v % n := by unfold within; rw [if_neg (by omega)]
  rw [ew, e]
  clear e ew
  have g0 : (n == 0) = false := by simp; omega
  have g1 : ¬ n = 0 := by omega
  have gw : IntKind.i64.wrap (v.tmod n) = v.tmod n := IntWalk.i64_in _ (by omega)
  generalize hr : v.tmod n = r at *
  have Hr := Lib.hid hr
  by_cases hneg : r < 0
  · rw [if_pos hneg]
    go_enter Try.func17, Try.ntmps17
    go_wp2
    go_ret
    exact ⟨rfl, rfl⟩
  · rw [if_neg hneg]
    go_enter Try.func17, Try.ntmps17
    go_wp2
    go_ret
    exact ⟨rfl, rfl⟩

set_option maxHeartbeats 1000000 in
theorem within_ok {w : World} (v n : Int) (hn : n ≤ 4611686018427387904) : Calls Try.prog 17 #[VI v, VI n] w fun e w' => e = .returned (VI (within v n)) ∧ w = w' := by
  by_cases h : 1 ≤ n
  · exact within_pos v n h hn
  have ew : within v n = 0 := by unfold within; rw [if_pos (by omega)]
  rw [ew]
  clear ew
  have h2 : n < 1 := by omega
  clear h
  go_enter Try.func17, Try.ntmps17
  go_wp2
  go_ret
  exact ⟨rfl, rfl⟩

/-- An element of a slice that is ours. -/
theorem Sl.at {T : TypeId} {sz : Nat} {w : World} {l : List HProp} {b off n cap : Nat} {xs : List Value} (hs : Sat w (Sl T sz (.slice (some ⟨b, off, none⟩) n cap) n xs :: l)) (j : Nat) (hj : j < xs.length) :
    w.cell? ⟨b, off + j, none⟩ = xs[j]? ∧ w.frozen? ⟨b, off + j, none⟩ = false := by
  rcases Sl.cases hs with ⟨e1, _⟩ | ⟨b', pre, suf, cap', e1, e2, e3, e4, e5, hs1⟩
  · cases e1
  cases e1
  refine ⟨?_, hs1.free _⟩
  rw [hs1.cell]
  have : xs[j]? = some xs[j] := by simp [hj]
  rw [this]; exact mid_get this
/-- A store into a slice that is ours. -/
theorem Sl.set {T : TypeId} {sz : Nat} {w : World} {l : List HProp} {b off n cap : Nat} {xs : List Value} (hs : Sat w (Sl T sz (.slice (some ⟨b, off, none⟩) n cap) n xs :: l)) (j : Nat) (hj : j < xs.length) (u : Value) :
    Sat (w.setCell ⟨b, off + j, none⟩ u) (Sl T sz (.slice (some ⟨b, off, none⟩) n cap) n (xs.set j u) :: l) := by
  rcases Sl.cases hs with ⟨e1, _⟩ | ⟨b', pre, suf, cap', e1, e2, e3, e4, e5, hs1⟩
  · cases e1
  cases e1
  have h := hs1.set (pre.length + j) u
  have e : (pre ++ xs ++ suf).set (pre.length + j) u = pre ++ xs.set j u ++ suf := by
    rw [List.append_assoc, List.set_append_right _ _ (by omega), Nat.add_sub_cancel_left, List.set_append_left _ _ hj, List.append_assoc]
  rw [e] at h
  exact Sl.mk h (by simpa using e2) e3 e4 (by simpa using e5)
theorem Ints.set {w : World} {l : List HProp} {b off cap : Nat} {xs : List Int} {n : Nat} (hn : xs.length = n) (hs : Sat w (Ints (.slice (some ⟨b, off, none⟩) n cap) xs :: l)) (j : Nat) (hj : j < n) (u : Int) :
    Sat (w.setCell ⟨b, off + j, none⟩ (VI u)) (Ints (.slice (some ⟨b, off, none⟩) n cap) (xs.set j u) :: l) := by
  subst hn
  unfold Ints at hs ⊢
  have h := Sl.set hs j (by simpa using hj) (VI u)
  simpa using h
theorem Ints.at {w : World} {l : List HProp} {b off cap : Nat} {xs : List Int} {n : Nat} (hn : xs.length = n) (hs : Sat w (Ints (.slice (some ⟨b, off, none⟩) n cap) xs :: l)) (j : Nat) (hj : j < n) :
    w.cell? ⟨b, off + j, none⟩ = some (VI (xs.getD j 0)) ∧ w.frozen? ⟨b, off + j, none⟩ = false := by
  subst hn
  have h := Sl.at hs j (by simpa using hj)
  refine ⟨h.1.trans ?_, h.2⟩
  simp [hj]

/-- Packets in a slice that is ours; their data, one slice of somebody else's. -/
def PkR (v d : Value) (ps : List Pkt) : HProp := Sl 43 9 v ps.length (pkCells ps (List.replicate ps.length d))
theorem PkR.rd {w : World} {l : List HProp} {v d : Value} {ps : List Pkt} {data : List Int} (hs : Sat w (PkR v d ps :: l)) (hd : RdI w d data) (h : ∀ p ∈ ps, p.data = data) : RdPk w v ps :=
  ⟨List.replicate ps.length d, by simp, Sl.rd hs, fun i p u hp hu => by
    rw [List.getElem?_replicate] at hu
    split at hu
    · cases hu; rw [h p (List.mem_of_getElem? hp)]; exact hd
    · cases hu⟩
theorem PkR.val {w : World} {l : List HProp} {v d : Value} {ps : List Pkt} (hs : Sat w (PkR v d ps :: l)) : ∃ a cap, v = .slice a ps.length cap ∧ ps.length ≤ cap ∧ cap ≤ maxLen := (Sl.rd hs).val
end Go.Proofs.Ytaekiecidbhjhaa
