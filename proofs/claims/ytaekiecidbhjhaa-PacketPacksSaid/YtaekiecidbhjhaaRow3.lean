/- The row's side: packets among the arguments. -/
import Derived.Test.YtaekiecidbhjhaaRow2
import Derived.Test.YtaekiecidbhjhaaPkt
namespace Go.Proofs.Ytaekiecidbhjhaa
open Go.ChangeShapes Go.WideShapes Go.ChangeAt Go.RowKit

section
variable {H : Type} {enc : TypeId × Value → H} {W : World}
theorem got_b {P : Program} {t : TypeId} (ht : P.underlying t = some .bool) {fuel : Nat} {c : Value} {d : DataW H} {p : List MemPlace} (h : DataW.trod enc P W 0 (fun _ => true) true fuel t [c] = some (d, p)) : ∃ b, c = VB b := by
  cases fuel with
  | zero => simp [DataW.trod] at h
  | succ n =>
    unfold DataW.trod at h
    rw [ht] at h
    split at h <;> simp_all
set_option maxRecDepth 100000 in
theorem got_pkt {fuel : Nat} {v : Value} {base : Nat} (hv : Value.okWide Try.prog W .any base 43 v) {d : DataW H} {p : List MemPlace} (h : DataW.trod enc Try.prog W 0 (fun _ => true) true fuel 43 v.cells.toList = some (d, p)) (hsz : ∀ n ∈ d.weights Try.prog 43, n ≤ reachBytes) :
    ∃ (s : Pkt) (v1 : Value), v = s.val v1 ∧ RdI W v1 s.data ∧ s.data.length * 8 ≤ 140737488351232 := by
  obtain ⟨A, rfl, hA⟩ := okWide_struct Try.underlying43 hv
  obtain ⟨hl, n, hf⟩ := got_struct Try.underlying43 h hsz
  have hc : Try.prog.cellsOf 43 = 9 := by kernel_rfl
  have hi : Try.prog.cellsOf 3 = 1 := by kernel_rfl
  have hbo : Try.prog.cellsOf 4 = 1 := by kernel_rfl
  have his : Try.prog.cellsOf 22 = 1 := by kernel_rfl
  rw [hc] at hl
  obtain ⟨A⟩ := A
  simp only [Value.cells] at hl hf
  match A, hl with
  | [c0, c1, c2, c3, c4, c5, c6, c7, c8], _ =>
    obtain ⟨_, _, g0, _⟩ := hf 0 3 0 rfl
    obtain ⟨_, _, g1, _⟩ := hf 1 3 1 rfl
    obtain ⟨_, _, g2, _⟩ := hf 2 3 2 rfl
    obtain ⟨_, _, g3, _⟩ := hf 3 3 3 rfl
    obtain ⟨_, _, g4, _⟩ := hf 4 3 4 rfl
    obtain ⟨_, _, g5, _⟩ := hf 5 3 5 rfl
    obtain ⟨_, _, g6, _⟩ := hf 6 3 6 rfl
    obtain ⟨_, _, g7, _⟩ := hf 7 4 7 rfl
    obtain ⟨_, _, g8, z8⟩ := hf 8 22 8 rfl
    rw [hi] at g0 g1 g2 g3 g4 g5 g6
    rw [hbo] at g7
    rw [his] at g8
    obtain ⟨n0, rfl, _⟩ := got_i g0
    obtain ⟨n1, rfl, _⟩ := got_i g1
    obtain ⟨n2, rfl, _⟩ := got_i g2
    obtain ⟨n3, rfl, _⟩ := got_i g3
    obtain ⟨n4, rfl, _⟩ := got_i g4
    obtain ⟨n5, rfl, _⟩ := got_i g5
    obtain ⟨n6, rfl, _⟩ := got_i g6
    obtain ⟨n7, rfl⟩ := got_b Try.underlying4 g7
    obtain ⟨l8, r8, b8, _⟩ := got_is g8 z8
    exact ⟨⟨n0, n1, n2, n3, n4, n5, n6, n7, l8⟩, c8, rfl, r8, b8⟩
end
end Go.Proofs.Ytaekiecidbhjhaa
