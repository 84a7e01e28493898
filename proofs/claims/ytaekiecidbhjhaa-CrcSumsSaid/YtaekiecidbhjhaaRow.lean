/- The row's side: what the arguments read as, in the words of the walks. -/
import Derived.Test.YtaekiecidbhjhaaPkr
import Derived.ProofKit
import Derived.OpenShut
import Derived.ShutString
import Derived.ChangeOld
import Derived.Below
import Derived.SizedLaws
namespace Go.Proofs.Ytaekiecidbhjhaa
open Go.ChangeShapes Go.WideShapes Go.ChangeAt Go.RowKit

theorem own : ownKnob Try.prog.godebug = none := by kernel_rfl
theorem laidOut : laidOutB Try.prog = true := by kernel_rfl

section
variable {H : Type} {P : Program} {enc : TypeId × Value → H} {W : World}
/-- A slice of numbers that came in: it can be read; its bytes are bounded. -/
theorem got_ints {t e : TypeId} {k : IntKind} {by_ : Nat} (hu : P.underlying t = some (.slice e)) (he : P.underlying e = some (.int k)) (hc : P.cellsOf e = 1) (hb : P.bytesOf e = by_) {fuel : Nat} {a : Option Addr} {len cap : Nat} {d : DataW H} {p : List MemPlace}
    (h : DataW.trod enc P W 0 (fun _ => true) true fuel t [.slice a len cap] = some (d, p)) (hsz : ∀ n ∈ d.weights P t, n ≤ reachBytes) :
    ∃ xs : List Int, xs.length = len ∧ Rd W 1 (.slice a len cap) len (xs.map (Value.int k)) ∧ len * by_ ≤ 140737488351232 ∧ ∀ x ∈ xs, (Lit.int k x).wf = true := by
  rcases open_ints hu he hc h with ⟨hcs, _⟩ | ⟨x, l, c, zs, hcs, _, hl, hm, hz, hx, hcell, hwz⟩
  · simp at hcs
    obtain ⟨rfl, rfl, rfl⟩ := hcs
    exact ⟨[], rfl, Rd.nil _ _, by simp, by simp⟩
  · simp at hcs
    obtain ⟨rfl, rfl, rfl⟩ := hcs
    have hz' : zs.length = cap := by simpa using hz
    refine ⟨zs.take len, by simp; omega, ⟨some x, cap, rfl, by simp; omega, hl, hm, (fun h => by cases h), fun ad e j u hu => ?_⟩, ?_, fun y hy => hwz y (List.mem_of_mem_take hy)⟩
    · cases e
      have hj : j < ((zs.take len).map (Value.int k)).length := (List.getElem?_eq_some_iff.1 hu).1
      rw [List.length_map, List.length_take] at hj
      have hj1 : j < len := by omega
      have hj2 : j < zs.length := by omega
      have h1 := hcell j hj2
      rw [h1]
      rw [← hu]
      simp [hj1, hj2]
    · have e1 : d = (.slice (lits k (zs.take len)) (lits k (zs.drop len))) := by
        have := congrArg Prod.fst hx; simpa using this
      have h2 := hsz ((lits (H := H) k (zs.take len)).length * by_ + (lits (H := H) k (zs.drop len)).length * by_) (by
        rw [e1]
        unfold DataW.weights
        rw [hu]
        simp only [hb, ← Nat.add_mul]
        exact List.mem_cons_self)
      have h3 : (lits (H := H) k (zs.take len)).length = len := by simp [lits]; omega
      rw [h3] at h2
      have h4 : reachBytes = 140737488351232 := by decide
      omega
theorem sized_at {ts : List TypeId} {ds : List (DataW H)} (hsz : (DataW.weightsEach P ts ds).all (· ≤ reachBytes) = true) {j : Nat} {t : TypeId} {d : DataW H} (ht : ts[j]? = some t) (hd : ds[j]? = some d) : ∀ n ∈ d.weights P t, n ≤ reachBytes := fun n hn =>
  of_decide_eq_true (List.all_eq_true.1 hsz _ (DataW.weights_mem_each ht hd n hn))
end
end Go.Proofs.Ytaekiecidbhjhaa
