/- Parts of slices that can be read; one element of packets goes. -/
import Derived.Test.YtaekiecidbhjhaaPkr
import Derived.Test.YtaekiecidbhjhaaQueue2
namespace Go.Proofs.Ytaekiecidbhjhaa
open Go.RowKit

theorem Rd.upto {w : World} {sz : Nat} {a : Option Addr} {n c i : Nat} {xs : List Value} (h : Rd w sz (.slice a n c) n xs) (hi : i ≤ n) : Rd w sz (.slice a i c) i (xs.take (i * sz)) := by
  obtain ⟨a', c', e, h2, h3, h4, h5, h6⟩ := h
  cases e
  refine ⟨a, c, rfl, ?_, by omega, h4, h5, fun ad e j u hu => h6 ad e j u ?_⟩
  · rw [List.length_take, h2]
    have := Nat.mul_le_mul_right sz hi
    omega
  · rw [List.getElem?_take] at hu
    split at hu
    · exact hu
    · cases hu
theorem Rd.behind {w : World} {sz : Nat} {a : Option Addr} {n c i : Nat} {xs : List Value} (h : Rd w sz (.slice a n c) n xs) (hi : i ≤ n) : Rd w sz (.slice (if c = i then a else a.map (·.add (i * sz))) (n - i) (c - i)) (n - i) (xs.drop (i * sz)) := by
  obtain ⟨a', c', e, h2, h3, h4, h5, h6⟩ := h
  cases e
  refine ⟨_, _, rfl, ?_, by omega, by omega, ?_, fun ad e j u hu => ?_⟩
  · rw [List.length_drop, h2, Nat.sub_mul]
  · intro h
    split at h
    · omega
    · cases a with
      | none => have := h5 rfl; omega
      | some a => cases h
  · rw [List.getElem?_drop] at hu
    split at e
    · rename_i hc
      have hlt := (List.getElem?_eq_some_iff.1 hu).1
      have : n = i := by omega
      subst this
      omega
    · cases a with
      | none => cases e
      | some a =>
        cases e
        have h7 := h6 a rfl _ u hu
        have hlt : 0 < xs.length := by have := (List.getElem?_eq_some_iff.1 hu).1; omega
        have hs := cell_spot (h6 a rfl 0 xs[0] (by simp [hlt]))
        obtain ⟨b, off, sp⟩ := a
        have hsp : sp = none := by simpa [Addr.add] using hs
        subst hsp
        rw [addr_add] at h7
        show w.cell? (((⟨b, off, none⟩ : Addr).add (i * sz)).add j) = some u
        rw [addr_add, addr_add, Nat.add_assoc]
        exact h7
theorem pkCells_take : ∀ (ps : List Pkt) (vs : List Value) (i : Nat), vs.length = ps.length → (pkCells ps vs).take (i * 9) = pkCells (ps.take i) (vs.take i)
  | [], [], i, _ => by cases i <;> simp [pkCells]
  | p :: ps, v :: vs, 0, _ => by simp [pkCells]
  | p :: ps, v :: vs, i + 1, h => by
    have h9 : (p.cells v).length = 9 := rfl
    simp only [pkCells, List.take_succ_cons]
    rw [List.take_append, h9, show (i + 1) * 9 - 9 = i * 9 by omega, pkCells_take ps vs i (by simpa using h), List.take_of_length_le (by omega)]
  | [], _ :: _, _, h => by simp at h
  | _ :: _, [], _, h => by simp at h
theorem pkCells_drop : ∀ (ps : List Pkt) (vs : List Value) (i : Nat), vs.length = ps.length → (pkCells ps vs).drop (i * 9) = pkCells (ps.drop i) (vs.drop i)
  | [], [], i, _ => by cases i <;> simp [pkCells]
  | p :: ps, v :: vs, 0, _ => by simp [pkCells]
  | p :: ps, v :: vs, i + 1, h => by
    have h9 : (p.cells v).length = 9 := rfl
    simp only [pkCells, List.drop_succ_cons]
    rw [List.drop_append, h9, show (i + 1) * 9 - 9 = i * 9 by omega, pkCells_drop ps vs i (by simpa using h), List.drop_eq_nil_of_le (by omega)]
    simp
  | [], _ :: _, _, h => by simp at h
  | _ :: _, [], _, h => by simp at h
theorem pkData_drop1 : ∀ (ps : List Pkt) (vs : List Value) (i : Nat) {w : World} {l : List HProp}, vs.length = ps.length → Sat w (pkData ps vs ++ l) → Sat w (pkData (ps.take i ++ ps.drop (i + 1)) (vs.take i ++ vs.drop (i + 1)) ++ l)
  | [], [], i, w, l, _, hs => by simpa [pkData] using hs
  | p :: ps, v :: vs, 0, w, l, _, hs => by simpa [pkData] using Sat.tail hs
  | p :: ps, v :: vs, i + 1, w, l, h, hs => by
    have h1 : Sat w (pkData ps vs ++ Ints v p.data :: l) := Sat.push hs
    have h2 := pkData_drop1 ps vs i (l := Ints v p.data :: l) (by simpa using h) h1
    have h3 := Sat.pull h2
    simpa [pkData] using h3
  | [], _ :: _, _, _, _, h, _ => by simp at h
  | _ :: _, [], _, _, _, h, _ => by simp at h
/-- The one at a place goes. -/
theorem del_at {w : World} {l : List HProp} {v : Value} {ps : List Pkt} (hs : Sat w (PkQ v ps :: l)) (i : Nat) (hi : i < ps.length) (hn : ps.length ≤ 1000) :
    Calls Try.prog 80 #[v, VI i, VI (i + 1)] w fun e w' => ∃ v', e = .returned v' ∧ Sat w' (PkQ v' (ps.take i ++ ps.drop (i + 1)) :: l) := by
  obtain ⟨vs, h1, h2⟩ := PkQ.open.1 hs
  have h3 := del_ok h2 i hi hn (pkOne _ _ h1 h2.tail)
  refine h3.mono ?_
  rintro e w' ⟨v', rfl, h4, h5⟩
  refine ⟨v', rfl, PkQ.open.2 ⟨vs.take i ++ vs.drop (i + 1), by simp; omega, ?_⟩⟩
  have e1 : List.take (i * 9) (pkCells ps vs) ++ List.drop ((i + 1) * 9) (pkCells ps vs) = pkCells (ps.take i ++ ps.drop (i + 1)) (vs.take i ++ vs.drop (i + 1)) := by
    rw [pkCells_take _ _ _ h1, pkCells_drop _ _ _ h1, pkCells_app _ _ _ _ (by simp; omega)]
  rw [e1] at h4
  have hl : (ps.take i ++ ps.drop (i + 1)).length = ps.length - 1 := by simp; omega
  rw [hl]
  exact Sat.pull (pkData_drop1 ps vs i h1 (Sat.push h4))

theorem PkR.upto {w : World} {l : List HProp} {a : Option Addr} {n c i : Nat} {d : Value} {ps : List Pkt} (hs : Sat w (PkR (.slice a n c) d ps :: l)) (hl : ps.length = n) (hi : i ≤ n) : Rd w 9 (.slice a i c) i (pkCells (ps.take i) (List.replicate (ps.take i).length d)) := by
  subst hl
  have h := Rd.upto (Sl.rd hs) hi
  rw [pkCells_take _ _ _ (by simp), List.take_replicate] at h
  rw [List.length_take]
  exact h
theorem PkR.behind {w : World} {l : List HProp} {a : Option Addr} {n c i : Nat} {d : Value} {ps : List Pkt} (hs : Sat w (PkR (.slice a n c) d ps :: l)) (hl : ps.length = n) (hi : i ≤ n) : Rd w 9 (.slice (if c = i then a else a.map (·.add (i * 9))) (n - i) (c - i)) (n - i) (pkCells (ps.drop i) (List.replicate (ps.drop i).length d)) := by
  subst hl
  have h := Rd.behind (Sl.rd hs) hi
  rw [pkCells_drop _ _ _ (by simp), List.drop_replicate] at h
  rw [List.length_drop]
  exact h
theorem pkOneR {d : Value} (hd : d.oneCell' = true) : ∀ (ps : List Pkt) (n : Nat), ∀ u ∈ pkCells ps (List.replicate n d), u.oneCell' = true
  | [], n, u, hu => by cases n <;> simp [pkCells, List.replicate_succ] at hu
  | p :: ps, 0, u, hu => by simp [pkCells] at hu
  | p :: ps, n + 1, u, hu => by
    rw [List.replicate_succ] at hu
    simp only [pkCells, List.mem_append] at hu
    rcases hu with h | h
    · simp at h
      rcases h with rfl | rfl | rfl | rfl | rfl | rfl | rfl | rfl | rfl <;> first | rfl | exact hd
    · exact pkOneR hd ps n u h
/-- Some more. -/
theorem M_appRR {a : Act} {w : World} {n : Nat} {m : List (Nat × Value)} {o : Oper} {x y : Operand} {v u d : Value} {l : List HProp} {ps qs : List Pkt} {M : Nat} (H : Fr a n m) (ho : o.op = .call { callee := .builtin .append, args := #[x, y], argTypes := #[40, 40] }) (hx : ev m x = some v) (hy : ev m y = some u) (hs : Sat w (PkR v d ps :: l)) (hr : Rd w 9 u M (pkCells qs (List.replicate qs.length d))) (hM : M = qs.length) (hd : d.oneCell' = true) (hb : (ps.length + qs.length) * 88 ≤ 140737488355328) :
    Does Try.prog o a w fun v' w' => ∃ a c, v' = .slice a (ps ++ qs).length c ∧ Sat w' (PkR (.slice a (ps ++ qs).length c) d (ps ++ qs) :: l) := by
  subst hM
  have h := M_append H ho ty_pkts hx hy hs hr (pkOneR hd qs _) hb
  intro K Q hk
  refine h K Q fun v' w' ⟨r1, _, a1, c1, e, _, _⟩ => hk _ _ ⟨a1, c1, by rw [List.length_append]; exact e, ?_⟩
  have e2 : pkCells (ps ++ qs) (List.replicate (ps ++ qs).length d) = pkCells ps (List.replicate ps.length d) ++ pkCells qs (List.replicate qs.length d) := by
    rw [List.length_append, ← List.replicate_append_replicate, pkCells_app _ _ _ _ (by simp)]
  unfold PkR
  rw [e2, List.length_append]
  subst e
  exact r1
end Go.Proofs.Ytaekiecidbhjhaa
