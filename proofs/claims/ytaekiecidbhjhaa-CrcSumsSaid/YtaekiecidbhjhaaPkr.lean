/- Packets in a slice that share one data slice; elements of slices of ours; stores into them. -/
import Derived.Test.YtaekiecidbhjhaaMem2
import Derived.Test.YtaekiecidbhjhaaTys
import Derived.Test.YtaekiecidbhjhaaBase2
namespace Go.Proofs.Ytaekiecidbhjhaa
open Go.RowKit

theorem Sl.some {T : TypeId} {sz : Nat} {w : World} {l : List HProp} {a : Option Addr} {n c : Nat} {xs : List Value} (hs : Sat w (Sl T sz (.slice a n c) n xs :: l)) (hn : 0 < n) : ∃ b off, a = some ⟨b, off, none⟩ := by
  rcases Sl.cases hs with ⟨e1, e2, _⟩ | ⟨b', pre, suf, cap', e1, _⟩
  · omega
  · cases e1; exact ⟨_, _, rfl⟩
theorem Sl.atE {T : TypeId} {w : World} {l : List HProp} {p : Option Addr} {b off n c : Nat} {xs : List Value} (hp : p = Option.some ⟨b, off, none⟩) (hs : Sat w (Sl T 1 (.slice p n c) n xs :: l)) (j : Nat) (v : Value) (hv : xs[j]? = Option.some v) : w.cell? ⟨b, off + j, none⟩ = Option.some v := by
  subst hp
  rw [(Sl.at hs j (List.getElem?_eq_some_iff.1 hv).1).1, hv]
theorem Ints.atE {w : World} {l : List HProp} {p : Option Addr} {b off cap : Nat} {xs : List Int} {n : Nat} (hp : p = Option.some ⟨b, off, none⟩) (hn : xs.length = n) (hs : Sat w (Ints (.slice p n cap) xs :: l)) (j : Nat) (hj : j < n) :
    w.cell? ⟨b, off + j, none⟩ = Option.some (VI (xs.getD j 0)) := by
  subst hp; exact (Ints.at hn hs j hj).1
theorem Ints.some {w : World} {l : List HProp} {a : Option Addr} {n c : Nat} {xs : List Int} (hs : Sat w (Ints (.slice a n c) xs :: l)) (hl : xs.length = n) (hn : 0 < n) : ∃ b off, a = some ⟨b, off, none⟩ := by
  subst hl; exact Sl.some hs hn
theorem PkR.some {w : World} {l : List HProp} {a : Option Addr} {n c : Nat} {d : Value} {ps : List Pkt} (hs : Sat w (PkR (.slice a n c) d ps :: l)) (hl : ps.length = n) (hn : 0 < n) : ∃ b off, a = some ⟨b, off, none⟩ := by
  subst hl; exact Sl.some hs hn
theorem RdI.some {w : World} {a : Option Addr} {n c : Nat} {xs : List Int} (h : RdI w (.slice a n c) xs) (hn : 0 < xs.length) : ∃ b off, a = some ⟨b, off, none⟩ ∧ ∀ j, j < xs.length → w.cell? ⟨b, off + j, none⟩ = some (VI (xs.getD j 0)) := by
  obtain ⟨b, off, cap, e, _, h1⟩ := RdI.get h (by intro h; rw [h] at hn; simp at hn)
  cases e
  exact ⟨b, off, rfl, h1⟩
theorem Rd.old {w w0 : World} {l : List HProp} {sz : Nat} {v : Value} {n : Nat} {xs : List Value} (h : Rd w0 sz v n xs) (hs : Sat w (Old w0 :: l)) : Rd w sz v n xs := h.keep hs.getOld
theorem RdI.old {w w0 : World} {l : List HProp} {v : Value} {xs : List Int} (h : RdI w0 v xs) (hs : Sat w (Old w0 :: l)) : RdI w v xs := Rd.old h hs
theorem Rd.le {w : World} {sz : Nat} {a : Option Addr} {n n' c : Nat} {xs : List Value} (h : Rd w sz (.slice a n c) n' xs) : n = n' ∧ n ≤ c ∧ c ≤ maxLen := by
  obtain ⟨_, _, e, h1, h2⟩ := h.val
  cases e; exact ⟨rfl, h1, h2⟩
theorem PkR.le {w : World} {l : List HProp} {a : Option Addr} {n c : Nat} {d : Value} {ps : List Pkt} (hs : Sat w (PkR (.slice a n c) d ps :: l)) : n ≤ c := (Rd.le (Sl.rd hs)).2.1
theorem PkR.nil {w : World} {l : List HProp} (d : Value) (hs : Sat w l) : Sat w (PkR VNil d [] :: l) := Sl.nil _ _ w l hs
theorem pkc_get (ps : List Pkt) (d : Value) (i : Nat) (p : Pkt) (hi : ps[i]? = Option.some p) : ∀ j x, (p.cells d)[j]? = Option.some x → (pkCells ps (List.replicate ps.length d))[i * 9 + j]? = Option.some x := by
  obtain ⟨u, h1, h2⟩ := pk_get ps (List.replicate ps.length d) (by simp) i p hi
  rw [List.getElem?_replicate] at h1
  split at h1
  · cases h1; exact h2
  · cases h1
theorem PkR.cellAt {w : World} {l : List HProp} {b off n c : Nat} {d : Value} {ps : List Pkt} {pp : Option Addr} (hpp : pp = Option.some ⟨b, off, none⟩) (hs : Sat w (PkR (.slice pp n c) d ps :: l)) (i : Nat) (p : Pkt) (hi : ps[i]? = Option.some p) (q : Nat) (hq : q = off + i * 9) :
    ∀ j x, (p.cells d)[j]? = Option.some x → w.cell? ⟨b, q + j, none⟩ = Option.some x := by
  subst hpp
  intro j x hx
  have hg := pkc_get ps d i p hi j x hx
  have hn : n = ps.length := by
    obtain ⟨_, _, e, _⟩ := (Sl.rd hs).val
    cases e; rfl
  subst hn
  have h := (Sl.at hs (i * 9 + j) (List.getElem?_eq_some_iff.1 hg).1).1
  subst hq
  rw [Nat.add_assoc, h, hg]
/-- The first one goes. -/
theorem PkR.tail {w : World} {l : List HProp} {b off n cap : Nat} {d : Value} {p : Pkt} {ps : List Pkt} {pp : Option Addr} (hpp : pp = Option.some ⟨b, off, none⟩) (hl : ps.length = n) (hs : Sat w (PkR (.slice pp (n + 1) cap) d (p :: ps) :: l)) :
    Sat w (PkR (.slice (if cap = 1 then pp else pp.map (·.add (1 * 9))) n (cap - 1)) d ps :: l) := by
  subst hpp
  subst hl
  have hadd : (Option.some (⟨b, off, none⟩ : Addr)).map (·.add (1 * 9)) = Option.some ⟨b, off + 9, none⟩ := by simp [addr_add]
  rw [hadd]
  rcases Sl.cases hs with ⟨e1, _⟩ | ⟨b', pre, suf, cap', e1, e2, e3, e4, e5, hs1⟩
  · cases e1
  cases e1
  simp only [List.length_cons] at e2 e3 e5 hs1
  have ec : pkCells (p :: ps) (List.replicate (ps.length + 1) d) = p.cells d ++ pkCells ps (List.replicate ps.length d) := rfl
  have hl : (pkCells ps (List.replicate ps.length d)).length = ps.length * 9 := pkCells_len _ _ (by simp)
  rw [ec] at hs1 e5 e2
  have hc9 : (p.cells d).length = 9 := rfl
  split
  · rename_i hc
    have h0 : ps = [] := List.eq_nil_of_length_eq_zero (by omega)
    subst h0
    subst hc
    have hs2 : Sat w (cel b 43 (pre ++ [] ++ (p.cells d ++ suf)) :: l) := by simpa [pkCells] using hs1
    have e0 : pkCells [] (List.replicate ([] : List Pkt).length d) = [] := by simp [pkCells]
    unfold PkR
    rw [e0]
    exact Sl.mk (n := 0) (cap := 0) hs2 (by simp) (by omega) (by simp [maxLen]) (by omega)
  · have hs2 : Sat w (cel b 43 ((pre ++ p.cells d) ++ pkCells ps (List.replicate ps.length d) ++ suf) :: l) := by
      rw [List.append_assoc pre]; exact hs1
    have h3 := Sl.mk (n := ps.length) (cap := cap - 1) hs2 hl (by omega) (by omega) (by rw [List.length_append] at e5; omega)
    rw [List.length_append, hc9] at h3
    exact h3

section
variable {a : Act} {w : World} {n : Nat} {m : List (Nat × Value)} {o : Oper} {x y z : Operand} {v u d : Value} {T U : TypeId} {l : List HProp} {ps : List Pkt} {p : Pkt}
/-- One more. -/
theorem M_appR (H : Fr a n m) (ho : o.op = .call { callee := .builtin .append, args := #[x, y], argTypes := #[40, 40] }) (hx : ev m x = Option.some v) (hy : ev m y = Option.some u) (hs : Sat w (Sl 43 9 u 1 (p.cells d) :: PkR v d ps :: l)) (h1 : ∀ q ∈ p.cells d, q.oneCell' = true) (hb : (ps.length + 1) * 88 ≤ 140737488355328) :
    Does Try.prog o a w fun v' w' => ∃ a c, v' = .slice a (ps ++ [p]).length c ∧ Sat w' (PkR (.slice a (ps ++ [p]).length c) d (ps ++ [p]) :: l) := by
  have h := M_append H ho ty_pkts hx hy hs.p1 (Sl.rd hs) h1 hb
  intro K Q hk
  refine h K Q fun v' w' ⟨r1, _, a1, c1, e, _, _⟩ => hk _ _ ⟨a1, c1, by rw [List.length_append]; exact e, ?_⟩
  have e2 : pkCells (ps ++ [p]) (List.replicate (ps ++ [p]).length d) = pkCells ps (List.replicate ps.length d) ++ p.cells d := by
    rw [List.length_append, ← List.replicate_append_replicate, pkCells_app _ _ _ _ (by simp)]
    simp [pkCells]
  unfold PkR
  rw [e2, List.length_append]
  subst e
  exact r1.d1
/-- One number more. -/
theorem M_appI {xs : List Int} {i : Int} (H : Fr a n m) (ho : o.op = .call { callee := .builtin .append, args := #[x, y], argTypes := #[22, 22] }) (hx : ev m x = Option.some v) (hy : ev m y = Option.some u) (hs : Sat w (Sl 3 1 u 1 [VI i] :: Ints v xs :: l)) (hb : xs.length ≤ 1000000) :
    Does Try.prog o a w fun v' w' => Sat w' (Sl 3 1 u 1 [VI i] :: Ints v' (xs ++ [i]) :: l) := by
  have h := M_append H ho ty_ints hx hy hs.p1 (Sl.rd hs) (by simp [Value.oneCell']) (by omega)
  intro K Q hk
  refine h K Q fun v' w' ⟨r1, _, _⟩ => hk _ _ (Sat.p1 ?_)
  unfold Ints
  rw [List.length_append, List.map_append]
  exact r1
/-- A store into numbers of ours. -/
theorem M_storeI {p : Option Addr} {b off c N : Nat} {xs : List Int} {i : Int} (H : Fr a n m) (ho : o.op = .store 3 x y) (j : Nat) (hx : ev m x = Option.some (VPt b (off + j))) (hy : ev m y = Option.some (VI i)) (hp : p = Option.some ⟨b, off, none⟩) (hs : Sat w (Ints (.slice p N c) xs :: l)) (hl : xs.length = N) (hj : j < N) :
    Does Try.prog o a w fun _ w' => Sat w' (Ints (.slice p N c) (xs.set j i) :: l) := by
  subst hp
  obtain ⟨hc, hf⟩ := Ints.at hl hs j hj
  refine Does.of_skip (w' := w.setCell ⟨b, off + j, none⟩ (VI i)) ?_ (Ints.set hl hs j hj i)
  have hst := run_store Try.prog w ⟨b, off + j, none⟩ (VI i) .plain rfl
  have hz : (Try.prog.info? 3).map (·.size) = Option.some 1 := by kernel_rfl
  obtain ⟨t, ht, ht1⟩ : ∃ t, Try.prog.info? 3 = Option.some t ∧ t.size = 1 := by
    cases h : Try.prog.info? 3 with
    | none => rw [h] at hz; cases hz
    | some t => rw [h] at hz; simp at hz; exact ⟨t, rfl, hz⟩
  unfold execOp; rw [ho]
  simp [H.ev hx, H.ev hy, Instr.storeAt, Instr.sureAddr, storeVar, Value.cells, sizeOf, typeInfo, program, Sem.run, Result.andThen, ht, ht1, storeCells, addr_add]
  simp [hst, stored, hc, hf]
end
end Go.Proofs.Ytaekiecidbhjhaa
