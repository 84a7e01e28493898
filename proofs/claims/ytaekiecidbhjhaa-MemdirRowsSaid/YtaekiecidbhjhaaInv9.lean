/- The two machines' rows beside each other. -/
import Derived.Test.YtaekiecidbhjhaaHomes
import Derived.Test.YtaekiecidbhjhaaLaw09
namespace Go.Proofs.Ytaekiecidbhjhaa
open Go.RowKit

/-- The two machines say the same of each line. -/
structure Inv (c : Cfg) (node : Nat) (mrs hrs : List Rw) : Prop where
  keys : rwKeys mrs = rwKeys (rows0 c node c.lines)
  len : hrs.length = c.lines
  at_ : ∀ (j : Nat) (r : Rw), mrs[j]? = some r → r.data.length = c.words ∧ hrs[r.line.toNat]? = some r
theorem rows0_sorted (c : Cfg) (node n : Nat) : (rwKeys (rows0 c node n)).Pairwise (· < ·) := by
  unfold rwKeys rows0
  rw [List.map_map]
  refine List.Pairwise.map _ (fun a b h => ?_) (List.Pairwise.filter _ List.pairwise_lt_range)
  show (a : Int) < (b : Int)
  omega
theorem sorted_once {L : List Int} (h : L.Pairwise (· < ·)) {i j : Nat} {x : Int} (hi : L[i]? = some x) (hj : L[j]? = some x) : i = j := by
  obtain ⟨h1, e1⟩ := List.getElem?_eq_some_iff.1 hi
  obtain ⟨h2, e2⟩ := List.getElem?_eq_some_iff.1 hj
  rw [List.pairwise_iff_getElem] at h
  rcases Nat.lt_trichotomy i j with hl | hl | hl
  · have := h i j h1 h2 hl; omega
  · exact hl
  · have := h j i h2 h1 hl; omega
theorem Inv.init (c : Cfg) (node : Nat) : Inv c node (rows0 c node c.lines) (rowsAll c c.lines) := by
  refine ⟨rfl, rowsAll_len _ _, fun j r h => ?_⟩
  obtain ⟨x, hx, _, rfl⟩ := rows0_mem (List.mem_of_getElem? h)
  refine ⟨cwords_len _ _, ?_⟩
  show (rowsAll c c.lines)[(x : Int).toNat]? = _
  rw [Int.toNat_natCast]
  unfold rowsAll
  rw [List.getElem?_map, List.getElem?_range hx]; rfl
theorem Inv.not {c : Cfg} {node : Nat} {mrs hrs : List Rw} (I : Inv c node mrs hrs) {x : Int} (h : ¬ isHere c node x) : keyAt (rwKeys mrs) x = none := by
  rw [I.keys]
  refine rows0_not _ _ _ _ (fun y hy h1 h2 => h ?_)
  subst hy
  refine ⟨by omega, by omega, ?_⟩
  rw [← Int.natCast_emod, h2]
theorem Inv.find {c : Cfg} {node : Nat} {mrs hrs : List Rw} (I : Inv c node mrs hrs) {x : Int} (h : isHere c node x) : ∃ (y j : Nat) (r : Rw), x = (y : Int) ∧ keyAt (rwKeys mrs) (y : Int) = some j ∧ mrs[j]? = some r ∧ hrs[y]? = some r ∧ r.line = (y : Int) ∧ y < c.lines ∧ r.data.length = c.words := by
  obtain ⟨h0, h1, h2⟩ := h
  obtain ⟨y, rfl⟩ : ∃ y : Nat, x = (y : Int) := ⟨x.toNat, by omega⟩
  have hy : y < c.lines := by omega
  have hm : y % c.nodes = node := by
    rw [← Int.natCast_emod] at h2; omega
  obtain ⟨j, hj, _⟩ := rows0_at c node c.lines y hy hm
  rw [← I.keys] at hj
  have hk := keyAt_lt hj
  rw [List.getElem?_map] at hk
  cases hr : mrs[j]? with
  | none => rw [hr] at hk; cases hk
  | some r =>
    rw [hr] at hk
    simp at hk
    obtain ⟨h3, h4⟩ := I.at_ j r hr
    rw [hk, Int.toNat_natCast] at h4
    exact ⟨y, j, r, rfl, hj, hr, h4, hk, hy, h3⟩
theorem Inv.set {c : Cfg} {node : Nat} {mrs hrs : List Rw} (I : Inv c node mrs hrs) {y j : Nat} {r r' : Rw} (hj : keyAt (rwKeys mrs) (y : Int) = some j) (hr : mrs[j]? = some r) (hl : r.line = (y : Int)) (hy : y < c.lines) (hl' : r'.line = (y : Int)) (hd : r'.data.length = c.words) : Inv c node (mrs.set j r') (hrs.set y r') := by
  have hk : rwKeys (mrs.set j r') = rwKeys mrs := rwKeys_set (r := r) (r' := r') hr (by rw [hl, hl'])
  refine ⟨by rw [hk, I.keys], by rw [List.length_set, I.len], fun i q hq => ?_⟩
  by_cases e : i = j
  · subst e
    rw [List.getElem?_set_self (List.getElem?_eq_some_iff.1 hr).1] at hq
    cases hq
    refine ⟨hd, ?_⟩
    rw [hl', Int.toNat_natCast, List.getElem?_set_self (by rw [I.len]; exact hy)]
  · rw [List.getElem?_set_ne (Ne.symm e)] at hq
    obtain ⟨h1, h2⟩ := I.at_ i q hq
    refine ⟨h1, ?_⟩
    rw [List.getElem?_set_ne ?_]
    · exact h2
    · intro e2
      have k1 : (rwKeys mrs)[i]? = some (y : Int) := by
        rw [List.getElem?_map, hq]
        obtain ⟨z, _, _, hz⟩ : ∃ z : Nat, z < c.lines ∧ z % c.nodes = node ∧ q.line = (z : Int) := by
          have hm : q.line ∈ rwKeys (rows0 c node c.lines) := by
            rw [← I.keys]
            exact List.mem_map_of_mem (List.mem_of_getElem? hq)
          obtain ⟨p, hp, hp2⟩ := List.mem_map.1 hm
          obtain ⟨z, hz1, hz2, rfl⟩ := rows0_mem hp
          exact ⟨z, hz1, hz2, hp2.symm⟩
        rw [hz, Int.toNat_natCast] at e2
        subst e2
        simp [hz]
      have hs := rows0_sorted c node c.lines
      rw [← I.keys] at hs
      exact e (sorted_once hs k1 (keyAt_lt hj))
theorem set_cls (c : Cfg) (node : Nat) (x st hd : Int) (n : Nat) : ¬ isHere c node x ∨ (isHere c node x ∧ (st < 0 ∨ 2 < st ∨ hd < -1 ∨ (c.nodes : Int) ≤ hd ∨ (hd = -1 ∧ st ≠ 0) ∨ (hd ≠ -1 ∧ st = 0) ∨ (n ≠ 0 ∧ n ≠ c.words))) ∨ (isHere c node x ∧ 0 ≤ st ∧ st ≤ 2 ∧ -1 ≤ hd ∧ hd < (c.nodes : Int) ∧ (hd = -1 ↔ st = 0) ∧ (n = 0 ∨ n = c.words)) := by
  by_cases h : isHere c node x
  · by_cases h2 : st < 0 ∨ 2 < st ∨ hd < -1 ∨ (c.nodes : Int) ≤ hd ∨ (hd = -1 ∧ st ≠ 0) ∨ (hd ≠ -1 ∧ st = 0) ∨ (n ≠ 0 ∧ n ≠ c.words)
    · exact .inr (.inl ⟨h, h2⟩)
    · exact .inr (.inr ⟨h, by omega, by omega, by omega, by omega, by omega, by omega⟩)
  · exact .inl h
theorem RdI.atE {w : World} {p : Option Addr} {b off n c : Nat} {xs : List Int} (h : RdI w (.slice p n c) xs) (hp : p = Option.some ⟨b, off, none⟩) (j : Nat) (hj : j < xs.length) : w.cell? ⟨b, off + j, none⟩ = Option.some (VI (xs.getD j 0)) := by
  obtain ⟨b1, o1, e1, c1⟩ := RdI.some h (by omega)
  rw [hp] at e1
  cases e1
  exact c1 j hj
theorem HRep.open2 {w : World} {l : List HProp} {A B : HProp} {h : Nat} {c : Cfg} {node : Nat} {rs : List Rw} (hs : Sat w (A :: B :: HRep h c node rs :: l)) : ∃ (a : Option Addr) (n k : Nat) (ra : Option Addr) (rk : Nat) (vs : List Value), vs.length = rs.length ∧ Sat w (A :: B :: cel h 86 (homeCells c node a n k (.slice ra rs.length rk)) :: Sl 79 3 (.slice ra rs.length rk) rs.length (rwCells rs vs) :: (rwData rs vs ++ l)) := by
  obtain ⟨a, n, k, ra, rk, vs, h1, h2⟩ := HRep.open.1 hs.p2
  refine ⟨a, n, k, ra, rk, vs, h1, h2.perm ?_⟩
  simpa using (List.perm_append_comm_assoc [_, _] (_ :: _ :: rwData rs vs) l).symm
theorem HRep.shut2 {w : World} {l : List HProp} {A B : HProp} {h : Nat} {c : Cfg} {node : Nat} {rs : List Rw} {a : Option Addr} {n k : Nat} {ra : Option Addr} {rk : Nat} {vs : List Value} (h1 : vs.length = rs.length) (hs : Sat w (A :: B :: cel h 86 (homeCells c node a n k (.slice ra rs.length rk)) :: Sl 79 3 (.slice ra rs.length rk) rs.length (rwCells rs vs) :: (rwData rs vs ++ l))) : Sat w (A :: B :: HRep h c node rs :: l) := by
  have h2 : Sat w (HRep h c node rs :: A :: B :: l) := HRep.open.2 ⟨a, n, k, ra, rk, vs, h1, hs.perm (by simpa using (List.perm_append_comm_assoc [_, _] (_ :: _ :: rwData rs vs) l))⟩
  exact h2.perm (by simpa using (List.perm_append_comm_assoc [HRep h c node rs] [A, B] l))
theorem HRep.rowAt {w : World} {l : List HProp} {b off n k N : Nat} {rs : List Rw} {vs : List Value} {pp : Option Addr} (hpp : pp = Option.some ⟨b, off, none⟩) (hvs : vs.length = rs.length) (hN : n = N) (hs : Sat w (Sl 79 3 (.slice pp n k) N (rwCells rs vs) :: l)) (i : Nat) (r : Rw) (v : Value) (hi : rs[i]? = Option.some r) (hv : vs[i]? = Option.some v) (q : Nat) (hq : q = off + i * 3) :
    ∀ j x, (r.cells v)[j]? = Option.some x → w.cell? ⟨b, q + j, none⟩ = Option.some x := by
  subst hN
  intro j x hx
  exact Sl.cellE hpp hs (q + j) (i * 3 + j) (by omega) x (rwCells_get rs vs hvs i r v hi hv j x hx)
end Go.Proofs.Ytaekiecidbhjhaa
