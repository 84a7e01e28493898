/- chapletref07.Homes: its rows, its representation. -/
import Derived.Test.YtaekiecidbhjhaaDir2
import Derived.Test.YtaekiecidbhjhaaKsame
namespace Go.Proofs.Ytaekiecidbhjhaa
open Go.RowKit

theorem ty_rows : SlTy Try.prog 80 79 3 40 := SlTy.of (z := .agg #[VI 0, VI 0, VNil]) (by kernel_rfl) (by kernel_rfl) rfl (by decide) (by decide)
theorem st_chapletref07_Row : StTy Try.prog 79 [Value.int .i64 0, Value.int .i64 0, VNil] [(0, 1), (1, 1), (2, 1)] := StTy.of (by kernel_rfl) (by kernel_rfl) (by kernel_rfl)
/-- What only yields a value, taken where it stands. -/
theorem D_yl {P : Program} {o : Oper} {a : Act} {w : World} {v : Value} (h : Yl P o a w v) : Does P o a w fun v' w' => v' = v ∧ w = w' := Does.of_value h ⟨rfl, rfl⟩
def rwCells : List Rw → List Value → List Value
  | r :: rs, v :: vs => r.cells v ++ rwCells rs vs
  | _, _ => []
theorem rwCells_len : ∀ (rs : List Rw) (vs : List Value), vs.length = rs.length → (rwCells rs vs).length = rs.length * 3
  | [], [], _ => rfl
  | r :: rs, v :: vs, h => by
    simp only [rwCells, List.length_append, List.length_cons, rwCells_len rs vs (by simpa using h)]
    simp; omega
  | [], _ :: _, h => by simp at h
  | _ :: _, [], h => by simp at h
theorem rwCells_app : ∀ (rs qs : List Rw) (vs us : List Value), vs.length = rs.length → rwCells (rs ++ qs) (vs ++ us) = rwCells rs vs ++ rwCells qs us
  | [], _, [], _, _ => rfl
  | r :: rs, qs, v :: vs, us, h => by simp only [List.cons_append, rwCells, rwCells_app rs qs vs us (by simpa using h), List.append_assoc]
  | [], _, _ :: _, _, h => by simp at h
  | _ :: _, _, [], _, h => by simp at h
theorem rwCells_get : ∀ (rs : List Rw) (vs : List Value), vs.length = rs.length → ∀ (i : Nat) (r : Rw) (u : Value), rs[i]? = some r → vs[i]? = some u → ∀ j x, (r.cells u)[j]? = some x → (rwCells rs vs)[i * 3 + j]? = some x
  | r :: rs, v :: vs, h, 0, q, u, hq, hu, j, x, hx => by
    simp at hq hu; subst hq; subst hu
    simp only [rwCells, Nat.zero_mul, Nat.zero_add]
    rw [List.getElem?_append_left (List.getElem?_eq_some_iff.1 hx).1]; exact hx
  | r :: rs, v :: vs, h, i + 1, q, u, hq, hu, j, x, hx => by
    have h3 : (r.cells v).length = 3 := rfl
    simp only [rwCells]
    rw [List.getElem?_append_right (by omega), h3, show (i + 1) * 3 + j - 3 = i * 3 + j by omega]
    exact rwCells_get rs vs (by simpa using h) i q u (by simpa using hq) (by simpa using hu) j x hx
  | [], _, _, _, _, _, hq, _, _, _, _ => by simp at hq
  | _ :: _, [], h, _, _, _, _, _, _, _, _ => by simp at h
theorem rwCells_set : ∀ (rs : List Rw) (vs : List Value) (i : Nat) (r : Rw) (v : Value), vs.length = rs.length → i < rs.length → (rwCells rs vs).take (i * 3) ++ r.cells v ++ (rwCells rs vs).drop (i * 3 + 3) = rwCells (rs.set i r) (vs.set i v)
  | r :: rs, v :: vs, 0, _, _, _, _ => by simp [rwCells]
  | r :: rs, v :: vs, i + 1, r', v', h, hi => by
    have ih := rwCells_set rs vs i r' v' (by simpa using h) (by simpa using hi)
    have h3 : (r.cells v).length = 3 := rfl
    simp only [rwCells, List.set_cons_succ]
    rw [← ih, List.take_append, List.drop_append, h3, List.take_of_length_le (by omega), List.drop_eq_nil_of_le (show (r.cells v).length ≤ (i + 1) * 3 + 3 by omega)]
    rw [show (i + 1) * 3 - 3 = i * 3 by omega, show (i + 1) * 3 + 3 - 3 = i * 3 + 3 by omega]
    simp
  | [], _, _, _, _, _, hi => by simp at hi
  | _ :: _, [], _, _, _, h, _ => by simp at h
/-- All lines' rows, as the document's machine has them. -/
def HRep (h : Nat) (c : Cfg) (node : Nat) (rs : List Rw) : HProp := Ex fun q : Value × Value × List Value => [Pur (q.2.2.length = rs.length ∧ (∃ a n k, q.1 = .slice a n k) ∧ ∃ a k, q.2.1 = .slice a rs.length k), cel h 86 (c.cells q.1 ++ [VI node, q.2.1, VNil, VNil]), Sl 79 3 q.2.1 rs.length (rwCells rs q.2.2), Star (rwData rs q.2.2)]
abbrev homeCells (c : Cfg) (node : Nat) (a : Option Addr) (n k : Nat) (v : Value) : List Value := [VI c.nodes, VI c.lines, VI c.words, VI c.sets, VI c.ways, VI c.out, VI c.in_, .slice a n k, VI node, v, VNil, VNil]
theorem HRep.open {w : World} {l : List HProp} {h : Nat} {c : Cfg} {node : Nat} {rs : List Rw} : Sat w (HRep h c node rs :: l) ↔ ∃ (a : Option Addr) (n k : Nat) (ra : Option Addr) (rk : Nat) (vs : List Value), vs.length = rs.length ∧ Sat w (cel h 86 (homeCells c node a n k (.slice ra rs.length rk)) :: Sl 79 3 (.slice ra rs.length rk) rs.length (rwCells rs vs) :: (rwData rs vs ++ l)) := by
  unfold HRep
  rw [Sat.ex]
  constructor
  · rintro ⟨⟨v, u, vs⟩, h⟩
    obtain ⟨⟨h1, ⟨a, n, k, rfl⟩, ra, rk, rfl⟩, h2⟩ := Sat.pur.1 h
    refine ⟨a, n, k, ra, rk, vs, h1, ?_⟩
    have h3 := Sat.app.1 (h2.p2)
    exact (h3.perm (by simpa using List.perm_append_comm_assoc _ [_, _] _))
  · rintro ⟨a, n, k, ra, rk, vs, h1, h2⟩
    refine ⟨(.slice a n k, .slice ra rs.length rk, vs), Sat.pur.2 ⟨⟨h1, ⟨a, n, k, rfl⟩, ra, rk, rfl⟩, ?_⟩⟩
    have h3 : Sat w (rwData rs vs ++ (cel h 86 (homeCells c node a n k (.slice ra rs.length rk)) :: Sl 79 3 (.slice ra rs.length rk) rs.length (rwCells rs vs) :: l)) := h2.perm (by simpa using (List.perm_append_comm_assoc (rwData rs vs) [_, _] l).symm)
    have h4 := Sat.app.2 h3
    exact h4.perm (by
      refine List.Perm.trans (List.Perm.swap _ _ _) (List.Perm.cons _ (List.Perm.swap _ _ _)))
def rowsAll (c : Cfg) (n : Nat) : List Rw := (List.range n).map fun l : Nat => (⟨(l : Int), 0, -1, cwords c l⟩ : Rw)
theorem rowsAll_succ (c : Cfg) (n : Nat) : rowsAll c (n + 1) = rowsAll c n ++ [⟨(n : Int), 0, -1, cwords c n⟩] := by
  unfold rowsAll
  rw [List.range_succ, List.map_append]; rfl
theorem rowsAll_len (c : Cfg) (n : Nat) : (rowsAll c n).length = n := by simp [rowsAll]
/-- A line whose home is here. -/
def isHere (c : Cfg) (node : Nat) (x : Int) : Prop := 0 ≤ x ∧ x < (c.lines : Int) ∧ x % (c.nodes : Int) = (node : Int)
instance (c : Cfg) (node : Nat) (x : Int) : Decidable (isHere c node x) := by unfold isHere; infer_instance
/-- A row more. -/
theorem HRep.more {w : World} {l : List HProp} {A B : HProp} {ra : Value} {N : Nat} {rs : List Rw} {vs : List Value} {r : Rw} {v : Value} (h : vs.length = rs.length)
    (hs : Sat w (Ints v r.data :: A :: B :: Sl 79 3 ra N (rwCells rs vs ++ r.cells v) :: (rwData rs vs ++ l))) :
    Sat w (A :: B :: Sl 79 3 ra N (rwCells (rs ++ [r]) (vs ++ [v])) :: (rwData (rs ++ [r]) (vs ++ [v]) ++ l)) := by
  rw [rwCells_app _ _ _ _ h, rwData_app _ _ _ _ h]
  simp only [rwCells, rwData, List.append_assoc, List.cons_append, List.nil_append, List.append_nil]
  exact Sat.push (l1 := A :: B :: Sl 79 3 ra N (rwCells rs vs ++ r.cells v) :: rwData rs vs) hs
theorem Sl.cellE {T : TypeId} {sz : Nat} {w : World} {l : List HProp} {p : Option Addr} {b off n c : Nat} {xs : List Value} (hp : p = Option.some ⟨b, off, none⟩) (hs : Sat w (Sl T sz (.slice p n c) n xs :: l)) (q j : Nat) (hq : q = off + j) (v : Value) (hv : xs[j]? = Option.some v) : w.cell? ⟨b, q, none⟩ = Option.some v := by
  subst hp; subst hq
  rw [(Sl.at hs j (List.getElem?_eq_some_iff.1 hv).1).1, hv]
/-- Numbers, appended to nil. -/
theorem M_appNil {a : Act} {w : World} {n : Nat} {m : List (Nat × Value)} {o : Oper} {x y : Operand} {u : Value} {l : List HProp} {xs : List Int} (H : Fr a n m) (ho : o.op = .call { callee := .builtin .append, args := #[x, y], argTypes := #[22, 22] }) (hx : ev m x = some VNil) (hy : ev m y = some u) (hr : RdI w u xs) (hb : xs.length * 8 ≤ 140737488355328) (hs : Sat w l) :
    Does Try.prog o a w fun v' w' => ∃ a c, v' = .slice a xs.length c ∧ Sat w' (Ints (.slice a xs.length c) xs :: l) := by
  have h := M_append H ho ty_ints hx hy (Sl.nil _ _ w l hs) hr (one_ints xs) (by omega)
  intro K Q hk
  refine h K Q fun v' w' ⟨r1, _, a1, c1, e, _, _⟩ => hk _ _ ?_
  rw [Nat.zero_add] at e r1
  subst e
  exact ⟨a1, c1, rfl, by unfold Ints; simpa using r1⟩
theorem HRep.set_same {w : World} {l : List HProp} {h : Nat} {c : Cfg} {node : Nat} {rs : List Rw} {a ra : Option Addr} {n k rk i : Nat} {vs : List Value} {r r' : Rw} {v : Value} (hl : vs.length = rs.length) (hr : rs[i]? = some r) (hv : vs[i]? = some v) (hd : r'.data = r.data)
    (hs : Sat w (cel h 86 (homeCells c node a n k (.slice ra rs.length rk)) :: Sl 79 3 (.slice ra rs.length rk) rs.length ((rwCells rs vs).take (i * 3) ++ r'.cells v ++ (rwCells rs vs).drop (i * 3 + 3)) :: (rwData rs vs ++ l))) : Sat w (HRep h c node (rs.set i r') :: l) := by
  have hi := (List.getElem?_eq_some_iff.1 hr).1
  refine HRep.open.2 ⟨a, n, k, ra, rk, vs, by simpa using hl, ?_⟩
  rw [List.length_set, rwData_same _ _ _ _ _ hr hd]
  have e := rwCells_set rs vs i r' v hl hi
  rw [set_self hv] at e
  rw [← e]
  exact hs
theorem HRep.set_new {w : World} {l : List HProp} {h : Nat} {c : Cfg} {node : Nat} {rs : List Rw} {a ra : Option Addr} {n k rk i : Nat} {vs : List Value} {r' : Rw} {v : Value} (hl : vs.length = rs.length) (hi : i < rs.length)
    (hs : Sat w (Ints v r'.data :: cel h 86 (homeCells c node a n k (.slice ra rs.length rk)) :: Sl 79 3 (.slice ra rs.length rk) rs.length ((rwCells rs vs).take (i * 3) ++ r'.cells v ++ (rwCells rs vs).drop (i * 3 + 3)) :: (rwData rs vs ++ l))) : Sat w (HRep h c node (rs.set i r') :: l) := by
  refine HRep.open.2 ⟨a, n, k, ra, rk, vs.set i v, by simpa using hl, ?_⟩
  rw [List.length_set, ← rwCells_set rs vs i r' v hl hi]
  have h1 : Sat w (Ints v r'.data :: (rwData rs vs ++ (cel h 86 (homeCells c node a n k (.slice ra rs.length rk)) :: Sl 79 3 (.slice ra rs.length rk) rs.length ((rwCells rs vs).take (i * 3) ++ r'.cells v ++ (rwCells rs vs).drop (i * 3 + 3)) :: l))) := by
    refine hs.perm (List.Perm.cons _ ?_)
    simpa using (List.perm_append_comm_assoc [_, _] (rwData rs vs) l)
  have h2 := rwData_set rs vs i r' v hl hi h1
  refine h2.perm ?_
  simpa using (List.perm_append_comm_assoc (rwData (rs.set i r') (vs.set i v)) [_, _] l)
/-- A whole element of a slice of ours is stored. -/
theorem M_storeEl {P : Program} {a : Act} {w : World} {n : Nat} {m : List (Nat × Value)} {o : Oper} {x y : Operand} {T E : TypeId} {sz : Nat} {l : List HProp} {p : Option Addr} {b off N c : Nat} {xs : List Value} {A : Array Value} (H : Fr a n m) (ho : o.op = .store T x y) (i : Nat) (hx : ev m x = some (VPt b (off + i * sz))) (hy : ev m y = some (.agg A)) (hp : p = some ⟨b, off, none⟩) (hs : Sat w (Sl E sz (.slice p N c) N xs :: l)) (hz : (P.info? T).map (·.size) = some sz) (hA : A.toList.length = sz) (hi : i < N) (h1 : ∀ v ∈ A.toList, v.oneCell' = true) :
    Does P o a w fun _ w' => Sat w' (Sl E sz (.slice p N c) N (xs.take (i * sz) ++ A.toList ++ xs.drop (i * sz + sz)) :: l) := by
  subst hp
  rcases Sl.cases hs with ⟨e1, _⟩ | ⟨b', pre, suf, cap', e1, e2, e3, e4, e5, hs1⟩
  · cases e1
  cases e1
  have hix : i * sz + sz ≤ xs.length := by rw [e2, ← Nat.succ_mul]; exact Nat.mul_le_mul_right _ hi
  obtain ⟨t, ht, ht1⟩ : ∃ t, P.info? T = some t ∧ t.size = sz := by
    cases h : P.info? T with
    | none => rw [h] at hz; cases hz
    | some t => rw [h] at hz; simp at hz; exact ⟨t, rfl, hz⟩
  have hcell : ∀ j, j < A.toList.length → (w.cell? ⟨b, (pre.length + i * sz) + 0 + j, none⟩).isSome = true := by
    intro j hj
    rw [hs1.cell]
    have : (pre.length + i * sz) + 0 + j < (pre ++ xs ++ suf).length := by simp; omega
    rw [List.getElem?_eq_getElem this]; rfl
  have hst := run_storeCells_cells (P := P) b (pre.length + i * sz) A.toList 0 w hcell (fun j _ => hs1.free _) h1
  simp only [Nat.add_zero] at hst
  refine Does.of_skip (w' := w.setCells b (pre.length + i * sz) A.toList) ?_ ?_
  · have hAs : A.size = sz := by simpa using hA
    unfold execOp; rw [ho]
    simp [H.ev hx, H.ev hy, Instr.storeAt, Instr.sureAddr, storeVar, Value.cells, sizeOf, typeInfo, program, Sem.run, Result.andThen, ht, ht1, hAs]
    simp [hst]
  · have e : pre ++ xs ++ suf = (pre ++ xs.take (i * sz)) ++ (xs.drop (i * sz)).take sz ++ (xs.drop (i * sz + sz) ++ suf) := by
      conv => lhs; rw [← List.take_append_drop (i * sz) xs, ← List.take_append_drop sz (xs.drop (i * sz))]
      simp [List.append_assoc, List.drop_drop]
    rw [e] at hs1
    have h3 := hs1.setCells A.toList (by rw [hA, List.length_take, List.length_drop]; omega)
    have hl : (pre ++ xs.take (i * sz)).length = pre.length + i * sz := by rw [List.length_append, List.length_take]; omega
    rw [hl] at h3
    have h4 : Sat (w.setCells b (pre.length + i * sz) A.toList) (cel b E (pre ++ (xs.take (i * sz) ++ A.toList ++ xs.drop (i * sz + sz)) ++ suf) :: l) := by
      simpa [List.append_assoc] using h3
    have hlen : (xs.take (i * sz) ++ A.toList ++ xs.drop (i * sz + sz)).length = xs.length := by
      simp only [List.length_append, List.length_take, List.length_drop, hA]; omega
    exact Sl.mk h4 (by rw [hlen, e2]) e3 e4 (by rw [hlen]; exact e5)
end Go.Proofs.Ytaekiecidbhjhaa
