/- memdir.Dir: its rows, its representation. -/
import Derived.Test.YtaekiecidbhjhaaCfg2
namespace Go.Proofs.Ytaekiecidbhjhaa
open Go.RowKit

/-- What a home knows of a line. -/
structure Rw where
  line : Int
  st : Int
  hd : Int
  data : List Int
abbrev Rw.cells (r : Rw) (v : Value) : List Value := [VI r.st, VI r.hd, v]
abbrev Rw.val (r : Rw) (v : Value) : Value := .agg #[VI r.st, VI r.hd, v]
theorem one_row (x y : Int) (a : Option Addr) (n k : Nat) : ∀ u ∈ [VI x, VI y, .slice a n k], u.oneCell' = true := by
  intro u hu
  simp at hu
  rcases hu with rfl | rfl | rfl <;> rfl
abbrev rwKeys (rs : List Rw) : List Int := rs.map (·.line)
def rwVals : List Rw → List Value → List Value
  | r :: rs, v :: vs => r.val v :: rwVals rs vs
  | _, _ => []
def rwData : List Rw → List Value → List HProp
  | r :: rs, v :: vs => Ints v r.data :: rwData rs vs
  | _, _ => []
theorem rwVals_get : ∀ (rs : List Rw) (vs : List Value) (j : Nat) (r : Rw) (v : Value), rs[j]? = some r → vs[j]? = some v → (rwVals rs vs)[j]? = some (r.val v)
  | r :: rs, v :: vs, 0, r', v', h1, h2 => by simp at h1 h2; subst h1; subst h2; rfl
  | r :: rs, v :: vs, j + 1, r', v', h1, h2 => by simpa [rwVals] using rwVals_get rs vs j r' v' (by simpa using h1) (by simpa using h2)
  | [], _, _, _, _, h, _ => by simp at h
  | _ :: _, [], _, _, _, _, h => by simp at h
theorem rwVals_app : ∀ (rs qs : List Rw) (vs us : List Value), vs.length = rs.length → rwVals (rs ++ qs) (vs ++ us) = rwVals rs vs ++ rwVals qs us
  | [], _, [], _, _ => rfl
  | r :: rs, qs, v :: vs, us, h => by simp only [List.cons_append, rwVals, rwVals_app rs qs vs us (by simpa using h)]
  | [], _, _ :: _, _, h => by simp at h
  | _ :: _, _, [], _, h => by simp at h
theorem rwData_app : ∀ (rs qs : List Rw) (vs us : List Value), vs.length = rs.length → rwData (rs ++ qs) (vs ++ us) = rwData rs vs ++ rwData qs us
  | [], _, [], _, _ => rfl
  | r :: rs, qs, v :: vs, us, h => by simp only [List.cons_append, rwData, rwData_app rs qs vs us (by simpa using h)]
  | [], _, _ :: _, _, h => by simp at h
  | _ :: _, _, [], _, h => by simp at h
theorem rwVals_set : ∀ (rs : List Rw) (vs : List Value) (j : Nat) (r : Rw) (v : Value), vs.length = rs.length → (rwVals rs vs).set j (r.val v) = rwVals (rs.set j r) (vs.set j v)
  | [], [], j, _, _, _ => by simp [rwVals]
  | r :: rs, v :: vs, 0, _, _, _ => rfl
  | r :: rs, v :: vs, j + 1, r', v', h => by simp [rwVals, rwVals_set rs vs j r' v' (by simpa using h)]
  | [], _ :: _, _, _, _, h => by simp at h
  | _ :: _, [], _, _, _, h => by simp at h
theorem rwData_mem : ∀ (rs : List Rw) (vs : List Value) (j : Nat) (r : Rw) (v : Value), rs[j]? = some r → vs[j]? = some v → Ints v r.data ∈ rwData rs vs
  | r :: rs, v :: vs, 0, r', v', h1, h2 => by simp at h1 h2; subst h1; subst h2; exact List.mem_cons_self
  | r :: rs, v :: vs, j + 1, r', v', h1, h2 => List.mem_cons_of_mem _ (rwData_mem rs vs j r' v' (by simpa using h1) (by simpa using h2))
  | [], _, _, _, _, h, _ => by simp at h
  | _ :: _, [], _, _, _, _, h => by simp at h
/-- Row j is another one, with data of its own. -/
theorem rwData_set : ∀ (rs : List Rw) (vs : List Value) (j : Nat) (r : Rw) (v : Value) {w : World} {l : List HProp}, vs.length = rs.length → j < rs.length → Sat w (Ints v r.data :: (rwData rs vs ++ l)) → Sat w (rwData (rs.set j r) (vs.set j v) ++ l)
  | r :: rs, v :: vs, 0, r', v', w, l, _, _, hs => by simpa [rwData] using hs.d1
  | r :: rs, v :: vs, j + 1, r', v', w, l, h, hj, hs => by
    have h1 : Sat w (Ints v' r'.data :: (rwData rs vs ++ Ints v r.data :: l)) := by
      have := Sat.push (l1 := Ints v' r'.data :: rwData rs vs) (l2 := l) (A := Ints v r.data) (by simpa [rwData] using hs.p1)
      simpa using this
    have h2 := rwData_set rs vs j r' v' (l := Ints v r.data :: l) (by simpa using h) (by simpa using hj) h1
    have h3 := Sat.pull h2
    simpa [rwData] using h3
  | [], _, _, _, _, _, _, _, hj, _ => by simp at hj
  | _ :: _, [], _, _, _, _, _, h, _, _ => by simp at h
/-- Row j is another one, its data are the same. -/
theorem rwData_same : ∀ (rs : List Rw) (vs : List Value) (j : Nat) (r r' : Rw), rs[j]? = some r → r'.data = r.data → rwData (rs.set j r') vs = rwData rs vs
  | r :: rs, v :: vs, 0, _, r', h, hd => by simp at h; subst h; simp [rwData, hd]
  | r :: rs, v :: vs, j + 1, r1, r', h, hd => by simp [rwData, rwData_same rs vs j r1 r' (by simpa using h) hd]
  | [], _, _, _, _, h, _ => by simp at h
  | r :: rs, [], 0, _, _, _, _ => by simp [rwData]
  | r :: rs, [], j + 1, _, _, _, _ => by simp [rwData]

/-- A home's rows. -/
def DRep (d : Nat) (c : Cfg) (rs : List Rw) : HProp := Ex fun q : Value × Nat × List Value => [Pur (q.2.2.length = rs.length ∧ ∃ a n k, q.1 = .slice a n k), cel d 110 (c.cells q.1 ++ [.map (some q.2.1)]), Mp q.2.1 (rwKeys rs) (rwVals rs q.2.2), Star (rwData rs q.2.2)]
theorem DRep.open {w : World} {l : List HProp} {d : Nat} {c : Cfg} {rs : List Rw} : Sat w (DRep d c rs :: l) ↔ ∃ (a : Option Addr) (n k b : Nat) (vs : List Value), vs.length = rs.length ∧ Sat w (cel d 110 [VI c.nodes, VI c.lines, VI c.words, VI c.sets, VI c.ways, VI c.out, VI c.in_, .slice a n k, .map (some b)] :: Mp b (rwKeys rs) (rwVals rs vs) :: (rwData rs vs ++ l)) := by
  unfold DRep
  rw [Sat.ex]
  constructor
  · rintro ⟨⟨v, b, vs⟩, h⟩
    obtain ⟨⟨h1, a, n, k, rfl⟩, h2⟩ := Sat.pur.1 h
    refine ⟨a, n, k, b, vs, h1, ?_⟩
    have h3 := Sat.app.1 (h2.p2)
    exact (h3.perm (by simpa using List.perm_append_comm_assoc _ [_, _] _))
  · rintro ⟨a, n, k, b, vs, h1, h2⟩
    refine ⟨(.slice a n k, b, vs), Sat.pur.2 ⟨⟨h1, a, n, k, rfl⟩, ?_⟩⟩
    have h3 : Sat w (rwData rs vs ++ (cel d 110 [VI c.nodes, VI c.lines, VI c.words, VI c.sets, VI c.ways, VI c.out, VI c.in_, .slice a n k, .map (some b)] :: Mp b (rwKeys rs) (rwVals rs vs) :: l)) := h2.perm (by simpa using (List.perm_append_comm_assoc (rwData rs vs) [_, _] l).symm)
    have h4 := Sat.app.2 h3
    exact h4.perm (by
      refine List.Perm.trans (List.Perm.swap _ _ _) (List.Perm.cons _ (List.Perm.swap _ _ _)))

/-- The rows at first, of the lines below n. -/
def rows0 (c : Cfg) (node n : Nat) : List Rw := ((List.range n).filter fun l => l % c.nodes == node).map fun l : Nat => (⟨(l : Int), 0, -1, cwords c l⟩ : Rw)
theorem rows0_succ (c : Cfg) (node n : Nat) : rows0 c node (n + 1) = rows0 c node n ++ (if n % c.nodes = node then [(⟨(n : Int), 0, -1, cwords c n⟩ : Rw)] else []) := by
  unfold rows0
  rw [List.range_succ, List.filter_append, List.map_append]
  by_cases h : n % c.nodes = node <;> simp [h]
theorem rows0_none (c : Cfg) (node n : Nat) (x : Int) (h : (n : Int) ≤ x) : keyAt (rwKeys (rows0 c node n)) x = none := by
  unfold keyAt
  rw [List.findIdx?_eq_none_iff]
  intro y hy
  simp only [rwKeys, rows0, List.map_map, List.mem_map, List.mem_filter, List.mem_range] at hy
  obtain ⟨q, ⟨h1, _⟩, rfl⟩ := hy
  simp
  omega
theorem home_nat (i k : Nat) : homeOf (i : Int) k = ((i % k : Nat) : Int) := by
  unfold homeOf
  rw [if_neg (by omega), Int.natCast_emod]
theorem home_eq (i k node : Nat) : homeOf (i : Int) k = (node : Int) ↔ i % k = node := by
  rw [home_nat]; omega
theorem mt_row : MpTy Try.prog 108 32 (.agg #[VI 0, VI 0, VNil]) := MpTy.of (by kernel_rfl) (by kernel_rfl)
/-- One row more. -/
theorem rows_more {w : World} {l : List HProp} {A B : HProp} {b : Nat} {rs : List Rw} {vs : List Value} {r : Rw} {v : Value} (h : vs.length = rs.length) (hs : Sat w (Ints v r.data :: A :: B :: Mp b (rwKeys rs ++ [r.line]) (rwVals rs vs ++ [r.val v]) :: (rwData rs vs ++ l))) :
    Sat w (A :: B :: Mp b (rwKeys (rs ++ [r])) (rwVals (rs ++ [r]) (vs ++ [v])) :: (rwData (rs ++ [r]) (vs ++ [v]) ++ l)) := by
  rw [rwVals_app _ _ _ _ h, rwData_app _ _ _ _ h]
  have e1 : rwKeys (rs ++ [r]) = rwKeys rs ++ [r.line] := by simp [rwKeys]
  rw [e1]
  simp only [rwVals, rwData, List.append_assoc, List.cons_append, List.nil_append]
  exact Sat.push (l1 := A :: B :: Mp b (rwKeys rs ++ [r.line]) (rwVals rs vs ++ [r.val v]) :: rwData rs vs) hs
theorem keyAt_lt {ks : List Int} {x : Int} {j : Nat} (h : keyAt ks x = some j) : ks[j]? = some x := by
  unfold keyAt at h
  obtain ⟨h1, h2, _⟩ := List.findIdx?_eq_some_iff_getElem.1 h
  simp at h2
  rw [List.getElem?_eq_getElem h1, h2]
theorem rw_at {rs : List Rw} {vs : List Value} (h : vs.length = rs.length) {j : Nat} {r : Rw} (hr : rs[j]? = some r) : ∃ v, vs[j]? = some v := by
  have := (List.getElem?_eq_some_iff.1 hr).1
  exact ⟨vs[j]'(by omega), by simp [h, this]⟩
abbrev dirCells (c : Cfg) (a : Option Addr) (n k b : Nat) : List Value := [VI c.nodes, VI c.lines, VI c.words, VI c.sets, VI c.ways, VI c.out, VI c.in_, .slice a n k, .map (some b)]
theorem DRep.shut1 {w : World} {l : List HProp} {U : HProp} {d : Nat} {c : Cfg} {rs : List Rw} {a : Option Addr} {n k b : Nat} {vs : List Value} (h : vs.length = rs.length) (hs : Sat w (U :: cel d 110 (dirCells c a n k b) :: Mp b (rwKeys rs) (rwVals rs vs) :: (rwData rs vs ++ l))) : Sat w (U :: DRep d c rs :: l) :=
  (DRep.open.2 ⟨a, n, k, b, vs, h, Sat.push (l1 := _ :: _ :: rwData rs vs) hs⟩).p1
theorem rwKeys_set {rs : List Rw} {j : Nat} {r r' : Rw} (hr : rs[j]? = some r) (h : r'.line = r.line) : rwKeys (rs.set j r') = rwKeys rs := by
  unfold rwKeys
  rw [List.map_set]
  apply List.ext_getElem?
  intro i
  rw [List.getElem?_set]
  split
  · rename_i e; subst e
    have hl := (List.getElem?_eq_some_iff.1 hr).1
    simp [hl, h, (List.getElem?_eq_some_iff.1 hr).2]
  · rfl
theorem set_self {vs : List Value} {j : Nat} {v : Value} (hv : vs[j]? = some v) : vs.set j v = vs := by
  apply List.ext_getElem?
  intro i
  rw [List.getElem?_set]
  split
  · rename_i e; subst e
    simp [(List.getElem?_eq_some_iff.1 hv).1, (List.getElem?_eq_some_iff.1 hv).2]
  · rfl
theorem DRep.set_same {w : World} {l : List HProp} {d : Nat} {c : Cfg} {rs : List Rw} {a : Option Addr} {n k b j : Nat} {vs : List Value} {r r' : Rw} {v : Value} (h : vs.length = rs.length) (hr : rs[j]? = some r) (hv : vs[j]? = some v) (hl : r'.line = r.line) (hd : r'.data = r.data)
    (hs : Sat w (cel d 110 (dirCells c a n k b) :: Mp b (rwKeys rs) ((rwVals rs vs).set j (r'.val v)) :: (rwData rs vs ++ l))) : Sat w (DRep d c (rs.set j r') :: l) := by
  refine DRep.open.2 ⟨a, n, k, b, vs, by simpa using h, ?_⟩
  rw [rwKeys_set hr hl, rwData_same _ _ _ _ _ hr hd]
  have e := rwVals_set rs vs j r' v h
  rw [set_self hv] at e
  rw [← e]
  exact hs
theorem DRep.set_new {w : World} {l : List HProp} {d : Nat} {c : Cfg} {rs : List Rw} {a : Option Addr} {n k b j : Nat} {vs : List Value} {r r' : Rw} {v : Value} (h : vs.length = rs.length) (hr : rs[j]? = some r) (hl : r'.line = r.line)
    (hs : Sat w (Ints v r'.data :: cel d 110 (dirCells c a n k b) :: Mp b (rwKeys rs) ((rwVals rs vs).set j (r'.val v)) :: (rwData rs vs ++ l))) : Sat w (DRep d c (rs.set j r') :: l) := by
  refine DRep.open.2 ⟨a, n, k, b, vs.set j v, by simpa using h, ?_⟩
  rw [rwKeys_set hr hl, ← rwVals_set rs vs j r' v h]
  have hj := (List.getElem?_eq_some_iff.1 hr).1
  have h1 : Sat w (Ints v r'.data :: (rwData rs vs ++ (cel d 110 (dirCells c a n k b) :: Mp b (rwKeys rs) ((rwVals rs vs).set j (r'.val v)) :: l))) := by
    refine hs.perm (List.Perm.cons _ ?_)
    simpa using (List.perm_append_comm_assoc [_, _] (rwData rs vs) l)
  have h2 := rwData_set rs vs j r' v h hj h1
  refine h2.perm ?_
  simpa using (List.perm_append_comm_assoc (rwData (rs.set j r') (vs.set j v)) [_, _] l)
/-- The lines that a home has. -/
def linesOf (c : Cfg) (rs : List Rw) (n : Nat) : List Int := ((List.range n).filter fun l : Nat => (keyAt (rwKeys rs) (l : Int)).isSome).map fun l : Nat => (l : Int)
theorem linesOf_succ (c : Cfg) (rs : List Rw) (n : Nat) : linesOf c rs (n + 1) = linesOf c rs n ++ (if (keyAt (rwKeys rs) (n : Int)).isSome then [(n : Int)] else []) := by
  unfold linesOf
  rw [List.range_succ, List.filter_append, List.map_append]
  cases h : keyAt (rwKeys rs) (n : Int) <;> simp [h]
theorem linesOf_len (c : Cfg) (rs : List Rw) (n : Nat) : (linesOf c rs n).length ≤ n := by
  unfold linesOf
  rw [List.length_map]
  exact Nat.le_trans (List.length_filter_le _ _) (by simp)
end Go.Proofs.Ytaekiecidbhjhaa
