/- MemdirRows: the law's own map beside the machine's rows. -/
import Derived.Test.YtaekiecidbhjhaaInv9
import Derived.Test.YtaekiecidbhjhaaMem4
namespace Go.Proofs.Ytaekiecidbhjhaa
open Go.RowKit

theorem mt_mi : MpTy Try.prog 88 22 VNil := MpTy.of (by kernel_rfl) (by kernel_rfl)
theorem lines_keys (c : Cfg) (node : Nat) : linesOf c (rows0 c node c.lines) c.lines = rwKeys (rows0 c node c.lines) := by
  rw [linesOf_rows0]
  unfold rwKeys rows0
  rw [List.map_map]; rfl
theorem linesOf_keys {c : Cfg} {a b : List Rw} (h : rwKeys a = rwKeys b) (n : Nat) : linesOf c a n = linesOf c b n := by
  unfold linesOf; rw [h]
theorem keyAt_of {L : List Int} (h : L.Pairwise (· < ·)) {i : Nat} {x : Int} (hi : L[i]? = some x) : keyAt L x = some i := by
  have hs : (keyAt L x).isSome = true := by
    unfold keyAt
    rw [List.findIdx?_isSome, List.any_eq_true]
    exact ⟨x, List.mem_of_getElem? hi, by simp⟩
  obtain ⟨j, hj⟩ := Option.isSome_iff_exists.1 hs
  rw [hj, sorted_once h (keyAt_lt hj) hi]
theorem keyAt_take {L : List Int} (h : L.Pairwise (· < ·)) {i : Nat} {x : Int} (hi : L[i]? = some x) : keyAt (L.take i) x = none := by
  unfold keyAt
  rw [List.findIdx?_eq_none_iff]
  intro k hk
  obtain ⟨q, hq⟩ := List.getElem?_of_mem hk
  rw [List.getElem?_take] at hq
  split at hq
  · rename_i hlt
    simp
    intro e
    subst e
    have := sorted_once h hq hi
    omega
  · cases hq
theorem take_more {α : Type} {L : List α} {i : Nat} {r : α} (h : L[i]? = some r) : L.take (i + 1) = L.take i ++ [r] := by
  rw [List.take_add_one, h]; rfl
theorem rwKeys_get {rs : List Rw} {j : Nat} {q : Int} (h : (rwKeys rs)[j]? = some q) : ∃ r, rs[j]? = some r ∧ r.line = q := by
  rw [List.getElem?_map] at h
  cases hr : rs[j]? with
  | none => rw [hr] at h; cases h
  | some r => rw [hr] at h; simp at h; exact ⟨r, rfl, h⟩
/-- The rows have the lines of the home, each with its words. -/
def Iv (c : Cfg) (mrs : List Rw) : Prop := rwKeys mrs = rwKeys (rows0 c 0 c.lines) ∧ ∀ (j : Nat) (r : Rw), mrs[j]? = some r → r.data.length = c.words
theorem Iv.init (c : Cfg) : Iv c (rows0 c 0 c.lines) := by
  refine ⟨rfl, fun j r h => ?_⟩
  obtain ⟨x, _, _, rfl⟩ := rows0_mem (List.mem_of_getElem? h)
  exact cwords_len _ _
theorem Iv.sorted {c : Cfg} {mrs : List Rw} (I : Iv c mrs) : (rwKeys mrs).Pairwise (· < ·) := by rw [I.1]; exact rows0_sorted _ _ _
theorem Iv.find {c : Cfg} {mrs : List Rw} (I : Iv c mrs) (y : Nat) (hy : y < c.lines) (hm : y % c.nodes = 0) : ∃ (j : Nat) (r : Rw), keyAt (rwKeys mrs) (y : Int) = some j ∧ mrs[j]? = some r ∧ r.line = (y : Int) ∧ r.data.length = c.words := by
  obtain ⟨j, hj, _⟩ := rows0_at c 0 c.lines y hy hm
  rw [← I.1] at hj
  obtain ⟨r, hr, hl⟩ := rwKeys_get (keyAt_lt hj)
  exact ⟨j, r, hj, hr, hl, I.2 j r hr⟩
theorem Iv.set {c : Cfg} {mrs : List Rw} (I : Iv c mrs) {j : Nat} {r r' : Rw} (hr : mrs[j]? = some r) (hl : r'.line = r.line) (hd : r'.data.length = c.words) : Iv c (mrs.set j r') := by
  refine ⟨by rw [rwKeys_set (r := r) (r' := r') hr hl, I.1], fun i q hq => ?_⟩
  by_cases e : i = j
  · subst e
    rw [List.getElem?_set_self (List.getElem?_eq_some_iff.1 hr).1] at hq
    cases hq; exact hd
  · rw [List.getElem?_set_ne (Ne.symm e)] at hq
    exact I.2 i q hq
/-- The law's map: of each line its data. -/
def LRep (b : Nat) (rs : List Rw) : HProp := Ex fun vs : List Value => [Pur (vs.length = rs.length), Mq b (rwKeys rs) vs, Star (rwData rs vs)]
theorem LRep.open {w : World} {l : List HProp} {b : Nat} {rs : List Rw} : Sat w (LRep b rs :: l) ↔ ∃ vs : List Value, vs.length = rs.length ∧ Sat w (Mq b (rwKeys rs) vs :: (rwData rs vs ++ l)) := by
  unfold LRep
  rw [Sat.ex]
  constructor
  · rintro ⟨vs, h⟩
    obtain ⟨h1, h2⟩ := Sat.pur.1 h
    refine ⟨vs, h1, ?_⟩
    have h3 := Sat.app.1 (h2.p1)
    exact (h3.perm (by simp))
  · rintro ⟨vs, h1, h2⟩
    refine ⟨vs, Sat.pur.2 ⟨h1, ?_⟩⟩
    have h3 : Sat w (rwData rs vs ++ (Mq b (rwKeys rs) vs :: l)) := h2.perm (by simpa using (List.perm_append_comm_assoc (rwData rs vs) [_] l).symm)
    exact (Sat.app.2 h3).perm (List.Perm.swap _ _ _)
theorem LRep.nil {w : World} {l : List HProp} {b : Nat} (hs : Sat w (Mq b [] [] :: l)) : Sat w (LRep b [] :: l) := LRep.open.2 ⟨[], rfl, hs⟩
theorem LRep.same {w : World} {l : List HProp} {b j : Nat} {rs : List Rw} {r r' : Rw} (hr : rs[j]? = some r) (hl : r'.line = r.line) (hd : r'.data = r.data) (hs : Sat w (LRep b rs :: l)) : Sat w (LRep b (rs.set j r') :: l) := by
  obtain ⟨vs, h1, h2⟩ := LRep.open.1 hs
  refine LRep.open.2 ⟨vs, by simpa using h1, ?_⟩
  rw [rwKeys_set (r := r) (r' := r') hr hl, rwData_same _ _ _ _ _ hr hd]
  exact h2
theorem LRep.open3 {w : World} {l : List HProp} {A B : HProp} {b : Nat} {rs : List Rw} (hs : Sat w (LRep b rs :: A :: B :: l)) : ∃ vs : List Value, vs.length = rs.length ∧ Sat w (Mq b (rwKeys rs) vs :: A :: B :: (rwData rs vs ++ l)) := by
  obtain ⟨vs, h1, h2⟩ := LRep.open.1 hs
  exact ⟨vs, h1, h2.perm (List.Perm.cons _ (by simpa using (List.perm_append_comm_assoc (rwData rs vs) [A, B] l)))⟩
theorem LRep.shut3 {w : World} {l : List HProp} {A B : HProp} {b : Nat} {rs : List Rw} {vs : List Value} (h1 : vs.length = rs.length) (hs : Sat w (Mq b (rwKeys rs) vs :: A :: B :: (rwData rs vs ++ l))) : Sat w (LRep b rs :: A :: B :: l) :=
  LRep.open.2 ⟨vs, h1, hs.perm (List.Perm.cons _ (by simpa using (List.perm_append_comm_assoc [A, B] (rwData rs vs) l)))⟩
section
variable {P : Program} {a : Act} {w : World} {n : Nat} {m : List (Nat × Value)} {o : Oper} {x y z : Operand} {T E : TypeId} {l : List HProp} {b : Nat} {rs : List Rw} {i : Int} {v zv : Value} {r r' : Rw}
theorem L_new (H : Fr a n m) (ho : o.op = .mapUpdate T x y z) (ht : MpTy P T E zv) (hx : ev m x = some (.map (some b))) (hy : ev m y = some (.int .i64 r.line)) (hz : ev m z = some v) (hs : Sat w (Ints v r.data :: LRep b rs :: l)) (hj : keyAt (rwKeys rs) r.line = none) :
    Does P o a w fun _ w' => Sat w' (LRep b (rs ++ [r]) :: l) := by
  obtain ⟨vs, h1, h2⟩ := LRep.open.1 hs.p1
  intro K Q hk
  refine Q_mapNew H ho ht hx hy hz h2 hj K Q fun v' w' h3 => hk _ _ (LRep.open.2 ⟨vs ++ [v], by simp [h1], ?_⟩)
  rw [rwData_app _ _ _ _ h1]
  have e1 : rwKeys (rs ++ [r]) = rwKeys rs ++ [r.line] := by simp [rwKeys]
  rw [e1]
  simpa [rwData] using h3
theorem L_old {j : Nat} (H : Fr a n m) (ho : o.op = .mapUpdate T x y z) (ht : MpTy P T E zv) (hx : ev m x = some (.map (some b))) (hy : ev m y = some (.int .i64 i)) (hz : ev m z = some v) (hs : Sat w (Ints v r'.data :: LRep b rs :: l)) (hj : keyAt (rwKeys rs) i = some j) (hr : rs[j]? = some r) (hl : r'.line = r.line) :
    Does P o a w fun _ w' => Sat w' (LRep b (rs.set j r') :: l) := by
  obtain ⟨vs, h1, h2⟩ := LRep.open.1 hs.p1
  obtain ⟨u, hu⟩ := rw_at h1 hr
  intro K Q hk
  refine Q_mapOld H ho ht hx hy hz h2 hj hu K Q fun v' w' h3 => hk _ _ (LRep.open.2 ⟨vs.set j v, by simpa using h1, ?_⟩)
  rw [rwKeys_set (r := r) (r' := r') hr hl]
  have hjl := (List.getElem?_eq_some_iff.1 hr).1
  have h4 : Sat w' (Ints v r'.data :: (rwData rs vs ++ (Mq b (rwKeys rs) (vs.set j v) :: l))) := by
    refine h3.perm ?_
    have := (List.perm_append_comm_assoc [Mq b (rwKeys rs) (vs.set j v)] (rwData rs vs ++ [Ints v r'.data]) l)
    refine (by simpa using this : List.Perm _ _).trans ?_
    exact List.perm_middle
  have h5 := rwData_set rs vs j r' v h1 hjl h4
  exact h5.perm (by simp)
theorem Y_lenL (H : Fr a n m) (ho : o.op = .call { callee := .builtin .len, args := #[x], argTypes := #[T] }) (ht : MpTy P T E zv) (hx : ev m x = some (.map (some b))) (hs : Sat w (LRep b rs :: l)) : Yl P o a w (.int .i64 (rwKeys rs).length) := by
  obtain ⟨vs, _, h2⟩ := LRep.open.1 hs
  exact Y_lenQ H ho ht hx h2
theorem M_entry {q k : Nat} {ks : List Int} {vs : List Value} (H : Fr a n m) (ho : o.op = .entry x) (hx : ev m x = some (VPt q 0)) (hs : Sat w (MqIt b q ks vs k true :: l)) :
    Does P o a w fun v w' => ∃ (j : Nat) (i : Int) (u : Value), ks[j]? = some i ∧ vs[j]? = some u ∧ v = .tuple #[.int .i64 i, u] ∧ w = w' := by
  obtain ⟨j, i, u, h1, h2, h3⟩ := Y_entry (P := P) (o := o) H ho hx hs
  exact Does.of_value h3 ⟨j, i, u, h1, h2, rfl, rfl⟩
end
end Go.Proofs.Ytaekiecidbhjhaa
