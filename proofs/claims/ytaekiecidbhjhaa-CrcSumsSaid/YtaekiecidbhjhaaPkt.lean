/- Packets: their cells; packets in a slice that is ours, each with its own data. -/
import Derived.Test.YtaekiecidbhjhaaBase1
namespace Go.Proofs.Ytaekiecidbhjhaa
open Go.RowKit

theorem und_pkt : ∃ fs, Try.prog.underlying 43 = some (.struct fs) := isStruct.out (by kernel_rfl)
theorem size_pkt : (Try.prog.info? 43).map (·.size) = some 9 := by kernel_rfl

/-- A packet. -/
structure Pkt where
  kind : Int
  src : Int
  dst : Int
  id : Int
  line : Int
  ptr : Int
  state : Int
  flag : Bool
  data : List Int
/-- A packet's cells, its data at v. -/
abbrev Pkt.cells (p : Pkt) (v : Value) : List Value := [VI p.kind, VI p.src, VI p.dst, VI p.id, VI p.line, VI p.ptr, VI p.state, VB p.flag, v]
def Pkt.zero : Pkt := ⟨0, 0, 0, 0, 0, 0, 0, false, []⟩
/-- A packet as a value. -/
abbrev Pkt.val (p : Pkt) (v : Value) : Value := .agg #[VI p.kind, VI p.src, VI p.dst, VI p.id, VI p.line, VI p.ptr, VI p.state, VB p.flag, v]
theorem zeroPkt_val : Pkt.zero.val VNil = .agg #[VI 0, VI 0, VI 0, VI 0, VI 0, VI 0, VI 0, VB false, VNil] := rfl

def pkCells : List Pkt → List Value → List Value
  | p :: ps, v :: vs => p.cells v ++ pkCells ps vs
  | _, _ => []
def pkData : List Pkt → List Value → List HProp
  | p :: ps, v :: vs => Ints v p.data :: pkData ps vs
  | _, _ => []
/-- Packets in a slice that is ours, each with its own data. -/
def PkQ (v : Value) (ps : List Pkt) : HProp := Ex fun vs : List Value => [Pur (vs.length = ps.length), Sl 43 9 v ps.length (pkCells ps vs), Star (pkData ps vs)]

theorem pkCells_len : ∀ (ps : List Pkt) (vs : List Value), vs.length = ps.length → (pkCells ps vs).length = ps.length * 9
  | [], [], _ => rfl
  | p :: ps, v :: vs, h => by
    simp only [pkCells, List.length_append, List.length_cons, pkCells_len ps vs (by simpa using h)]
    simp [Pkt.cells]; omega
  | [], _ :: _, h => by simp at h
  | _ :: _, [], h => by simp at h
theorem pkCells_app : ∀ (ps qs : List Pkt) (vs us : List Value), vs.length = ps.length → pkCells (ps ++ qs) (vs ++ us) = pkCells ps vs ++ pkCells qs us
  | [], _, [], _, _ => rfl
  | p :: ps, qs, v :: vs, us, h => by simp only [List.cons_append, pkCells, pkCells_app ps qs vs us (by simpa using h), List.append_assoc]
  | [], _, _ :: _, _, h => by simp at h
  | _ :: _, _, [], _, h => by simp at h
theorem pkData_app : ∀ (ps qs : List Pkt) (vs us : List Value), vs.length = ps.length → pkData (ps ++ qs) (vs ++ us) = pkData ps vs ++ pkData qs us
  | [], _, [], _, _ => rfl
  | p :: ps, qs, v :: vs, us, h => by simp only [List.cons_append, pkData, pkData_app ps qs vs us (by simpa using h)]
  | [], _, _ :: _, _, h => by simp at h
  | _ :: _, _, [], _, h => by simp at h
theorem PkQ.open {w : World} {l : List HProp} {v : Value} {ps : List Pkt} : Sat w (PkQ v ps :: l) ↔ ∃ vs : List Value, vs.length = ps.length ∧ Sat w (Sl 43 9 v ps.length (pkCells ps vs) :: (pkData ps vs ++ l)) := by
  unfold PkQ
  rw [Sat.ex]
  constructor
  · rintro ⟨vs, h⟩
    obtain ⟨h1, h2⟩ := Sat.pur.1 h
    exact ⟨vs, h1, (Sat.app.1 h2.p1).perm (by simp)⟩
  · rintro ⟨vs, h1, h2⟩
    exact ⟨vs, Sat.pur.2 ⟨h1, Sat.p1 (Sat.app.2 (h2.perm (by simpa using List.perm_middle.symm)))⟩⟩
theorem PkQ.nil {w : World} {l : List HProp} (hs : Sat w l) : Sat w (PkQ VNil [] :: l) := PkQ.open.2 ⟨[], rfl, Sl.nil _ _ w _ hs⟩
/-- Packet i of ps: its cells, its data. -/
theorem pk_get : ∀ (ps : List Pkt) (vs : List Value), vs.length = ps.length → ∀ (i : Nat) (p : Pkt), ps[i]? = some p → ∃ u, vs[i]? = some u ∧ (∀ j x, (p.cells u)[j]? = some x → (pkCells ps vs)[i * 9 + j]? = some x)
  | p :: ps, v :: vs, h, 0, q, hq => by
    simp at hq; subst hq
    refine ⟨v, rfl, fun j x hx => ?_⟩
    simp only [pkCells, Nat.zero_mul, Nat.zero_add]
    rw [List.getElem?_append_left (List.getElem?_eq_some_iff.1 hx).1]; exact hx
  | p :: ps, v :: vs, h, i + 1, q, hq => by
    obtain ⟨u, h1, h2⟩ := pk_get ps vs (by simpa using h) i q (by simpa using hq)
    refine ⟨u, by simpa using h1, fun j x hx => ?_⟩
    have h9 : (p.cells v).length = 9 := rfl
    simp only [pkCells]
    rw [List.getElem?_append_right (by omega), h9, show (i + 1) * 9 + j - 9 = i * 9 + j by omega]
    exact h2 j x hx
  | [], _, _, _, _, hq => by simp at hq
  | _ :: _, [], h, _, _, _ => by simp at h
theorem pkData_mem : ∀ (ps : List Pkt) (vs : List Value), vs.length = ps.length → ∀ (i : Nat) (p : Pkt) (u : Value), ps[i]? = some p → vs[i]? = some u → Ints u p.data ∈ pkData ps vs
  | p :: ps, v :: vs, h, 0, q, u, hq, hu => by simp at hq hu; subst hq; subst hu; exact List.mem_cons_self
  | p :: ps, v :: vs, h, i + 1, q, u, hq, hu => List.mem_cons_of_mem _ (pkData_mem ps vs (by simpa using h) i q u (by simpa using hq) (by simpa using hu))
  | [], _, _, _, _, _, hq, _ => by simp at hq
  | _ :: _, [], h, _, _, _, _, _ => by simp at h
theorem Sat.mem {w : World} {l : List HProp} {A : HProp} (hs : Sat w l) (h : A ∈ l) : Sat w [A] := by
  obtain ⟨l1, l2, rfl⟩ := List.append_of_mem h
  have h1 := Sat.pull hs
  exact h1.perm (l' := [A] ++ (l1 ++ l2)) (List.Perm.refl _) |> fun h2 => h2.imp (l' := [A]) fun _ hh => by
    obtain ⟨a, b, d, e, hA, _⟩ := hh
    exact ⟨a, b, d, e, hA, trivial⟩
/-- Packet i can be read. -/
theorem PkQ.get {w : World} {l : List HProp} {v : Value} {ps : List Pkt} (hs : Sat w (PkQ v ps :: l)) (i : Nat) (p : Pkt) (hi : ps[i]? = some p) :
    ∃ b off cap u, v = .slice (some ⟨b, off, none⟩) ps.length cap ∧ (∀ j x, (p.cells u)[j]? = some x → w.cell? ⟨b, off + (i * 9 + j), none⟩ = some x) ∧ RdI w u p.data := by
  obtain ⟨vs, h1, h2⟩ := PkQ.open.1 hs
  obtain ⟨u, h3, h4⟩ := pk_get ps vs h1 i p hi
  have hne : pkCells ps vs ≠ [] := by
    intro h
    have := h4 0 (VI p.kind) rfl
    rw [h] at this; cases this
  obtain ⟨b, off, cap, rfl, _, _, _, h5⟩ := (Sl.rd h2).at hne
  refine ⟨b, off, cap, u, rfl, fun j x hx => h5 _ _ (h4 j x hx), ?_⟩
  have hm := pkData_mem ps vs h1 i p u hi h3
  exact Ints.rd (h2.mem (A := Ints u p.data) (List.mem_cons_of_mem _ (List.mem_append_left _ hm)))
theorem PkQ.val {w : World} {l : List HProp} {v : Value} {ps : List Pkt} (hs : Sat w (PkQ v ps :: l)) : ∃ a cap, v = .slice a ps.length cap ∧ ps.length ≤ cap ∧ cap ≤ maxLen := by
  obtain ⟨vs, h1, h2⟩ := PkQ.open.1 hs
  exact (Sl.rd h2).val

/-- A function that hands back a struct: its cells lie in block g. -/
theorem ret_struct {fn : Func} {R : Ending → World → Prop} {a : Act} {w : World} {l : List HProp} {t : Tmp} {ty T : TypeId} {g : Nat} {cs : List Value} (h : fn.results = #[.cell t ty]) (hp : a.tmps.getD t undef = .pointer (some ⟨g, 0, none⟩))
    (hs : Sat w (cel g T cs :: l)) (hu : ∃ fs, Try.prog.underlying ty = some (.struct fs)) (hi : (Try.prog.info? ty).map (·.size) = some cs.length) (hd : a.defers = []) (hR : R (.returned (.agg cs.toArray)) w) : bodyPost Try.prog fn R .ret a w := by
  obtain ⟨fs, hu⟩ := hu
  exact bodyPost_ret (results_cell_row h _ _ g T cs.toArray (0, 0) _ hp hs.blk hu rfl (by simpa using hi)) hd hR
/-- The same, with a second result in a slot. -/
theorem ret_struct2 {fn : Func} {R : Ending → World → Prop} {a : Act} {w : World} {l : List HProp} {t u : Tmp} {ty T : TypeId} {g : Nat} {cs : List Value} {x : Value} (h : fn.results = #[.cell t ty, .tmp u]) (hp : a.tmps.getD t undef = .pointer (some ⟨g, 0, none⟩)) (hx : a.tmps.getD u undef = x)
    (hs : Sat w (cel g T cs :: l)) (hu : ∃ fs, Try.prog.underlying ty = some (.struct fs)) (hi : (Try.prog.info? ty).map (·.size) = some cs.length) (hd : a.defers = []) (hR : R (.returned (.tuple #[.agg cs.toArray, x])) w) : bodyPost Try.prog fn R .ret a w := by
  obtain ⟨fs, hu⟩ := hu
  have hrow := run_loadVar_row (P := Try.prog) w g T ty cs.toArray (0, 0) _ hs.blk hu rfl (by simpa using hi)
  simp only [Array.getD_eq_getD_getElem?] at hp hx
  exact bodyPost_ret (by simp [results, h, hp, hx, hrow, asAddr]) hd hR
end Go.Proofs.Ytaekiecidbhjhaa
