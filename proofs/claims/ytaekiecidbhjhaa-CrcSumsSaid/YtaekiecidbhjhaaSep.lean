/- A small logic of separate parts of memory: 'Sat w l' says that the parts that the list l speaks of lie in the world w, no two of them sharing a block. -/
import Derived.WalkKit
import Derived.Deep.Draws
namespace Go.Proofs.Ytaekiecidbhjhaa
open Go.RowKit

/-- A part of memory: some blocks. -/
abbrev Hp := Nat → Option Obj
/-- What of a world is no memory: it stays as it is. -/
structure Env where
  os : Os
  tape : Nat → Question → Nat
  output : Array (Nat × ByteArray)
def envOf (w : World) : Env := ⟨w.os, w.tape, w.output⟩
abbrev HProp := Env → Hp → Prop
def Hp.dj (a b : Hp) : Prop := ∀ i, a i = none ∨ b i = none
def Hp.un (a b : Hp) : Hp := fun i => (a i).or (b i)

def Star : List HProp → HProp
  | [] => fun _ _ => True
  | A :: l => fun e h => ∃ a b, Hp.dj a b ∧ Hp.un a b = h ∧ A e a ∧ Star l e b

def Sat (w : World) (l : List HProp) : Prop := ∃ h, Star l (envOf w) h ∧ ∀ i o, h i = some o → w.heap[i]? = some o

theorem Hp.un_some {a b : Hp} {i : Nat} {o : Obj} : Hp.un a b i = some o ↔ a i = some o ∨ (a i = none ∧ b i = some o) := by
  unfold Hp.un
  cases h : a i <;> simp

theorem Hp.r1 {a b c : Hp} (d1 : Hp.dj a (Hp.un b c)) (d2 : Hp.dj b c) : Hp.dj b (Hp.un a c) ∧ Hp.un b (Hp.un a c) = Hp.un a (Hp.un b c) ∧ Hp.dj a c ∧ Hp.dj a b ∧ Hp.dj (Hp.un a b) c ∧ Hp.un (Hp.un a b) c = Hp.un a (Hp.un b c) := by
  refine ⟨?_, ?_, ?_, ?_, ?_, ?_⟩
  all_goals first | (intro i; have h1 := d1 i; have h2 := d2 i) | (funext i; have h1 := d1 i; have h2 := d2 i)
  all_goals
    simp only [Hp.un] at *
    cases ha : a i <;> cases hb : b i <;> cases hc : c i <;> simp_all

theorem Hp.r2 {a b c : Hp} (d1 : Hp.dj (Hp.un a b) c) (d2 : Hp.dj a b) : Hp.dj a (Hp.un b c) ∧ Hp.un a (Hp.un b c) = Hp.un (Hp.un a b) c ∧ Hp.dj b c := by
  refine ⟨?_, ?_, ?_⟩
  all_goals first | (intro i; have h1 := d1 i; have h2 := d2 i) | (funext i; have h1 := d1 i; have h2 := d2 i)
  all_goals
    simp only [Hp.un] at *
    cases ha : a i <;> cases hb : b i <;> cases hc : c i <;> simp_all

theorem Star.swap {A B : HProp} {l : List HProp} {ev : Env} {h : Hp} (hs : Star (A :: B :: l) ev h) : Star (B :: A :: l) ev h := by
  obtain ⟨a, bc, d1, rfl, hA, b, c, d2, rfl, hB, hl⟩ := hs
  obtain ⟨e1, e2, e3, _⟩ := Hp.r1 d1 d2
  exact ⟨b, Hp.un a c, e1, e2, hB, a, c, e3, rfl, hA, hl⟩

theorem Star.cons_mono {A B : HProp} {l l' : List HProp} {ev : Env} {h : Hp} (h1 : ∀ h, A ev h → B ev h) (h2 : ∀ h, Star l ev h → Star l' ev h) (hs : Star (A :: l) ev h) : Star (B :: l') ev h := by
  obtain ⟨a, b, d, e, hA, hl⟩ := hs
  exact ⟨a, b, d, e, h1 _ hA, h2 _ hl⟩

theorem Star.perm {l l' : List HProp} (p : l.Perm l') : ∀ {ev : Env} {h : Hp}, Star l ev h → Star l' ev h := by
  induction p with
  | nil => exact fun h => h
  | cons x _ ih => exact Star.cons_mono (fun _ h => h) (fun _ h => ih h)
  | swap x y l => exact Star.swap
  | trans _ _ ih1 ih2 => exact fun h => ih2 (ih1 h)

theorem Star.more {l : List HProp} {ev : Env} : ∀ {a b : Hp}, Hp.dj a b → Star l ev b → Star l ev (Hp.un a b) := by
  induction l with
  | nil => intros; trivial
  | cons A l ih =>
    rintro a _ d ⟨b, c, d2, rfl, hA, hl⟩
    obtain ⟨e1, e2, e3, _⟩ := Hp.r1 d d2
    exact ⟨b, Hp.un a c, e1, e2, hA, ih e3 hl⟩

theorem Star.app {l1 l2 : List HProp} {ev : Env} : ∀ {h : Hp}, Star (Star l1 :: l2) ev h ↔ Star (l1 ++ l2) ev h := by
  induction l1 with
  | nil =>
    intro h
    constructor
    · rintro ⟨a, b, d, rfl, _, hl⟩
      exact Star.more d hl
    · intro hl
      exact ⟨fun _ => none, h, fun i => .inl rfl, by funext i; simp [Hp.un], trivial, hl⟩
  | cons A l ih =>
    intro h
    constructor
    · rintro ⟨_, b, d, rfl, ⟨a1, a2, d1, rfl, hA, hl⟩, hl2⟩
      obtain ⟨e1, e2, e3⟩ := Hp.r2 d d1
      exact ⟨a1, Hp.un a2 b, e1, e2, hA, ih.1 ⟨a2, b, e3, rfl, hl, hl2⟩⟩
    · rintro ⟨a1, b1, d1, rfl, hA, hl⟩
      obtain ⟨a2, b, d, rfl, hl1, hl2⟩ := ih.2 hl
      obtain ⟨_, _, _, e4, e5, e6⟩ := Hp.r1 d1 d
      exact ⟨Hp.un a1 a2, b, e5, e6, ⟨a1, a2, e4, rfl, hA, hl1⟩, hl2⟩

theorem Sat.perm {w : World} {l l' : List HProp} (hs : Sat w l) (p : l.Perm l') : Sat w l' :=
  let ⟨h, a, b⟩ := hs
  ⟨h, Star.perm p a, b⟩
theorem Sat.imp {w : World} {l l' : List HProp} (hs : Sat w l) (p : ∀ h, Star l (envOf w) h → Star l' (envOf w) h) : Sat w l' :=
  let ⟨h, a, b⟩ := hs
  ⟨h, p _ a, b⟩
theorem Sat.p1 {w : World} {A B : HProp} {l : List HProp} (hs : Sat w (A :: B :: l)) : Sat w (B :: A :: l) := hs.imp fun _ => Star.swap
theorem Sat.pull {w : World} {A : HProp} {l1 l2 : List HProp} (hs : Sat w (l1 ++ A :: l2)) : Sat w (A :: (l1 ++ l2)) := hs.perm List.perm_middle
theorem Sat.push {w : World} {A : HProp} {l1 l2 : List HProp} (hs : Sat w (A :: (l1 ++ l2))) : Sat w (l1 ++ A :: l2) := hs.perm List.perm_middle.symm
theorem Sat.p2 {w : World} {A B C : HProp} {l : List HProp} (hs : Sat w (A :: B :: C :: l)) : Sat w (C :: A :: B :: l) := Sat.pull (l1 := [A, B]) hs
theorem Sat.p3 {w : World} {A B C D : HProp} {l : List HProp} (hs : Sat w (A :: B :: C :: D :: l)) : Sat w (D :: A :: B :: C :: l) := Sat.pull (l1 := [A, B, C]) hs
theorem Sat.p4 {w : World} {A B C D E : HProp} {l : List HProp} (hs : Sat w (A :: B :: C :: D :: E :: l)) : Sat w (E :: A :: B :: C :: D :: l) := Sat.pull (l1 := [A, B, C, D]) hs
theorem Sat.p5 {w : World} {A B C D E F : HProp} {l : List HProp} (hs : Sat w (A :: B :: C :: D :: E :: F :: l)) : Sat w (F :: A :: B :: C :: D :: E :: l) := Sat.pull (l1 := [A, B, C, D, E]) hs
theorem Sat.p6 {w : World} {A B C D E F G : HProp} {l : List HProp} (hs : Sat w (A :: B :: C :: D :: E :: F :: G :: l)) : Sat w (G :: A :: B :: C :: D :: E :: F :: l) := Sat.pull (l1 := [A, B, C, D, E, F]) hs
theorem Sat.p7 {w : World} {A B C D E F G H : HProp} {l : List HProp} (hs : Sat w (A :: B :: C :: D :: E :: F :: G :: H :: l)) : Sat w (H :: A :: B :: C :: D :: E :: F :: G :: l) := Sat.pull (l1 := [A, B, C, D, E, F, G]) hs
theorem Sat.p8 {w : World} {A B C D E F G H I : HProp} {l : List HProp} (hs : Sat w (A :: B :: C :: D :: E :: F :: G :: H :: I :: l)) : Sat w (I :: A :: B :: C :: D :: E :: F :: G :: H :: l) := Sat.pull (l1 := [A, B, C, D, E, F, G, H]) hs
theorem Sat.p9 {w : World} {A B C D E F G H I J : HProp} {l : List HProp} (hs : Sat w (A :: B :: C :: D :: E :: F :: G :: H :: I :: J :: l)) : Sat w (J :: A :: B :: C :: D :: E :: F :: G :: H :: I :: l) := Sat.pull (l1 := [A, B, C, D, E, F, G, H, I]) hs
theorem Sat.p10 {w : World} {A B C D E F G H I J K : HProp} {l : List HProp} (hs : Sat w (A :: B :: C :: D :: E :: F :: G :: H :: I :: J :: K :: l)) : Sat w (K :: A :: B :: C :: D :: E :: F :: G :: H :: I :: J :: l) := Sat.pull (l1 := [A, B, C, D, E, F, G, H, I, J]) hs
theorem Sat.p11 {w : World} {A B C D E F G H I J K L : HProp} {l : List HProp} (hs : Sat w (A :: B :: C :: D :: E :: F :: G :: H :: I :: J :: K :: L :: l)) : Sat w (L :: A :: B :: C :: D :: E :: F :: G :: H :: I :: J :: K :: l) := Sat.pull (l1 := [A, B, C, D, E, F, G, H, I, J, K]) hs
theorem Sat.p12 {w : World} {A B C D E F G H I J K L M : HProp} {l : List HProp} (hs : Sat w (A :: B :: C :: D :: E :: F :: G :: H :: I :: J :: K :: L :: M :: l)) : Sat w (M :: A :: B :: C :: D :: E :: F :: G :: H :: I :: J :: K :: L :: l) := Sat.pull (l1 := [A, B, C, D, E, F, G, H, I, J, K, L]) hs
theorem Sat.tail {w : World} {A : HProp} {l : List HProp} (hs : Sat w (A :: l)) : Sat w l := by
  obtain ⟨_, ⟨a, b, d, rfl, _, hl⟩, hw⟩ := hs
  refine ⟨b, hl, fun i o hi => hw i o (Hp.un_some.2 ?_)⟩
  rcases d i with h | h
  · exact .inr ⟨h, hi⟩
  · rw [h] at hi; cases hi
theorem Sat.cons_mono {w : World} {A B : HProp} {l : List HProp} (hs : Sat w (A :: l)) (h1 : ∀ h, A (envOf w) h → B (envOf w) h) : Sat w (B :: l) := hs.imp fun _ => Star.cons_mono h1 fun _ h => h
theorem Sat.app {w : World} {l1 l2 : List HProp} : Sat w (Star l1 :: l2) ↔ Sat w (l1 ++ l2) := ⟨fun h => h.imp fun _ => Star.app.1, fun h => h.imp fun _ => Star.app.2⟩
theorem Sat.take {w : World} : ∀ {l1 l2 : List HProp}, Sat w (l1 ++ l2) → Sat w l1 := fun {l1 l2} hs => by
  have h := (Sat.app.2 hs)
  obtain ⟨_, ⟨a, b, d, rfl, hA, _⟩, hw⟩ := h
  exact ⟨a, hA, fun i o hi => hw i o (Hp.un_some.2 (.inl hi))⟩
theorem Sat.t1 {w : World} {A : HProp} {l : List HProp} (hs : Sat w (A :: l)) : Sat w [A] := Sat.take (l1 := [A]) hs
theorem Sat.t2 {w : World} {A B : HProp} {l : List HProp} (hs : Sat w (A :: B :: l)) : Sat w [A, B] := Sat.take (l1 := [A, B]) hs
theorem Sat.t3 {w : World} {A B C : HProp} {l : List HProp} (hs : Sat w (A :: B :: C :: l)) : Sat w [A, B, C] := Sat.take (l1 := [A, B, C]) hs
theorem Sat.t4 {w : World} {A B C D : HProp} {l : List HProp} (hs : Sat w (A :: B :: C :: D :: l)) : Sat w [A, B, C, D] := Sat.take (l1 := [A, B, C, D]) hs
theorem Sat.t5 {w : World} {A B C D E : HProp} {l : List HProp} (hs : Sat w (A :: B :: C :: D :: E :: l)) : Sat w [A, B, C, D, E] := Sat.take (l1 := [A, B, C, D, E]) hs
theorem Sat.t6 {w : World} {A B C D E F : HProp} {l : List HProp} (hs : Sat w (A :: B :: C :: D :: E :: F :: l)) : Sat w [A, B, C, D, E, F] := Sat.take (l1 := [A, B, C, D, E, F]) hs
theorem Sat.t7 {w : World} {A B C D E F G : HProp} {l : List HProp} (hs : Sat w (A :: B :: C :: D :: E :: F :: G :: l)) : Sat w [A, B, C, D, E, F, G] := Sat.take (l1 := [A, B, C, D, E, F, G]) hs
theorem Sat.t8 {w : World} {A B C D E F G H : HProp} {l : List HProp} (hs : Sat w (A :: B :: C :: D :: E :: F :: G :: H :: l)) : Sat w [A, B, C, D, E, F, G, H] := Sat.take (l1 := [A, B, C, D, E, F, G, H]) hs
theorem Sat.t9 {w : World} {A B C D E F G H I : HProp} {l : List HProp} (hs : Sat w (A :: B :: C :: D :: E :: F :: G :: H :: I :: l)) : Sat w [A, B, C, D, E, F, G, H, I] := Sat.take (l1 := [A, B, C, D, E, F, G, H, I]) hs
theorem Sat.t10 {w : World} {A B C D E F G H I J : HProp} {l : List HProp} (hs : Sat w (A :: B :: C :: D :: E :: F :: G :: H :: I :: J :: l)) : Sat w [A, B, C, D, E, F, G, H, I, J] := Sat.take (l1 := [A, B, C, D, E, F, G, H, I, J]) hs
theorem Sat.t11 {w : World} {A B C D E F G H I J K : HProp} {l : List HProp} (hs : Sat w (A :: B :: C :: D :: E :: F :: G :: H :: I :: J :: K :: l)) : Sat w [A, B, C, D, E, F, G, H, I, J, K] := Sat.take (l1 := [A, B, C, D, E, F, G, H, I, J, K]) hs
theorem Sat.t12 {w : World} {A B C D E F G H I J K L : HProp} {l : List HProp} (hs : Sat w (A :: B :: C :: D :: E :: F :: G :: H :: I :: J :: K :: L :: l)) : Sat w [A, B, C, D, E, F, G, H, I, J, K, L] := Sat.take (l1 := [A, B, C, D, E, F, G, H, I, J, K, L]) hs
theorem Sat.right {w : World} : ∀ {l1 l2 : List HProp}, Sat w (l1 ++ l2) → Sat w l2
  | [], _, h => h
  | _ :: l1, _, h => Sat.right (l1 := l1) h.tail
theorem Sat.nil {w : World} : Sat w [] := ⟨fun _ => none, trivial, fun _ _ h => by cases h⟩

theorem Sat.d1 {w : World} {A B : HProp} {l : List HProp} (hs : Sat w (A :: B :: l)) : Sat w (A :: l) := hs.p1.tail
theorem Sat.d2 {w : World} {A B C : HProp} {l : List HProp} (hs : Sat w (A :: B :: C :: l)) : Sat w (A :: B :: l) := hs.p2.tail
theorem Sat.d3 {w : World} {A B C D : HProp} {l : List HProp} (hs : Sat w (A :: B :: C :: D :: l)) : Sat w (A :: B :: C :: l) := hs.p3.tail
theorem Sat.d4 {w : World} {A B C D E : HProp} {l : List HProp} (hs : Sat w (A :: B :: C :: D :: E :: l)) : Sat w (A :: B :: C :: D :: l) := hs.p4.tail

/-- What holds of the parts together with something said beside memory. -/
def Pur (p : Prop) : HProp := fun _ _ => p
theorem Sat.pur {w : World} {p : Prop} {l : List HProp} : Sat w (Pur p :: l) ↔ p ∧ Sat w l := by
  constructor
  · intro hs
    refine ⟨?_, hs.tail⟩
    obtain ⟨_, ⟨_, _, _, _, h, _⟩, _⟩ := hs
    exact h
  · rintro ⟨hp, h, hl, hw⟩
    exact ⟨h, ⟨fun _ => none, h, fun i => .inl rfl, by funext i; simp [Hp.un], hp, hl⟩, hw⟩
def Ex {α : Type} (F : α → List HProp) : HProp := fun ev h => ∃ x, Star (F x) ev h
theorem Sat.ex {α : Type} {w : World} {F : α → List HProp} {l : List HProp} : Sat w (Ex F :: l) ↔ ∃ x, Sat w (F x ++ l) := by
  constructor
  · rintro ⟨_, ⟨a, b, d, rfl, ⟨x, hx⟩, hl⟩, hw⟩
    exact ⟨x, _, Star.app.1 ⟨a, b, d, rfl, hx, hl⟩, hw⟩
  · rintro ⟨x, h, hs, hw⟩
    obtain ⟨a, b, d, rfl, hx, hl⟩ := Star.app.2 hs
    exact ⟨_, ⟨a, b, d, rfl, ⟨x, hx⟩, hl⟩, hw⟩

/-- Block b is o. -/
def pts (b : Nat) (o : Obj) : HProp := fun _ h => h b = some o
abbrev cel (b : Nat) (T : TypeId) (cs : List Value) : HProp := pts b (.cells cs.toArray T (0, 0))

theorem Sat.blk {w : World} {b : Nat} {o : Obj} {l : List HProp} (hs : Sat w (pts b o :: l)) : w.heap[b]? = some o := by
  obtain ⟨_, ⟨a, c, d, rfl, h, _⟩, hw⟩ := hs
  exact hw b o (Hp.un_some.2 (.inl h))
theorem Sat.lt {w : World} {b : Nat} {o : Obj} {l : List HProp} (hs : Sat w (pts b o :: l)) : b < w.heap.size := (Array.getElem?_eq_some_iff.1 hs.blk).1
theorem Sat.ne {w : World} {b c : Nat} {o u : Obj} {l : List HProp} (hs : Sat w (pts b o :: pts c u :: l)) : b ≠ c := by
  obtain ⟨_, ⟨a, bc, d, rfl, h, b', c', d2, rfl, h2, _⟩, hw⟩ := hs
  rintro rfl
  have := d b
  unfold pts at h h2
  rw [h] at this
  simp [Hp.un, h2] at this
theorem Sat.cell {w : World} {b : Nat} {T : TypeId} {cs : List Value} {l : List HProp} (hs : Sat w (cel b T cs :: l)) (i : Nat) : w.cell? ⟨b, i, none⟩ = cs[i]? := by
  rw [cell_of_row w b i _ T (0, 0) hs.blk]; simp
theorem Sat.free {w : World} {b : Nat} {T : TypeId} {cs : List Value} {l : List HProp} (hs : Sat w (cel b T cs :: l)) (i : Nat) : w.frozen? ⟨b, i, none⟩ = false := frozen_of_row w b i _ T hs.blk

/-- The world has turned at most at the block b (and has new ones). -/
theorem Sat.upd {w w' : World} {b : Nat} {o o' : Obj} {l : List HProp} (hs : Sat w (pts b o :: l)) (he : envOf w' = envOf w) (h1 : w'.heap[b]? = some o') (h2 : ∀ i, i < w.heap.size → i ≠ b → w'.heap[i]? = w.heap[i]?) : Sat w' (pts b o' :: l) := by
  unfold Sat
  rw [he]
  obtain ⟨_, ⟨a, c, d, rfl, h, hl⟩, hw⟩ := hs
  refine ⟨_, ⟨fun i => if i = b then some o' else none, c, ?_, rfl, by simp [pts], hl⟩, ?_⟩
  · intro i
    by_cases hi : i = b
    · subst hi
      right
      have := d i
      unfold pts at h
      rw [h] at this
      simpa using this
    · simp [hi]
  · intro i u hi
    rcases Hp.un_some.1 hi with h3 | ⟨h3, h4⟩
    · by_cases e : i = b
      · subst e; simp at h3; subst h3; exact h1
      · simp [e] at h3
    · by_cases e : i = b
      · subst e; simp at h3
      · have h5 : w.heap[i]? = some u := hw i u (Hp.un_some.2 (by
          have := d i
          rcases this with h6 | h6
          · exact .inr ⟨h6, h4⟩
          · rw [h6] at h4; cases h4))
        rw [h2 i (Array.getElem?_eq_some_iff.1 h5).1 e]; exact h5
/-- Nothing that was there has turned. -/
theorem Sat.keep {w w' : World} {l : List HProp} (hs : Sat w l) (he : envOf w' = envOf w) (h : ∀ i, i < w.heap.size → w'.heap[i]? = w.heap[i]?) : Sat w' l := by
  unfold Sat
  rw [he]
  obtain ⟨a, hl, hw⟩ := hs
  exact ⟨a, hl, fun i o hi => by have := hw i o hi; rw [h i (Array.getElem?_eq_some_iff.1 this).1]; exact this⟩
/-- A new block. -/
theorem Sat.new {w w' : World} {b : Nat} {o : Obj} {l : List HProp} (hs : Sat w l) (he : envOf w' = envOf w) (hb : w.heap.size ≤ b) (h1 : w'.heap[b]? = some o) (h : ∀ i, i < w.heap.size → w'.heap[i]? = w.heap[i]?) : Sat w' (pts b o :: l) := by
  unfold Sat
  rw [he]
  obtain ⟨a, hl, hw⟩ := hs
  have key : a b = none := by
    cases e : a b with
    | none => rfl
    | some u => have := (Array.getElem?_eq_some_iff.1 (hw b u e)).1; omega
  refine ⟨_, ⟨fun i => if i = b then some o else none, a, ?_, rfl, by simp [pts], hl⟩, ?_⟩
  · intro i
    by_cases e : i = b
    · subst e; exact .inr key
    · simp [e]
  · intro i u hi
    rcases Hp.un_some.1 hi with h3 | ⟨_, h4⟩
    · by_cases e : i = b
      · subst e; simp at h3; subst h3; exact h1
      · simp [e] at h3
    · have := hw i u h4; rw [h i (Array.getElem?_eq_some_iff.1 this).1]; exact this
theorem Sat.alloc {w : World} {l : List HProp} (hs : Sat w l) (o : Obj) : Sat (w.alloc o) (pts w.heap.size o :: l) :=
  hs.new rfl (Nat.le_refl _) (heap_alloc_new w o) (fun _ hi => heap_alloc_old w o hi)
theorem Sat.skip {w : World} {l : List HProp} (hs : Sat w l) (o : Obj) : Sat (w.alloc o) l := hs.keep rfl (fun _ hi => heap_alloc_old w o hi)
theorem Sat.drew {w : World} {l : List HProp} (hs : Sat w l) : Sat w.drew l := hs.keep rfl (fun _ _ => rfl)
theorem Sat.drewN {w : World} {l : List HProp} (hs : Sat w l) (n : Nat) : Sat (w.drewN n) l := hs.keep rfl (fun _ _ => rfl)
theorem Sat.set {w : World} {b : Nat} {T : TypeId} {cs : List Value} {l : List HProp} (hs : Sat w (cel b T cs :: l)) (i : Nat) (v : Value) : Sat (w.setCell ⟨b, i, none⟩ v) (cel b T (cs.set i v) :: l) := by
  refine hs.upd rfl ?_ ?_
  · rw [heap_setCell_same w b i _ T v hs.blk]; simp
  · intro j hj hne
    exact heap_setCell_other w ⟨b, i, none⟩ j v hne
theorem Sat.setObj {w : World} {b : Nat} {o : Obj} {l : List HProp} (hs : Sat w (pts b o :: l)) (o' : Obj) : Sat { w with heap := w.heap.setIfInBounds b o' } (pts b o' :: l) := by
  have := hs.lt
  refine hs.upd rfl (by simp [this]) ?_
  intro j hj hne
  simp [Ne.symm hne]
theorem World.size_of_get {w : World} {b : Nat} {o : Obj} (h : w.heap[b]? = some o) : b < w.heap.size := (Array.getElem?_eq_some_iff.1 h).1

/-- Everything that lay in w0. -/
def Old (w0 : World) : HProp := fun ev h => ev = envOf w0 ∧ ∀ i, i < w0.heap.size → h i = w0.heap[i]?
theorem Sat.old (w : World) : Sat w [Old w] := by
  refine ⟨fun i => w.heap[i]?, ⟨fun i => w.heap[i]?, fun _ => none, fun i => .inr rfl, by funext i; simp [Hp.un], ⟨rfl, fun i _ => rfl⟩, trivial⟩, fun i o h => h⟩
theorem Sat.getOld {w w0 : World} {l : List HProp} (hs : Sat w (Old w0 :: l)) : ∀ i, i < w0.heap.size → w.heap[i]? = w0.heap[i]? := by
  obtain ⟨_, ⟨a, c, d, rfl, ⟨_, h⟩, _⟩, hw⟩ := hs
  intro i hi
  have h1 := h i hi
  rw [Array.getElem?_eq_getElem hi] at h1
  rw [hw i _ (Hp.un_some.2 (.inl h1)), Array.getElem?_eq_getElem hi]
theorem Sat.oldEnv {w w0 : World} {l : List HProp} (hs : Sat w (Old w0 :: l)) : envOf w = envOf w0 := by
  obtain ⟨_, ⟨a, c, d, rfl, ⟨h, _⟩, _⟩, hw⟩ := hs
  exact h
theorem Sat.oldSize {w w0 : World} {l : List HProp} (hs : Sat w (Old w0 :: l)) : w0.heap.size ≤ w.heap.size := by
  by_cases h : w0.heap.size = 0
  · omega
  · have := hs.getOld (w0.heap.size - 1) (by omega)
    rw [Array.getElem?_eq_getElem (show w0.heap.size - 1 < w0.heap.size by omega)] at this
    have := World.size_of_get this
    omega
theorem Sat.oldCell {w w0 : World} {l : List HProp} (hs : Sat w (Old w0 :: l)) {b i : Nat} {v : Value} (h : w0.cell? ⟨b, i, none⟩ = some v) : w.cell? ⟨b, i, none⟩ = some v := by
  have hb : b < w0.heap.size := World.block_lt_of_cell? _ _ h
  rw [← h]
  exact World.cell?_of_block (w := w0) (a := ⟨b, i, none⟩) (hs.getOld b hb)
/-- What lay in w0 has not been touched. -/
theorem Sat.below {w w0 : World} {l : List HProp} (hs : Sat w (Old w0 :: l)) : Below w0.heap.size w0 w := by
  have he := hs.oldEnv
  exact ⟨congrArg Env.os he, congrArg Env.tape he, congrArg Env.output he, hs.oldSize, hs.getOld⟩
end Go.Proofs.Ytaekiecidbhjhaa
