/- chapletref01.Same, chapletref01.All: are packets alike? -/
import Derived.Test.YtaekiecidbhjhaaPkt
namespace Go.Proofs.Ytaekiecidbhjhaa
open Go.RowKit

/-- Nothing that was there has turned. -/
structure Keep (w w' : World) : Prop where
  env : envOf w' = envOf w
  size : w.heap.size ≤ w'.heap.size
  old : ∀ i, i < w.heap.size → w'.heap[i]? = w.heap[i]?
theorem Keep.refl (w : World) : Keep w w := ⟨rfl, Nat.le_refl _, fun _ _ => rfl⟩
theorem Keep.trans {a b c : World} (h : Keep a b) (k : Keep b c) : Keep a c := ⟨k.env.trans h.env, Nat.le_trans h.size k.size, fun i hi => (k.old i (Nat.lt_of_lt_of_le hi h.size)).trans (h.old i hi)⟩
theorem Keep.alloc {a w : World} (h : Keep a w) (o : Obj) : Keep a (w.alloc o) := h.trans ⟨rfl, by simp, fun _ hi => heap_alloc_old w o hi⟩
theorem Keep.drew {a w : World} (h : Keep a w) : Keep a w.drew := ⟨h.env, h.size, h.old⟩
theorem Keep.drewN {a w : World} (h : Keep a w) (n : Nat) : Keep a (w.drewN n) := ⟨h.env, h.size, h.old⟩
theorem Keep.setCell {a w : World} (h : Keep a w) {b i : Nat} (hb : a.heap.size ≤ b) (v : Value) : Keep a (w.setCell ⟨b, i, none⟩ v) :=
  ⟨h.env, by simpa using h.size, fun j hj => (heap_setCell_other w ⟨b, i, none⟩ j v (by simp; omega)).trans (h.old j hj)⟩
theorem Keep.sat {w w' : World} (h : Keep w w') {l : List HProp} (hs : Sat w l) : Sat w' l := hs.keep h.env h.old
theorem Keep.rd {w w' : World} (h : Keep w w') {sz : Nat} {v : Value} {n : Nat} {xs : List Value} (hr : Rd w sz v n xs) : Rd w' sz v n xs := hr.keep h.old
theorem Keep.rdI {w w' : World} (h : Keep w w') {v : Value} {xs : List Int} (hr : RdI w v xs) : RdI w' v xs := hr.keep h.old
theorem Keep.cell {w w' : World} (h : Keep w w') {a : Addr} {v : Value} (hc : w.cell? a = some v) : w'.cell? a = some v := by
  rw [← hc]; exact World.cell?_of_block (h.old _ (World.block_lt_of_cell? _ _ hc))

def Pkt.eqb (p q : Pkt) : Bool := p.kind == q.kind && p.src == q.src && p.dst == q.dst && p.id == q.id && p.line == q.line && p.ptr == q.ptr && p.state == q.state && p.flag == q.flag && p.data == q.data
theorem Pkt.eqb_iff {p q : Pkt} : p.eqb q = true ↔ p = q := by
  cases p; cases q
  simp [Pkt.eqb, and_assoc]
theorem Pkt.eqb_refl (p : Pkt) : p.eqb p = true := Pkt.eqb_iff.2 rfl

/-- Two boxes, one behind the other. -/
def boxes (w : World) (p q : Pkt) (u v : Value) : World := (w.alloc (.cells (p.cells u).toArray 43)).alloc (.cells (q.cells v).toArray 43)

set_option maxRecDepth 100000 in
set_option maxHeartbeats 1000000 in
theorem same_ne {w : World} (p q : Pkt) {a b : Option Addr} {c d : Nat}
    (h : p.kind ≠ q.kind ∨ p.src ≠ q.src ∨ p.dst ≠ q.dst ∨ p.id ≠ q.id ∨ p.line ≠ q.line ∨ p.ptr ≠ q.ptr ∨ p.state ≠ q.state ∨ p.flag ≠ q.flag ∨ p.data.length ≠ q.data.length) :
    Calls Try.prog 22 #[p.val (.slice a p.data.length c), q.val (.slice b q.data.length d)] w fun e w' => e = .returned (VB false) ∧ Keep w w' := by
  by_cases h1 : p.kind = q.kind
  case neg =>
    have g : (p.kind != q.kind) = true := by first | simpa using h1 | (simp; omega)
    clear h
    go_enter Try.func22, Try.ntmps22
    go_wp2
    all_goals (go_ret; exact ⟨rfl, ((Keep.refl w).alloc _).alloc _⟩)
  have g1 : (p.kind != q.kind) = false := by simpa using h1
  replace h := h.resolve_left (fun hn => hn h1)
  clear h1
  by_cases h2 : p.src = q.src
  case neg =>
    have g : (p.src != q.src) = true := by first | simpa using h2 | (simp; omega)
    clear h
    go_enter Try.func22, Try.ntmps22
    go_wp2
    all_goals (go_ret; exact ⟨rfl, ((Keep.refl w).alloc _).alloc _⟩)
  have g2 : (p.src != q.src) = false := by simpa using h2
  replace h := h.resolve_left (fun hn => hn h2)
  clear h2
  by_cases h3 : p.dst = q.dst
  case neg =>
    have g : (p.dst != q.dst) = true := by first | simpa using h3 | (simp; omega)
    clear h
    go_enter Try.func22, Try.ntmps22
    go_wp2
    all_goals (go_ret; exact ⟨rfl, ((Keep.refl w).alloc _).alloc _⟩)
  have g3 : (p.dst != q.dst) = false := by simpa using h3
  replace h := h.resolve_left (fun hn => hn h3)
  clear h3
  by_cases h4 : p.id = q.id
  case neg =>
    have g : (p.id != q.id) = true := by first | simpa using h4 | (simp; omega)
    clear h
    go_enter Try.func22, Try.ntmps22
    go_wp2
    all_goals (go_ret; exact ⟨rfl, ((Keep.refl w).alloc _).alloc _⟩)
  have g4 : (p.id != q.id) = false := by simpa using h4
  replace h := h.resolve_left (fun hn => hn h4)
  clear h4
  by_cases h5 : p.line = q.line
  case neg =>
    have g : (p.line != q.line) = true := by first | simpa using h5 | (simp; omega)
    clear h
    go_enter Try.func22, Try.ntmps22
    go_wp2
    all_goals (go_ret; exact ⟨rfl, ((Keep.refl w).alloc _).alloc _⟩)
  have g5 : (p.line != q.line) = false := by simpa using h5
  replace h := h.resolve_left (fun hn => hn h5)
  clear h5
  by_cases h6 : p.ptr = q.ptr
  case neg =>
    have g : (p.ptr != q.ptr) = true := by first | simpa using h6 | (simp; omega)
    clear h
    go_enter Try.func22, Try.ntmps22
    go_wp2
    all_goals (go_ret; exact ⟨rfl, ((Keep.refl w).alloc _).alloc _⟩)
  have g6 : (p.ptr != q.ptr) = false := by simpa using h6
  replace h := h.resolve_left (fun hn => hn h6)
  clear h6
  by_cases h7 : p.state = q.state
  case neg =>
    have g : (p.state != q.state) = true := by first | simpa using h7 | (simp; omega)
    clear h
    go_enter Try.func22, Try.ntmps22
    go_wp2
    all_goals (go_ret; exact ⟨rfl, ((Keep.refl w).alloc _).alloc _⟩)
  have g7 : (p.state != q.state) = false := by simpa using h7
  replace h := h.resolve_left (fun hn => hn h7)
  clear h7
  by_cases h8 : p.flag = q.flag
  case neg =>
    have g : (p.flag != q.flag) = true := by first | simpa using h8 | (simp; omega)
    clear h
    go_enter Try.func22, Try.ntmps22
    go_wp2
    all_goals (go_ret; exact ⟨rfl, ((Keep.refl w).alloc _).alloc _⟩)
  have g8 : (p.flag != q.flag) = false := by simpa using h8
  replace h := h.resolve_left (fun hn => hn h8)
  clear h8
  by_cases h9 : p.data.length = q.data.length
  case neg =>
    have g : ((p.data.length : Int) != (q.data.length : Int)) = true := by first | simpa using h9 | (simp; omega)
    have g' : (p.data.length != q.data.length) = true := by simpa using h9
    have g'' : (p.data.length == q.data.length) = false := by simpa using h9
    clear h
    go_enter Try.func22, Try.ntmps22
    go_wp2
    all_goals (go_ret; exact ⟨rfl, ((Keep.refl w).alloc _).alloc _⟩)
  exact absurd h9 h

end Go.Proofs.Ytaekiecidbhjhaa
