/- Configurations, setups: as values; what a line has at first. -/
import Derived.Test.YtaekiecidbhjhaaMem3
import Derived.Test.YtaekiecidbhjhaaSl2
namespace Go.Proofs.Ytaekiecidbhjhaa
open Go.RowKit

structure Cfg where
  nodes : Nat
  lines : Nat
  words : Nat
  sets : Nat
  ways : Nat
  out : Nat
  in_ : Nat
  init : List Int
abbrev Cfg.cells (c : Cfg) (v : Value) : List Value := [VI c.nodes, VI c.lines, VI c.words, VI c.sets, VI c.ways, VI c.out, VI c.in_, v]
abbrev Cfg.val (c : Cfg) (v : Value) : Value := .agg #[VI c.nodes, VI c.lines, VI c.words, VI c.sets, VI c.ways, VI c.out, VI c.in_, v]
theorem one_cfg (c : Cfg) (a : Option Addr) (n k : Nat) : ∀ u ∈ c.cells (.slice a n k), u.oneCell' = true := by
  intro u hu
  simp at hu
  rcases hu with rfl | rfl | rfl | rfl | rfl | rfl | rfl | rfl <;> rfl
/-- What a machine of these laws has: no size is great. -/
structure Cfg.small (c : Cfg) : Prop where
  n0 : 1 ≤ c.nodes
  n1 : c.nodes ≤ 8
  l0 : 1 ≤ c.lines
  l1 : c.lines ≤ 8
  w0 : 1 ≤ c.words
  w1 : c.words ≤ 8
  s0 : 1 ≤ c.sets
  s1 : c.sets ≤ 8
  y0 : 1 ≤ c.ways
  y1 : c.ways ≤ 8
  o0 : 1 ≤ c.out
  o1 : c.out ≤ 8
  i0 : 1 ≤ c.in_
  i1 : c.in_ ≤ 8
  init : c.init.length ≤ 64
theorem Cfg.small.lw {c : Cfg} (h : c.small) : c.lines * c.words ≤ 64 := Nat.mul_le_mul h.l1 h.w1
theorem Cfg.small.mul {c : Cfg} (h : c.small) {l : Nat} (hl : l ≤ 8) : l * c.words ≤ 64 := Nat.mul_le_mul hl h.w1

structure Stp where
  nodes : Int
  lines : Int
  words : Int
  sets : Int
  ways : Int
  out : Int
  in_ : Int
  init : List Int
  who : List Int
  kinds : List Int
  addrs : List Int
  values : List Int
abbrev Stp.cells (s : Stp) (a b c d e : Value) : List Value := [VI s.nodes, VI s.lines, VI s.words, VI s.sets, VI s.ways, VI s.out, VI s.in_, a, b, c, d, e]
abbrev Stp.val (s : Stp) (a b c d e : Value) : Value := .agg #[VI s.nodes, VI s.lines, VI s.words, VI s.sets, VI s.ways, VI s.out, VI s.in_, a, b, c, d, e]
/-- A number as one from 1 to n. -/
def upto (v n : Int) : Nat := 1 + (within v n).toNat
theorem upto_add (v n : Int) (h : 1 ≤ n) (h2 : n ≤ 1000) : IntKind.i64.wrap (1 + within v n) = (upto v n : Int) := by
  have h1 := within_lo v n
  have h3 := within_hi v n h
  unfold upto
  rw [IntWalk.i64_in _ (by omega)]
  omega
theorem upto_lo (v n : Int) : 1 ≤ upto v n := by unfold upto; omega
theorem upto_hi (v n : Int) (h : 1 ≤ n) : (upto v n : Int) ≤ n := by
  have h1 := within_lo v n
  have h3 := within_hi v n h
  unfold upto; omega
def cfgOf (s : Stp) : Cfg := ⟨upto s.nodes 4, upto s.lines 4, upto s.words 2, upto s.sets 2, upto s.ways 2, upto s.out 3, upto s.in_ 3, s.init.take (upto s.lines 4 * upto s.words 2)⟩
theorem cfgOf_small (s : Stp) : (cfgOf s).small := by
  have h1 := upto_hi s.nodes 4 (by omega)
  have h2 := upto_hi s.lines 4 (by omega)
  have h3 := upto_hi s.words 2 (by omega)
  have h4 := upto_hi s.sets 2 (by omega)
  have h5 := upto_hi s.ways 2 (by omega)
  have h6 := upto_hi s.out 3 (by omega)
  have h7 := upto_hi s.in_ 3 (by omega)
  have h8 : upto s.lines 4 * upto s.words 2 ≤ 4 * 2 := Nat.mul_le_mul (by omega) (by omega)
  exact ⟨upto_lo _ _, by show upto _ _ ≤ 8; omega, upto_lo _ _, by show upto _ _ ≤ 8; omega, upto_lo _ _, by show upto _ _ ≤ 8; omega, upto_lo _ _, by show upto _ _ ≤ 8; omega, upto_lo _ _, by show upto _ _ ≤ 8; omega, upto_lo _ _, by show upto _ _ ≤ 8; omega, upto_lo _ _, by show upto _ _ ≤ 8; omega, by show (List.take _ _).length ≤ 64; rw [List.length_take]; omega⟩
theorem mul_wrap (a b : Nat) (h : a * b ≤ 4611686018427387904) : IntKind.i64.wrap ((a : Int) * (b : Int)) = ((a * b : Nat) : Int) := by
  rw [← Int.natCast_mul]; exact IntWalk.i64_in _ (by omega)

/-- The words of a line at first. -/
def cwords (c : Cfg) (line : Nat) : List Int := (List.range c.words).map fun k => c.init.getD (line * c.words + k) 0
theorem cwords_len (c : Cfg) (line : Nat) : (cwords c line).length = c.words := by simp [cwords]
theorem cwords_get (c : Cfg) (line k : Nat) (h : k < c.words) : (cwords c line).getD k 0 = c.init.getD (line * c.words + k) 0 := by
  simp [cwords, h]
theorem words_eq (L : List Int) (st W : Nat) :
    ((L.map VI).drop (min st L.length * 1)).take (min (L.length - min st L.length) W * 1) ++ (zeros [VI 0] 1 W).drop (min (L.length - min st L.length) W * 1) = ((List.range W).map fun k => L.getD (st + k) 0).map VI := by
  have hz : zeros [VI 0] 1 W = List.replicate W (VI 0) := by
    unfold zeros
    induction W with
    | zero => rfl
    | succ n ih => simp [List.replicate_succ, ih]
  simp only [Nat.mul_one, hz]
  apply List.ext_getElem?
  intro i
  by_cases hi : i < W
  · by_cases h1 : i < L.length - min st L.length
    · rw [List.getElem?_append_left (by simp; omega)]
      simp only [List.getElem?_take, List.getElem?_drop, List.getElem?_map]
      rw [if_pos (by omega)]
      have e : min st L.length = st := by omega
      rw [e]
      simp [hi, List.getElem?_eq_getElem (show st + i < L.length by omega)]
    · rw [List.getElem?_append_right (by simp; omega)]
      simp only [List.getElem?_drop, List.length_take, List.length_drop, List.length_map]
      rw [List.getElem?_replicate, if_pos (by omega)]
      simp [hi, List.getElem?_eq_none (show L.length ≤ st + i by omega)]
  · rw [List.getElem?_eq_none (by simp; omega), List.getElem?_eq_none (by simp; omega)]
theorem RdI.behind {w : World} {a : Option Addr} {n c i : Nat} {xs : List Int} (h : RdI w (.slice a n c) xs) (hl : xs.length = n) (hi : i ≤ n) : Rd w 1 (.slice (if c = i then a else a.map (·.add (i * 1))) (n - i) (c - i)) (n - i) ((xs.map VI).drop (i * 1)) := by
  subst hl; exact Rd.behind h hi
theorem RdI.upto {w : World} {a : Option Addr} {n c i : Nat} {xs : List Int} (h : RdI w (.slice a n c) xs) (hl : xs.length = n) (hi : i ≤ n) : RdI w (.slice a i c) (xs.take i) := by
  subst hl
  have h1 := Rd.upto h hi
  have hlen : (xs.take i).length = i := by simp; omega
  unfold RdI
  rw [hlen, List.map_take]
  simpa using h1
/-- Whose a line is. -/
def homeOf (line : Int) (by_ : Nat) : Int := if line < 0 then -1 else line % by_
theorem Sat.zeroInts {w : World} {l : List HProp} {v : Value} {N : Nat} (hs : Sat w (Sl 3 1 v N (zeros (VI 0).cells.toList 1 N) :: l)) : Sat w (Ints v (List.replicate N 0) :: l) := by
  unfold Ints
  rw [List.length_replicate, List.map_replicate]
  rw [zeros_one] at hs
  exact hs
end Go.Proofs.Ytaekiecidbhjhaa
