/- The row's side: structs among the arguments. -/
import Derived.Test.YtaekiecidbhjhaaRow
import Derived.Test.YtaekiecidbhjhaaCfg
namespace Go.Proofs.Ytaekiecidbhjhaa
open Go.ChangeShapes Go.WideShapes Go.ChangeAt Go.RowKit

section
variable {H : Type} {P : Program} {enc : TypeId × Value → H} {W : World}
theorem got_struct {t : TypeId} {fs : Array Field} (hu : P.underlying t = some (.struct fs)) {fuel : Nat} {cs : List Value} {d : DataW H} {p : List MemPlace}
    (h : DataW.trod enc P W 0 (fun _ => true) true fuel t cs = some (d, p)) (hsz : ∀ n ∈ d.weights P t, n ≤ reachBytes) :
    cs.length = P.cellsOf t ∧ ∃ n, ∀ (i : Nat) (ft : TypeId) (off : Nat), (fs[i]?).map (fun f => (f.type, f.offset)) = some (ft, off) → ∃ d p, DataW.trod enc P W 0 (fun _ => true) true n ft ((cs.drop off).take (P.cellsOf ft)) = some (d, p) ∧ ∀ m ∈ d.weights P ft, m ≤ reachBytes := by
  obtain ⟨xs, n, _, hx, hl, hlen, hf⟩ := DataW.trod_struct hu h
  refine ⟨hl, n, fun i ft off hio => ?_⟩
  obtain ⟨f, hi, hfo⟩ := Option.map_eq_some_iff.1 hio
  simp only [Prod.mk.injEq] at hfo
  obtain ⟨rfl, rfl⟩ := hfo
  have hil : i < fs.size := (Array.getElem?_eq_some_iff.1 hi).1
  have hxl : i < xs.length := by omega
  have h1 := hf i f hi
  rw [List.getElem?_eq_getElem hxl] at h1
  have hd : d = .agg (xs.map (·.1)) := by have := congrArg Prod.fst hx; simpa using this
  refine ⟨xs[i].1, xs[i].2, h1, fun m hm => hsz m ?_⟩
  rw [hd]
  unfold DataW.weights
  rw [hu]
  refine DataW.weights_mem_each (j := i) (t := f.type) (d := xs[i].1) ?_ ?_ m hm
  · have hi' : fs.toList[i]? = some f := by simpa using hi
    rw [List.getElem?_map, hi']; rfl
  · rw [List.getElem?_map, List.getElem?_eq_getElem hxl]; rfl
theorem got_int1 {t : TypeId} {k : IntKind} (hu : P.underlying t = some (.int k)) {fuel : Nat} {c : Value} {d : DataW H} {p : List MemPlace} (h : DataW.trod enc P W 0 (fun _ => true) true fuel t [c] = some (d, p)) : ∃ n, c = .int k n ∧ (Lit.int k n).wf = true := by
  obtain ⟨n, h1, _, h2⟩ := DataW.trod_int hu h
  exact ⟨n, by simpa using h1, h2⟩
theorem got_ints1 {t e : TypeId} {k : IntKind} {by_ : Nat} (hu : P.underlying t = some (.slice e)) (he : P.underlying e = some (.int k)) (hc : P.cellsOf e = 1) (hb : P.bytesOf e = by_) {fuel : Nat} {c : Value} {d : DataW H} {p : List MemPlace}
    (h : DataW.trod enc P W 0 (fun _ => true) true fuel t [c] = some (d, p)) (hsz : ∀ n ∈ d.weights P t, n ≤ reachBytes) :
    ∃ xs : List Int, Rd W 1 c xs.length (xs.map (Value.int k)) ∧ xs.length * by_ ≤ 140737488351232 ∧ ∀ x ∈ xs, (Lit.int k x).wf = true := by
  have hshape : ∃ a len cap, c = .slice a len cap := by
    rcases DataW.trod_slice hu h with ⟨h0, _⟩ | ⟨a, len, cap, _, _, _, _, h0, _⟩
    · exact ⟨none, 0, 0, by simpa using h0⟩
    · exact ⟨_, len, cap, by simpa using h0⟩
  obtain ⟨a, len, cap, rfl⟩ := hshape
  obtain ⟨xs, rfl, h1, h2, h3⟩ := got_ints hu he hc hb h hsz
  exact ⟨xs, h1, h2, h3⟩
end

section
variable {H : Type} {enc : TypeId × Value → H} {W : World}
abbrev wfI (n : Int) : Prop := (Lit.int .i64 n).wf = true
theorem got_i {fuel : Nat} {c : Value} {d : DataW H} {p : List MemPlace} (h : DataW.trod enc Try.prog W 0 (fun _ => true) true fuel 3 [c] = some (d, p)) : ∃ n, c = VI n ∧ wfI n := got_int1 Try.underlying3 h
theorem got_is {fuel : Nat} {c : Value} {d : DataW H} {p : List MemPlace} (h : DataW.trod enc Try.prog W 0 (fun _ => true) true fuel 22 [c] = some (d, p)) (hsz : ∀ n ∈ d.weights Try.prog 22, n ≤ reachBytes) :
    ∃ xs : List Int, RdI W c xs ∧ xs.length * 8 ≤ 140737488351232 ∧ ∀ x ∈ xs, wfI x := got_ints1 Try.underlying22 Try.underlying3 (by kernel_rfl) (by kernel_rfl) h hsz
/-- What a setup reads as. -/
structure StpRd (W : World) (s : Stp) (v1 v2 v3 v4 v5 : Value) : Prop where
  r1 : RdI W v1 s.init
  b1 : s.init.length * 8 ≤ 140737488351232
  r2 : RdI W v2 s.who
  b2 : s.who.length * 8 ≤ 140737488351232
  r3 : RdI W v3 s.kinds
  b3 : s.kinds.length * 8 ≤ 140737488351232
  r4 : RdI W v4 s.addrs
  b4 : s.addrs.length * 8 ≤ 140737488351232
  r5 : RdI W v5 s.values
  b5 : s.values.length * 8 ≤ 140737488351232
  wf5 : ∀ x ∈ s.values, wfI x
set_option maxRecDepth 100000 in
theorem got_setup {fuel : Nat} {v : Value} {base : Nat} (hv : Value.okWide Try.prog W .any base 24 v) {d : DataW H} {p : List MemPlace} (h : DataW.trod enc Try.prog W 0 (fun _ => true) true fuel 24 v.cells.toList = some (d, p)) (hsz : ∀ n ∈ d.weights Try.prog 24, n ≤ reachBytes) :
    ∃ s v1 v2 v3 v4 v5, v = Stp.val s v1 v2 v3 v4 v5 ∧ StpRd W s v1 v2 v3 v4 v5 := by
  obtain ⟨A, rfl, hA⟩ := okWide_struct Try.underlying24 hv
  obtain ⟨hl, n, hf⟩ := got_struct Try.underlying24 h hsz
  have hc : Try.prog.cellsOf 24 = 12 := by kernel_rfl
  have hi : Try.prog.cellsOf 3 = 1 := by kernel_rfl
  have his : Try.prog.cellsOf 22 = 1 := by kernel_rfl
  rw [hc] at hl
  obtain ⟨A⟩ := A
  simp only [Value.cells] at hl hf
  match A, hl with
  | [c0, c1, c2, c3, c4, c5, c6, c7, c8, c9, c10, c11], _ =>
    obtain ⟨_, _, g0, _⟩ := hf 0 3 0 rfl
    obtain ⟨_, _, g1, _⟩ := hf 1 3 1 rfl
    obtain ⟨_, _, g2, _⟩ := hf 2 3 2 rfl
    obtain ⟨_, _, g3, _⟩ := hf 3 3 3 rfl
    obtain ⟨_, _, g4, _⟩ := hf 4 3 4 rfl
    obtain ⟨_, _, g5, _⟩ := hf 5 3 5 rfl
    obtain ⟨_, _, g6, _⟩ := hf 6 3 6 rfl
    obtain ⟨_, _, g7, z7⟩ := hf 7 22 7 rfl
    obtain ⟨_, _, g8, z8⟩ := hf 8 22 8 rfl
    obtain ⟨_, _, g9, z9⟩ := hf 9 22 9 rfl
    obtain ⟨_, _, g10, z10⟩ := hf 10 22 10 rfl
    obtain ⟨_, _, g11, z11⟩ := hf 11 22 11 rfl
    rw [hi] at g0 g1 g2 g3 g4 g5 g6
    rw [his] at g7 g8 g9 g10 g11
    obtain ⟨n0, rfl, _⟩ := got_i g0
    obtain ⟨n1, rfl, _⟩ := got_i g1
    obtain ⟨n2, rfl, _⟩ := got_i g2
    obtain ⟨n3, rfl, _⟩ := got_i g3
    obtain ⟨n4, rfl, _⟩ := got_i g4
    obtain ⟨n5, rfl, _⟩ := got_i g5
    obtain ⟨n6, rfl, _⟩ := got_i g6
    obtain ⟨l7, r7, b7, _⟩ := got_is g7 z7
    obtain ⟨l8, r8, b8, _⟩ := got_is g8 z8
    obtain ⟨l9, r9, b9, _⟩ := got_is g9 z9
    obtain ⟨l10, r10, b10, _⟩ := got_is g10 z10
    obtain ⟨l11, r11, b11, wf11⟩ := got_is g11 z11
    exact ⟨⟨n0, n1, n2, n3, n4, n5, n6, l7, l8, l9, l10, l11⟩, c7, c8, c9, c10, c11, rfl, ⟨r7, b7, r8, b8, r9, b9, r10, b10, r11, b11, wf11⟩⟩
end
end Go.Proofs.Ytaekiecidbhjhaa
