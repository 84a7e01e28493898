/- The rows of a home at first: which lines, which words. -/
import Derived.Test.YtaekiecidbhjhaaMemdir
namespace Go.Proofs.Ytaekiecidbhjhaa
open Go.RowKit

theorem rows0_mem {c : Cfg} {node n : Nat} {r : Rw} (h : r ∈ rows0 c node n) : ∃ x : Nat, x < n ∧ x % c.nodes = node ∧ r = ⟨x, 0, -1, cwords c x⟩ := by
  unfold rows0 at h
  rw [List.mem_map] at h
  obtain ⟨x, hx, rfl⟩ := h
  simp at hx
  exact ⟨x, hx.1, hx.2, rfl⟩
theorem rows0_at (c : Cfg) (node n x : Nat) (hx : x < n) (hm : x % c.nodes = node) : ∃ j, keyAt (rwKeys (rows0 c node n)) (x : Int) = some j ∧ (rows0 c node n)[j]? = some ⟨x, 0, -1, cwords c x⟩ := by
  have hmem : (x : Int) ∈ rwKeys (rows0 c node n) := by
    simp only [rwKeys, rows0, List.map_map, List.mem_map, List.mem_filter, List.mem_range]
    exact ⟨x, ⟨hx, by simp [hm]⟩, rfl⟩
  have hs : (keyAt (rwKeys (rows0 c node n)) (x : Int)).isSome = true := by
    unfold keyAt
    rw [List.findIdx?_isSome, List.any_eq_true]
    exact ⟨x, hmem, by simp⟩
  obtain ⟨j, hj⟩ := Option.isSome_iff_exists.1 hs
  have h1 := keyAt_lt hj
  rw [List.getElem?_map] at h1
  cases hr : (rows0 c node n)[j]? with
  | none => rw [hr] at h1; cases h1
  | some r =>
    rw [hr] at h1
    simp at h1
    obtain ⟨y, _, _, rfl⟩ := rows0_mem (List.mem_of_getElem? hr)
    simp at h1
    have : y = x := by omega
    subst this
    exact ⟨j, hj, hr⟩
theorem rows0_not (c : Cfg) (node n : Nat) (x : Int) (h : ∀ y : Nat, (y : Int) = x → y < n → y % c.nodes ≠ node) : keyAt (rwKeys (rows0 c node n)) x = none := by
  unfold keyAt
  rw [List.findIdx?_eq_none_iff]
  intro k hk
  rw [rwKeys, List.mem_map] at hk
  obtain ⟨r, hr, rfl⟩ := hk
  obtain ⟨y, h1, h2, rfl⟩ := rows0_mem hr
  simp
  intro e
  exact h y e h1 h2
theorem rows0_some (c : Cfg) (node n x : Nat) : (keyAt (rwKeys (rows0 c node n)) (x : Int)).isSome = (decide (x < n) && (x % c.nodes == node)) := by
  by_cases h : x < n ∧ x % c.nodes = node
  · obtain ⟨j, hj, _⟩ := rows0_at c node n x h.1 h.2
    simp [hj, h.1, h.2]
  · have h0 : keyAt (rwKeys (rows0 c node n)) (x : Int) = none := rows0_not c node n x (fun y hy h1 h2 => by
      have e : y = x := by omega
      subst e
      exact h ⟨h1, h2⟩)
    rw [h0]
    by_cases h1 : x < n
    · have h2 : (x % c.nodes == node) = false := by simpa using fun h2 => h ⟨h1, h2⟩
      simp [h2]
    · simp [h1]
theorem linesOf_rows0 (c : Cfg) (node : Nat) : linesOf c (rows0 c node c.lines) c.lines = ((List.range c.lines).filter fun l => l % c.nodes == node).map fun l : Nat => (l : Int) := by
  unfold linesOf
  congr 1
  apply List.filter_congr
  intro x hx
  rw [rows0_some]
  simp at hx
  simp [hx]
/-- How many lines the homes below k have. -/
def below (c : Cfg) (k : Nat) : Nat := ((List.range c.lines).filter fun l => decide (l % c.nodes < k)).length
theorem below_zero (c : Cfg) : below c 0 = 0 := by simp [below]
theorem filter_split (L : List Nat) (f : Nat → Nat) (k : Nat) : (L.filter fun l => decide (f l < k + 1)).length = (L.filter fun l => decide (f l < k)).length + (L.filter fun l => f l == k).length := by
  induction L with
  | nil => rfl
  | cons x L ih =>
    simp only [List.filter_cons]
    by_cases h1 : f x < k
    · have h2 : f x < k + 1 := by omega
      have h3 : (f x == k) = false := by simp; omega
      simp [h1, h2, h3, ih]; omega
    · by_cases h4 : f x = k
      · have h2 : f x < k + 1 := by omega
        simp [h4, ih]; omega
      · have h2 : ¬ f x < k + 1 := by omega
        have h3 : (f x == k) = false := by simpa using h4
        simp [h1, h2, h3, ih]
theorem below_succ (c : Cfg) (k : Nat) : below c (k + 1) = below c k + (linesOf c (rows0 c k c.lines) c.lines).length := by
  rw [linesOf_rows0, List.length_map]
  exact filter_split _ _ _
theorem below_all (c : Cfg) (h : 1 ≤ c.nodes) : below c c.nodes = c.lines := by
  unfold below
  rw [List.filter_eq_self.2 (fun x _ => by simpa using Nat.mod_lt x h)]
  simp
theorem below_le (c : Cfg) (k : Nat) : below c k ≤ c.lines := by
  unfold below
  exact Nat.le_trans (List.length_filter_le _ _) (by simp)
theorem lines_get {c : Cfg} {node i : Nat} (h : i < (linesOf c (rows0 c node c.lines) c.lines).length) : ∃ x : Nat, x < c.lines ∧ x % c.nodes = node ∧ (linesOf c (rows0 c node c.lines) c.lines).getD i 0 = (x : Int) := by
  have hmem : (linesOf c (rows0 c node c.lines) c.lines)[i] ∈ linesOf c (rows0 c node c.lines) c.lines := List.getElem_mem h
  rw [List.getD_eq_getElem?_getD, List.getElem?_eq_getElem h]
  generalize (linesOf c (rows0 c node c.lines) c.lines)[i] = y at *
  rw [linesOf_rows0, List.mem_map] at hmem
  obtain ⟨x, hx, rfl⟩ := hmem
  simp at hx
  exact ⟨x, hx.1, hx.2, rfl⟩
end Go.Proofs.Ytaekiecidbhjhaa
