/- chapletref01.Same at packets that part in their data at most; chapletref01.Same, whole. -/
import Derived.Test.YtaekiecidbhjhaaSame
namespace Go.Proofs.Ytaekiecidbhjhaa
open Go.RowKit

theorem RdI.get {w : World} {v : Value} {xs : List Int} (h : RdI w v xs) (hx : xs ≠ []) : ∃ b off cap, v = .slice (some ⟨b, off, none⟩) xs.length cap ∧ b < w.heap.size ∧ ∀ j, j < xs.length → w.cell? ⟨b, off + j, none⟩ = some (VI (xs.getD j 0)) := by
  obtain ⟨b, off, cap, h1, _, _, h4, h5⟩ := Rd.at h (by simpa using hx)
  exact ⟨b, off, cap, h1, h4, fun j hj => h5 j _ (by simp [hj])⟩

/-- Where the lists part at some place. -/
theorem beq_at {xs ys : List Int} {n : Nat} (h1 : xs.length = n) (h2 : ys.length = n) {k : Nat} (hk : k < n) (h : xs.getD k 0 ≠ ys.getD k 0) : (xs == ys) = false := by
  simp only [beq_eq_false_iff_ne, ne_eq]
  rintro rfl
  exact h rfl
theorem beq_all {xs ys : List Int} {n : Nat} (h1 : xs.length = n) (h2 : ys.length = n) (h : ∀ j, j < n → xs.getD j 0 = ys.getD j 0) : (xs == ys) = true := by
  simp only [beq_iff_eq]
  refine List.ext_getElem (by omega) fun j hj hj2 => ?_
  have := h j (by omega)
  simpa [hj, hj2] using this

set_option maxRecDepth 100000 in
set_option maxHeartbeats 1000000 in
theorem same_core {w : World} (k1 k2 k3 k4 k5 k6 k7 : Int) (fl : Bool) (ds xs : List Int) (n : Nat) (hds : ds.length = n) (hxs : xs.length = n) (hn : n * 8 ≤ 140737488355328) (b off cap c of2 ca2 : Nat) (lb : b < w.heap.size) (lc : c < w.heap.size)
    (cb : ∀ j, j < n → w.cell? ⟨b, off + j, none⟩ = some (VI (ds.getD j 0))) (cc : ∀ j, j < n → w.cell? ⟨c, of2 + j, none⟩ = some (VI (xs.getD j 0))) :
    Calls Try.prog 22 #[.agg #[VI k1, VI k2, VI k3, VI k4, VI k5, VI k6, VI k7, VB fl, .slice (some ⟨b, off, none⟩) n cap], .agg #[VI k1, VI k2, VI k3, VI k4, VI k5, VI k6, VI k7, VB fl, .slice (some ⟨c, of2, none⟩) n ca2]] w
      fun e w' => e = .returned (VB (ds == xs)) ∧ Keep w w' := by
  have g1 : ∀ x : Int, (x != x) = false := by intro x; simp
  have g2 : (fl != fl) = false := by simp
  have g3 : (fl == fl) = true := by simp
  have Hds := Lib.hid hds
  have Hxs := Lib.hid hxs
  clear hds hxs
  go_enter Try.func22, Try.ntmps22
  go_wp2
  go_loopw [72] (fun t wr => ∃ k m : Nat, k ≤ n ∧ t = VI k ∧ wr = ((w.alloc (.cells #[VI k1, VI k2, VI k3, VI k4, VI k5, VI k6, VI k7, VB fl, .slice (some ⟨b, off, none⟩) n cap] 43)).alloc (.cells #[VI k1, VI k2, VI k3, VI k4, VI k5, VI k6, VI k7, VB fl, .slice (some ⟨c, of2, none⟩) n ca2] 43)).drewN m ∧ ∀ j, j < k → ds.getD j 0 = xs.getD j 0) (fun t _ => n - (intOf t).toNat)
  case atStart => exact ⟨0, 0, Nat.zero_le _, rfl, rfl, by omega⟩
  case round =>
    obtain ⟨k, m, hk, rfl, rfl, hj⟩ := hrel
    have Hj := Lib.hid hj
    clear hj
    by_cases hlt : k < n
    · have ck := cb k hlt
      have dk := cc k hlt
      clear cb cc
      generalize hx1 : ds.getD k 0 = x at ck
      generalize hy1 : xs.getD k 0 = y at dk
      have Hx := Lib.hid hx1
      have Hy := Lib.hid hy1
      clear hx1 hy1
      by_cases hxy : x = y
      · have g : (x != y) = false := by simpa using hxy
        have Hxy := Lib.hid hxy
        clear hxy
        go_wp2
        go_quiet (fail)
        go_wp2
        go_roundw
        case rel =>
          refine ⟨k + 1, _, by omega, by go_num, rfl, fun j hj => ?_⟩
          by_cases e : j = k
          · subst e; rw [Hx.out, Hy.out]; exact Hxy.out
          · exact Hj.out j (by omega)
        case measure => simp [intOf]; omega
      · have g : (x != y) = true := by simpa using hxy
        have Hxy := Lib.hid hxy
        clear hxy
        go_wp2
        go_quiet (fail)
        go_wp2
        go_ret
        exact ⟨by rw [beq_at Hds.out Hxs.out hlt (by rw [Hx.out, Hy.out]; exact Hxy.out)]; rfl, ((((Keep.refl w).alloc _).alloc _).drewN _).drewN _⟩
    · have hkn : k = n := by omega
      have Hkn := Lib.hid hkn
      clear hkn cb cc
      go_wp2
      go_ret
      exact ⟨by rw [beq_all Hds.out Hxs.out (fun j hj => Hj.out j (by rw [Hkn.out]; exact hj))]; rfl, (((Keep.refl w).alloc _).alloc _).drewN _⟩

set_option maxRecDepth 100000 in
set_option maxHeartbeats 1000000 in
theorem same_nil {w : World} (k1 k2 k3 k4 k5 k6 k7 : Int) (fl : Bool) (a b : Option Addr) (c d : Nat) :
    Calls Try.prog 22 #[.agg #[VI k1, VI k2, VI k3, VI k4, VI k5, VI k6, VI k7, VB fl, .slice a 0 c], .agg #[VI k1, VI k2, VI k3, VI k4, VI k5, VI k6, VI k7, VB fl, .slice b 0 d]] w
      fun e w' => e = .returned (VB true) ∧ Keep w w' := by
  have g1 : ∀ x : Int, (x != x) = false := by intro x; simp
  have g2 : (fl != fl) = false := by simp
  have g3 : (fl == fl) = true := by simp
  go_enter Try.func22, Try.ntmps22
  go_wp2
  refine wp_loop_once ?_
  go_wp2
  go_ret
  exact ⟨rfl, ((Keep.refl w).alloc _).alloc _⟩

/-- chapletref01.Same. -/
theorem same_ok {w : World} (p q : Pkt) {u v : Value} (hu : RdI w u p.data) (hv : RdI w v q.data) (hb : p.data.length * 8 ≤ 140737488355328) :
    Calls Try.prog 22 #[p.val u, q.val v] w fun e w' => e = .returned (VB (p.eqb q)) ∧ Keep w w' := by
  by_cases h : p.kind ≠ q.kind ∨ p.src ≠ q.src ∨ p.dst ≠ q.dst ∨ p.id ≠ q.id ∨ p.line ≠ q.line ∨ p.ptr ≠ q.ptr ∨ p.state ≠ q.state ∨ p.flag ≠ q.flag ∨ p.data.length ≠ q.data.length
  · have e : p.eqb q = false := by
      cases hh : p.eqb q with
      | false => rfl
      | true => have := Pkt.eqb_iff.1 hh; subst this; simp at h
    obtain ⟨a, c, rfl, _, _⟩ := hu.val
    obtain ⟨b, d, rfl, _, _⟩ := hv.val
    rw [e]
    exact same_ne p q h
  · simp only [not_or, Decidable.not_not, ne_eq] at h
    obtain ⟨h1, h2, h3, h4, h5, h6, h7, h8, h9⟩ := h
    obtain ⟨k1, k2, k3, k4, k5, k6, k7, fl, ds⟩ := p
    obtain ⟨l1, l2, l3, l4, l5, l6, l7, fm, xs⟩ := q
    simp only at h1 h2 h3 h4 h5 h6 h7 h8 h9 hu hv hb
    subst h1; subst h2; subst h3; subst h4; subst h5; subst h6; subst h7; subst h8
    have e : Pkt.eqb ⟨k1, k2, k3, k4, k5, k6, k7, fl, ds⟩ ⟨k1, k2, k3, k4, k5, k6, k7, fl, xs⟩ = (ds == xs) := by simp [Pkt.eqb]
    rw [e]
    by_cases hx : ds = []
    · subst hx
      have : xs = [] := List.eq_nil_of_length_eq_zero h9.symm
      subst this
      obtain ⟨a, c, rfl, _, _⟩ := hu.val
      obtain ⟨b, d, rfl, _, _⟩ := hv.val
      exact same_nil k1 k2 k3 k4 k5 k6 k7 fl a b c d
    · obtain ⟨b, off, cap, rfl, lb, cb⟩ := hu.get hx
      obtain ⟨c, of2, ca2, rfl, lc, cc⟩ := hv.get (by intro h; rw [h] at h9; exact hx (List.eq_nil_of_length_eq_zero h9))
      rw [← h9] at cc
      have := same_core k1 k2 k3 k4 k5 k6 k7 fl ds xs ds.length rfl h9.symm hb b off cap c of2 ca2 lb lc cb cc
      rw [show (Pkt.val ⟨k1, k2, k3, k4, k5, k6, k7, fl, xs⟩ (.slice (some ⟨c, of2, none⟩) xs.length ca2)) = Pkt.val ⟨k1, k2, k3, k4, k5, k6, k7, fl, xs⟩ (.slice (some ⟨c, of2, none⟩) ds.length ca2) by rw [h9]]
      exact this
end Go.Proofs.Ytaekiecidbhjhaa
