/- Lists of packets that can be read; chapletref01.All. -/
import Derived.Test.YtaekiecidbhjhaaSame2
namespace Go.Proofs.Ytaekiecidbhjhaa
open Go.RowKit

/-- Packets in a slice that can be read. -/
def RdPk (w : World) (v : Value) (ps : List Pkt) : Prop :=
  ∃ vs : List Value, vs.length = ps.length ∧ Rd w 9 v ps.length (pkCells ps vs) ∧ ∀ (i : Nat) (p : Pkt) (u : Value), ps[i]? = some p → vs[i]? = some u → RdI w u p.data
theorem PkQ.rd {w : World} {l : List HProp} {v : Value} {ps : List Pkt} (hs : Sat w (PkQ v ps :: l)) : RdPk w v ps := by
  obtain ⟨vs, h1, h2⟩ := PkQ.open.1 hs
  exact ⟨vs, h1, Sl.rd h2, fun i p u hp hu => Ints.rd (h2.mem (A := Ints u p.data) (List.mem_cons_of_mem _ (List.mem_append_left _ (pkData_mem ps vs h1 i p u hp hu))))⟩
theorem RdPk.keep {w w' : World} {v : Value} {ps : List Pkt} (h : RdPk w v ps) (k : Keep w w') : RdPk w' v ps :=
  let ⟨vs, h1, h2, h3⟩ := h
  ⟨vs, h1, k.rd h2, fun i p u hp hu => k.rdI (h3 i p u hp hu)⟩
theorem RdPk.val {w : World} {v : Value} {ps : List Pkt} (h : RdPk w v ps) : ∃ a cap, v = .slice a ps.length cap ∧ ps.length ≤ cap ∧ cap ≤ maxLen := let ⟨_, _, h2, _⟩ := h; h2.val
/-- The cells of packet i, as the walk reads them. -/
theorem RdPk.cells {w : World} {v : Value} {ps : List Pkt} (h : RdPk w v ps) (i : Nat) (p : Pkt) (hi : ps[i]? = some p) :
    ∃ b off cap u, v = .slice (some ⟨b, off, none⟩) ps.length cap ∧ RdI w u p.data ∧ b < w.heap.size ∧
      w.cell? ⟨b, off + i * 9, none⟩ = some (VI p.kind) ∧ w.cell? ⟨b, off + i * 9 + 1, none⟩ = some (VI p.src) ∧ w.cell? ⟨b, off + i * 9 + 2, none⟩ = some (VI p.dst) ∧
      w.cell? ⟨b, off + i * 9 + 3, none⟩ = some (VI p.id) ∧ w.cell? ⟨b, off + i * 9 + 4, none⟩ = some (VI p.line) ∧ w.cell? ⟨b, off + i * 9 + 5, none⟩ = some (VI p.ptr) ∧
      w.cell? ⟨b, off + i * 9 + 6, none⟩ = some (VI p.state) ∧ w.cell? ⟨b, off + i * 9 + 7, none⟩ = some (VB p.flag) ∧ w.cell? ⟨b, off + i * 9 + 8, none⟩ = some u := by
  obtain ⟨vs, h1, h2, h3⟩ := h
  obtain ⟨u, h4, h5⟩ := pk_get ps vs h1 i p hi
  have hne : pkCells ps vs ≠ [] := by
    intro h
    have := h5 0 (VI p.kind) rfl
    rw [h] at this; cases this
  obtain ⟨b, off, cap, rfl, _, _, hb, h6⟩ := h2.at hne
  have h7 : ∀ j x, (p.cells u)[j]? = some x → w.cell? ⟨b, off + (i * 9 + j), none⟩ = some x := fun j x hx => h6 _ _ (h5 j x hx)
  exact ⟨b, off, cap, u, rfl, h3 i p u hi h4, hb, h7 0 _ rfl, h7 1 _ rfl, h7 2 _ rfl, h7 3 _ rfl, h7 4 _ rfl, h7 5 _ rfl, h7 6 _ rfl, h7 7 _ rfl, h7 8 _ rfl⟩

def pksEqb : List Pkt → List Pkt → Bool
  | [], [] => true
  | p :: ps, q :: qs => p.eqb q && pksEqb ps qs
  | _, _ => false
theorem pksEqb_iff : ∀ {ps qs : List Pkt}, pksEqb ps qs = true ↔ ps = qs
  | [], [] => by simp [pksEqb]
  | p :: ps, q :: qs => by simp [pksEqb, Pkt.eqb_iff, pksEqb_iff]
  | [], _ :: _ => by simp [pksEqb]
  | _ :: _, [] => by simp [pksEqb]

set_option maxRecDepth 100000 in
set_option maxHeartbeats 1000000 in
theorem all_ne {w : World} (ps qs : List Pkt) {a b : Option Addr} {c d : Nat} (h : ps.length ≠ qs.length) :
    Calls Try.prog 26 #[.slice a ps.length c, .slice b qs.length d] w fun e w' => e = .returned (VB false) ∧ Keep w w' := by
  have g' : (ps.length != qs.length) = true := by simpa using h
  have g'' : (ps.length == qs.length) = false := by simpa using h
  go_enter Try.func26, Try.ntmps26
  go_wp2
  go_ret
  exact ⟨rfl, Keep.refl w⟩

set_option maxRecDepth 100000 in
set_option maxHeartbeats 1000000 in
/-- chapletref01.All. -/
theorem all_ok {w : World} (ps qs : List Pkt) {u v : Value} (hu : RdPk w u ps) (hv : RdPk w v qs) (hn : ps.length ≤ 1000) (hb : ∀ p ∈ ps, p.data.length * 8 ≤ 140737488355328) :
    Calls Try.prog 26 #[u, v] w fun e w' => e = .returned (VB (pksEqb ps qs)) ∧ Keep w w' := by
  by_cases hl : ps.length = qs.length
  case neg =>
    have e : pksEqb ps qs = false := by
      cases hh : pksEqb ps qs with
      | false => rfl
      | true => have := pksEqb_iff.1 hh; subst this; exact absurd rfl hl
    obtain ⟨a, c, rfl, _, _⟩ := hu.val
    obtain ⟨b, d, rfl, _, _⟩ := hv.val
    rw [e]
    exact all_ne ps qs hl
  obtain ⟨a, c, hu1, _, _⟩ := hu.val
  obtain ⟨b, d, hv1, _, _⟩ := hv.val
  have Hu := Lib.hid hu1
  have Hv := Lib.hid hv1
  have Hl := Lib.hid hl
  rw [hu1, hv1]
  clear hu1 hv1
  generalize hnn : ps.length = n at *
  subst hl
  go_enter Try.func26, Try.ntmps26
  go_wp2
  go_loopw [13] (fun t wr => ∃ k : Nat, k ≤ qs.length ∧ t = VI k ∧ Keep w wr ∧ ∀ j, j < k → ps[j]? = qs[j]?) (fun t _ => qs.length - (intOf t).toNat)
  case atStart => exact ⟨0, Nat.zero_le _, rfl, Keep.refl w, by omega⟩
  case round wr =>
    obtain ⟨k, hk, rfl, hkeep, hj⟩ := hrel
    have Hj := Lib.hid hj
    have Hn := Lib.hid hnn
    clear hj hnn
    by_cases hlt : k < qs.length
    · obtain ⟨p, hp⟩ : ∃ p, ps[k]? = some p := ⟨ps[k]'(by rw [Hn.out]; exact hlt), by simp [Hn.out, hlt]⟩
      obtain ⟨q, hq⟩ : ∃ q, qs[k]? = some q := ⟨qs[k], by simp [hlt]⟩
      obtain ⟨b1, o1, c1, u1, e1, r1, l1, p0, p1, p2, p3, p4, p5, p6, p7, p8⟩ := (hu.keep hkeep).cells k p hp
      obtain ⟨b2, o2, c2, u2, e2, r2, l2, q0, q1, q2, q3, q4, q5, q6, q7, q8⟩ := (hv.keep hkeep).cells k q hq
      rw [Hu.out, Value.slice.injEq] at e1
      rw [Hv.out, Value.slice.injEq] at e2
      obtain ⟨rfl, z1, rfl⟩ := e1
      obtain ⟨rfl, z2, rfl⟩ := e2
      clear z1 z2
      have hbp := hb p (List.mem_of_getElem? hp)
      have Hp := Lib.hid hp
      have Hq := Lib.hid hq
      clear hp hq hb hu hv
      by_cases hpq : p = q
      · have g : p.eqb q = true := Pkt.eqb_iff.2 hpq
        have Hpq := Lib.hid hpq
        clear hpq
        go_wp2
        go_region_law (refine step_tag (100 + 22) (by decide) ?_; go_simp; refine (same_ok p q r1.drew r2.drew hbp).mono ?_; rintro e w2 ⟨rfl, hk2⟩)
        all_goals
          go_wp2
          go_roundw
          case rel =>
            refine ⟨k + 1, by omega, by go_num, hkeep.drew.trans hk2, fun j hj => ?_⟩
            by_cases e : j = k
            · subst e; rw [Hp.out, Hq.out, Hpq.out]
            · exact Hj.out j (by omega)
          case measure => simp [intOf]; omega
      · have g : p.eqb q = false := by
          cases hh : p.eqb q with
          | false => rfl
          | true => exact absurd (Pkt.eqb_iff.1 hh) hpq
        have Hpq := Lib.hid hpq
        clear hpq
        go_wp2
        go_region_law (refine step_tag (100 + 22) (by decide) ?_; go_simp; refine (same_ok p q r1.drew r2.drew hbp).mono ?_; rintro e w2 ⟨rfl, hk2⟩)
        all_goals
          go_wp2
          go_ret
          refine ⟨?_, hkeep.drew.trans hk2⟩
          have e : pksEqb ps qs = false := by
            cases hh : pksEqb ps qs with
            | false => rfl
            | true =>
              have h1 := pksEqb_iff.1 hh
              have h2 := Hp.out
              rw [h1, Hq.out] at h2
              exact absurd (Option.some.inj h2).symm Hpq.out
          rw [e]; rfl
    · have hkn : k = qs.length := by omega
      have Hkn := Lib.hid hkn
      clear hkn hu hv
      go_wp2
      go_ret
      refine ⟨?_, hkeep⟩
      have e : pksEqb ps qs = true := by
        refine pksEqb_iff.2 (List.ext_getElem? fun j => ?_)
        by_cases hj : j < qs.length
        · exact Hj.out j (by rw [Hkn.out]; exact hj)
        · rw [List.getElem?_eq_none (by rw [Hn.out]; omega), List.getElem?_eq_none (by omega)]
      rw [e]; rfl
end Go.Proofs.Ytaekiecidbhjhaa
