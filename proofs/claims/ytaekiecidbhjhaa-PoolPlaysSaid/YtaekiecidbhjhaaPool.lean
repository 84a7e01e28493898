/- pool.Pool: its representation, and what each call does. Printed by wip/specs/pool.py. -/
import Derived.Test.YtaekiecidbhjhaaSl2
import Derived.Test.YtaekiecidbhjhaaQueue3
namespace Go.Proofs.Ytaekiecidbhjhaa
open Go.RowKit

set_option maxHeartbeats 400000 in
theorem lown_ok {w : World} {l : List HProp} (p : Pkt) (v : Value) (hr : RdI w v p.data) (hb : p.data.length * 8 ≤ 140737488355328) (hs : Sat w l) :
    Calls Try.prog 81 #[p.val v] w fun e w' => ∃ v', e = .returned (p.val v') ∧ Sat w' (Ints v' p.data :: l) ∧ w.heap.size ≤ w'.heap.size := by
  have h1 := (hs.alloc (.cells (p.cells v).toArray 43)).alloc (.cells (Pkt.zero.cells VNil).toArray 43)
  have hr1 : RdI ((w.alloc (.cells (p.cells v).toArray 43)).alloc (.cells (Pkt.zero.cells VNil).toArray 43)) v p.data := (Rd.alloc hr _).alloc _
  go_enter Try.func81, Try.ntmps81
  go_wp2_with fail
  refine (clone_ok hr1 hb h1).mono ?_
  rintro e w1 ⟨v', rfl, h2, h3⟩
  obtain ⟨a', cap', rfl, _, _⟩ := (Ints.rd h2).val
  simp only [World.size_alloc] at h2 h3
  have c0 := h2.p2.cell
  have f0 := h2.p2.free
  have c1 := h2.p1.cell
  have f1 := h2.p1.free
  go_wp2
  have h4 := (((((((((h2.p2.set 8 (.slice a' p.data.length cap')).p2.set 0 (VI p.kind)).set 1 (VI p.src)).set 2 (VI p.dst)).set 3 (VI p.id)).set 4 (VI p.line)).set 5 (VI p.ptr)).set 6 (VI p.state)).set 7 (VB p.flag)).set 8 (.slice a' p.data.length cap')
  refine ret_struct rfl rfl h4 und_pkt size_pkt rfl ⟨_, rfl, h4.tail.tail, by simp; omega⟩
def LRep (q : Nat) (room : Int) (ps : List Pkt) : HProp := Ex fun v : Value => [Pur (QOk room ps), cel q 116 [v, VI room], PkQ v ps]
theorem LRep.open {w : World} {l : List HProp} {q : Nat} {room : Int} {ps : List Pkt} : Sat w (LRep q room ps :: l) ↔ QOk room ps ∧ ∃ v, Sat w (cel q 116 [v, VI room] :: PkQ v ps :: l) := by
  unfold LRep
  rw [Sat.ex]
  constructor
  · rintro ⟨v, h⟩
    obtain ⟨h1, h2⟩ := Sat.pur.1 h
    exact ⟨h1, v, h2⟩
  · rintro ⟨h1, v, h2⟩
    exact ⟨v, Sat.pur.2 ⟨h1, h2⟩⟩
theorem LRep.new {w : World} {l : List HProp} (room : Int) (h0 : 0 ≤ room) (hb : room ≤ 1000) (hs : Sat w l) : Sat (w.alloc (.cells #[VNil, VI room] 116)) (LRep w.heap.size room [] :: l) :=
  LRep.open.2 ⟨⟨hb, by simpa using h0, by simp⟩, VNil, (PkQ.nil (hs.alloc _)).p1⟩
set_option maxHeartbeats 400000 in
theorem lnew_ok {w : World} {l : List HProp} (room : Int) (hb : room ≤ 1000) (hs : Sat w l) :
    Calls Try.prog 29 #[VI room] w fun e w' => ∃ q, e = .returned (VP q 0) ∧ Sat w' (LRep q (max 0 room) [] :: l) ∧ w.heap.size ≤ w'.heap.size := by
  go_enter Try.func29, Try.ntmps29
  go_wp2
  · go_ret
    exact ⟨_, rfl, by rw [Int.max_eq_right (by omega)]; exact LRep.new room (by omega) hb hs, by simp⟩
  · go_ret
    exact ⟨_, rfl, by rw [Int.max_eq_left (by omega)]; exact LRep.new 0 (by omega) (by omega) hs, by simp⟩
set_option maxHeartbeats 400000 in
theorem llen_ok {w : World} {l : List HProp} {q : Nat} {room : Int} {ps : List Pkt} (hs : Sat w (LRep q room ps :: l)) :
    Calls Try.prog 33 #[VP q 0] w fun e w' => e = .returned (VI ps.length) ∧ w = w' := by
  obtain ⟨⟨h1, h2, h3⟩, v, h4⟩ := LRep.open.1 hs
  obtain ⟨a, cap, rfl, _, _⟩ := (PkQ.val h4.p1)
  have c0 := h4.cell
  clear hs h3 h4
  go_enter Try.func33, Try.ntmps33
  go_wp2
  go_ret
  exact ⟨rfl, rfl⟩
set_option maxHeartbeats 400000 in
theorem lroom_ok {w : World} {l : List HProp} {q : Nat} {room : Int} {ps : List Pkt} (hs : Sat w (LRep q room ps :: l)) :
    Calls Try.prog 34 #[VP q 0] w fun e w' => e = .returned (VI (room - ps.length)) ∧ ∃ k, w' = w.drewN k := by
  obtain ⟨⟨h1, h2, h3⟩, v, h4⟩ := LRep.open.1 hs
  obtain ⟨a, cap, rfl, _, _⟩ := (PkQ.val h4.p1)
  have c0 := h4.cell
  clear hs h3 h4
  go_enter Try.func34, Try.ntmps34
  go_wp2
  go_quiet (fail)
  go_wp2
  go_ret
  exact ⟨rfl, _, rfl⟩
set_option maxHeartbeats 400000 in
theorem lput_full {w : World} {l : List HProp} {q : Nat} {room : Int} {ps : List Pkt} (hs : Sat w (LRep q room ps :: l)) (p : Pkt) (u : Value) (hf : room = ps.length) :
    Calls Try.prog 30 #[VP q 0, p.val u] w fun e w' => e = .returned (VI 5) ∧ Sat w' (LRep q room ps :: l) ∧ w.heap.size ≤ w'.heap.size := by
  have hs1 := hs.skip (.cells (p.cells u).toArray 43)
  have hz : (room - (ps.length : Int) == 0) = true := by simp; omega
  go_enter Try.func30, Try.ntmps30
  go_wp2_with fail
  refine (lroom_ok hs1).mono ?_
  rintro e w1 ⟨rfl, k, rfl⟩
  go_wp2
  go_ret
  exact ⟨rfl, hs1.drewN k, by simp⟩
set_option maxRecDepth 100000 in
set_option maxHeartbeats 400000 in
theorem lput_room {w : World} {l : List HProp} {q : Nat} {room : Int} {ps : List Pkt} (hs : Sat w (LRep q room ps :: l)) (p : Pkt) (u : Value) (hr : RdI w u p.data) (hb : p.data.length * 8 ≤ 140737488351232) (hf : (ps.length : Int) < room) :
    Calls Try.prog 30 #[VP q 0, p.val u] w fun e w' => e = .returned (VI 0) ∧ Sat w' (LRep q room (ps ++ [p]) :: l) ∧ w.heap.size ≤ w'.heap.size := by
  have hs1 := hs.alloc (.cells (p.cells u).toArray 43)
  have hr1 : RdI (w.alloc (.cells (p.cells u).toArray 43)) u p.data := Rd.alloc hr _
  have hz : (room - (ps.length : Int) == 0) = false := by simp; omega
  go_enter Try.func30, Try.ntmps30
  go_wp2_with fail
  refine (lroom_ok hs1.p1).mono ?_
  rintro e w1 ⟨rfl, k, rfl⟩
  generalize hW : (w.alloc (.cells (p.cells u).toArray 43)).drewN k = W
  have hs2 : Sat W (pts w.heap.size (.cells (p.cells u).toArray 43) :: LRep q room ps :: l) := hW ▸ hs1.drewN k
  have hr2 : RdI W u p.data := hW ▸ hr1
  have hsz : w.heap.size ≤ W.heap.size := by rw [← hW]; simp
  clear hW hs1 hr1
  obtain ⟨⟨o1, o2, o3⟩, v, hs3⟩ := LRep.open.1 hs2.p1
  obtain ⟨a, cap, rfl, _, _⟩ := PkQ.val hs3.p1
  have c0 := hs3.cell
  have f0 := hs3.free
  have c1 := hs3.p2.cell
  go_wp2
  go_region_law (first | (refine step_tag 1 (by decide) ?_; refine step_app_pkt rfl _ _ rfl ((h2.alloc _).p3.p1) (by kernel_rfl) (by kernel_rfl) (by omega) ?_; intro v2 w2 h4 h5; obtain ⟨a2, cap2, rfl, _, _⟩ := PkQ.val h4; have c0 := h4.p1.cell; have f0 := h4.p1.free) | (refine step_tag (100 + 81) (by decide) ?_; go_simp; refine (lown_ok p u hr2.drew (by omega) hs3.drew).mono ?_; rintro e w1 ⟨v', rfl, h2, h3⟩; obtain ⟨a', cap', rfl, _, _⟩ := Ints.val h2; have c0 := h2.p1.cell; have f0 := h2.p1.free; have l0 := h2.p1.lt))
  all_goals
    go_wp2
    go_ret
    refine ⟨rfl, LRep.open.2 ⟨⟨o1, by simp; omega, ?_⟩, _, by simpa using (h4.p1.set 0 (.slice a2 (ps.length + 1) cap2)).d2⟩, by (try simp at h3 h5 ⊢); omega⟩
    intro x hx
    rcases List.mem_append.1 hx with h | h
    · exact o3 x h
    · simp at h; subst h; exact hb
set_option maxRecDepth 100000 in
set_option maxHeartbeats 1000000 in
theorem lall_ok {w : World} {l : List HProp} {q : Nat} {room : Int} {ps : List Pkt} (hs : Sat w (LRep q room ps :: l)) :
    Calls Try.prog 35 #[VP q 0] w fun e w' => ∃ v, e = .returned v ∧ Sat w' (PkQ v ps :: LRep q room ps :: l) ∧ w.heap.size ≤ w'.heap.size := by
  obtain ⟨⟨o1, o2, o3⟩, v, h4⟩ := LRep.open.1 hs
  have hval := PkQ.val h4.p1
  obtain ⟨a, cap, hv, hc1, hc2⟩ := hval
  have c0 := h4.cell
  rw [hv] at c0
  have Hv := Lib.hid hv
  have Ho2 := Lib.hid o2
  have hlen : (ps.length : Int) ≤ 1000 := by omega
  clear hs hv o2
  generalize hn : ps.length = n at *
  have Hn := Lib.hid hn
  clear hn
  go_enter Try.func35, Try.ntmps35
  go_wp2
  clear c0
  go_loopw [3, 11] (fun x t wr => ∃ (k : Nat) (u : Value), k ≤ n ∧ t = VI k ∧ x = u ∧ Sat wr (PkQ u (ps.take k) :: cel q 116 [v, VI room] :: PkQ v ps :: l) ∧ w.heap.size ≤ wr.heap.size) (fun _ t _ => n - (intOf t).toNat)
  case atStart => exact ⟨0, _, Nat.zero_le _, rfl, rfl, PkQ.nil h4, Nat.le_refl _⟩
  case round wr =>
    obtain ⟨k, u, hk, rfl, rfl, hsr, hsz⟩ := hrel
    clear h4
    obtain ⟨a2, cap2, rfl, _, _⟩ := PkQ.val hsr
    by_cases hlt : k < n
    · obtain ⟨p, hp⟩ : ∃ p, ps[k]? = some p := ⟨ps[k]'(by rw [Hn.out]; exact hlt), by simp [Hn.out, hlt]⟩
      obtain ⟨b1, f1, c1, u1, e1, r1, p0, p1, p2, p3, p4, p5, p6, p7, p8⟩ := PkQ.cells hsr.p2 k p hp
      have l1 := World.block_lt_of_cell? _ _ p0
      obtain ⟨d1, d2, rfl, _, _⟩ := r1.val
      rw [Hv.out, Value.slice.injEq] at e1
      obtain ⟨rfl, z1, rfl⟩ := e1
      have hbp := o3 p (List.mem_of_getElem? hp)
      have hlk : (ps.take k).length = k := by simp [Hn.out]; omega
      have hs5 := hsr.alloc (.cells (p.cells (.slice d1 p.data.length d2)).toArray 43)
      have hr5 : RdI (wr.alloc (.cells (p.cells (.slice d1 p.data.length d2)).toArray 43)) _ p.data := Rd.alloc r1 _
      have Hp := Lib.hid hp
      rw [hlk]
      have Hlk := Lib.hid hlk
      clear hp z1 hlk r1
      go_wp2_with fail
      refine (lown_ok p _ hr5 (by omega) hs5).mono ?_
      rintro e w2 ⟨u2, rfl, h6, h7⟩
      obtain ⟨a3, cap3, rfl, _, _⟩ := Ints.val h6
      go_wp2_with (at_builtin; refine wpList_app_pkt rfl _ _ rfl ((h6.alloc _).p3.p1) ?_ ?_ ?_ ?_)
      · rw [Hlk.out]; rfl
      · rfl
      · rw [Hlk.out]; omega
      intro v3 w3 h8 h9
      go_wp2
      go_roundw
      case rel =>
        refine ⟨k + 1, v3, by omega, by go_num, rfl, ?_, by simp at h7; omega⟩
        have e : ps.take (k + 1) = ps.take k ++ [p] := by rw [List.take_add_one, Hp.out]; rfl
        rw [e]
        exact h8.d1
      case measure => simp [intOf]; omega
    · have hkn : k = n := by omega
      have Hkn := Lib.hid hkn
      clear hkn
      go_wp2
      go_ret
      have e : ps.take k = ps := by rw [Hkn.out, ← Hn.out]; exact List.take_length
      have hok : QOk room ps := ⟨o1, by rw [Hn.out]; exact Ho2.out, o3⟩
      have h9 : Sat wr (PkQ (.slice a2 (ps.take k).length cap2) ps :: LRep q room ps :: l) := by
        rw [e] at hsr ⊢
        exact Sat.p1 (LRep.open.2 ⟨hok, v, hsr.p2.p2⟩)
      exact ⟨_, rfl, h9, hsz⟩

theorem pk_agg (p : Pkt) (v : Value) : Value.agg (p.cells v).toArray = p.val v := rfl
theorem pk_ones (p : Pkt) (a : Option Addr) (n c : Nat) : ∀ u ∈ (p.val (.slice a n c)).cells.toList, u.oneCell' = true := one_pkt p a n c

set_option maxRecDepth 100000 in
theorem lget_none {w : World} {l : List HProp} {q : Nat} {room : Int} {ps : List Pkt} (S0 : Sat w (LRep q room ps :: l)) (at_ : Int) (hat : at_ < 0 ∨ (ps.length : Int) ≤ at_) :
    Calls Try.prog 31 #[VP q 0, VI at_] w fun e w' => e = .returned (.tuple #[Pkt.zero.val VNil, VB false]) ∧ Sat w' (LRep q room ps :: l) := by
  obtain ⟨ok, v, S⟩ := LRep.open.1 S0
  obtain ⟨pa, pc, rfl, _, _⟩ := PkQ.val S.p1
  clear S0
  refine enter (n := 26) Try.func31 rfl [(0, VP q 0), (1, VI at_)] rfl rfl fun aa0 HH0 => ?_
  refine wp_seq_k fun KK1 hKK1 => ?_
  refine wp_region_lit ?_
  refine LG_do (want0 rfl) rfl rfl HH0 (M_alloc HH0 rfl st_api_Packet.zero S) ?_
  rintro _ ww2 ⟨b4, rfl, SS2, _⟩ aa2 HH2
  clear HH0
  clear S
  refine LG_val (want0 rfl) rfl rfl HH2 (Y_asg HH2 rfl rfl) (fun aa3 HH3 => ?_)
  clear HH2
  refine L_end (t_norm (hKK1 _ _ ?_))
  refine wp_seq_k fun KK4 hKK4 => ?_
  refine wp_seq_k fun KK5 hKK5 => ?_
  refine wp_region_lit ?_
  refine LG_val (want0 rfl) rfl rfl HH3 (Y_mov HH3 rfl rfl) (fun aa6 HH6 => ?_)
  clear HH3
  by_cases h0 : at_ < 0
  ·
    refine LG_val (want0 rfl) rfl rfl HH6 (Y_yes (Y_lss HH6 rfl rfl rfl) (h0)) (fun aa7 HH7 => ?_)
    clear HH6
    refine LG_val (want0 rfl) rfl rfl HH7 (Y_mov HH7 rfl rfl) (fun aa8 HH8 => ?_)
    clear HH7
    refine LG_skip (HH8.unwant rfl rfl rfl rfl) rfl rfl HH8 (fun aa9 HH9 => ?_)
    clear HH8
    refine LG_skip (HH9.unwant rfl rfl rfl rfl) rfl rfl HH9 (fun aa10 HH10 => ?_)
    clear HH9
    refine LG_skip (HH10.unwant rfl rfl rfl rfl) rfl rfl HH10 (fun aa11 HH11 => ?_)
    clear HH10
    refine LG_skip (HH11.unwant rfl rfl rfl rfl) rfl rfl HH11 (fun aa12 HH12 => ?_)
    clear HH11
    refine LG_skip (HH12.unwant rfl rfl rfl rfl) rfl rfl HH12 (fun aa13 HH13 => ?_)
    clear HH12
    refine LG_skip (HH13.unwant rfl rfl rfl rfl) rfl rfl HH13 (fun aa14 HH14 => ?_)
    clear HH13
    refine LG_skip (HH14.unwant rfl rfl rfl rfl) rfl rfl HH14 (fun aa15 HH15 => ?_)
    clear HH14
    refine LG_val (want0 rfl) rfl rfl HH15 (Y_pickT HH15 rfl rfl rfl) (fun aa16 HH16 => ?_)
    clear HH15
    refine L_end (t_norm (hKK5 _ _ ?_))
    refine c_yes HH16 rfl ?_
    refine wp_seq_k fun KK17 hKK17 => ?_
    refine wp_region_lit ?_
    refine LG_val (want0 rfl) rfl rfl HH16 (Y_build (cs := Pkt.cells Pkt.zero VNil) HH16 rfl st_api_Packet rfl rfl) (fun aa18 HH18 => ?_)
    clear HH16
    refine LG_do0 (want0 rfl) rfl HH18 (M_storeS HH18 rfl rfl rfl SS2 st_api_Packet.size rfl rfl (one_pkt _ _ _ _)) ?_
    rintro _ ww19 ⟨SS19, _⟩ aa19 HH19
    clear HH18
    clear SS2
    refine LG_val (want0 rfl) rfl rfl HH19 (Y_asg HH19 rfl rfl) (fun aa20 HH20 => ?_)
    clear HH19
    refine L_end (t_norm (hKK17 _ _ ?_))
    refine wp_ret (t_ret (retS2 rfl HH20 rfl rfl SS19 st_api_Packet.und st_api_Packet.size ?_))
    exact ⟨rfl, LRep.open.2 ⟨ok, _, SS19.p2.p2.p2.tail⟩⟩
  ·
    refine LG_val (want0 rfl) rfl rfl HH6 (Y_no (Y_lss HH6 rfl rfl rfl) (h0)) (fun aa21 HH21 => ?_)
    clear HH6
    refine LG_val (want0 rfl) rfl rfl HH21 (Y_mov HH21 rfl rfl) (fun aa22 HH22 => ?_)
    clear HH21
    refine LG_val (HH22.want rfl rfl rfl) rfl rfl HH22 (Y_mov HH22 rfl rfl) (fun aa23 HH23 => ?_)
    clear HH22
    refine LG_val (HH23.want rfl rfl rfl) rfl rfl HH23 (Y_mov HH23 rfl rfl) (fun aa24 HH24 => ?_)
    clear HH23
    refine LG_val (HH24.want rfl rfl rfl) rfl rfl HH24 (Y_chk HH24 rfl rfl) (fun aa25 HH25 => ?_)
    clear HH24
    refine LG_val (HH25.want rfl rfl rfl) rfl rfl HH25 (Y_fad (off := 0) (r := 0) HH25 rfl (by kernel_rfl) rfl rfl) (fun aa26 HH26 => ?_)
    clear HH25
    refine LG_val (HH26.want rfl rfl rfl) rfl rfl HH26 (Y_load HH26 rfl (by kernel_rfl) rfl (SS2.p1.cell 0)) (fun aa27 HH27 => ?_)
    clear HH26
    refine LG_val (HH27.want rfl rfl rfl) rfl rfl HH27 (Y_lenS HH27 rfl (by kernel_rfl) rfl) (fun aa28 HH28 => ?_)
    clear HH27
    refine LG_val (HH28.want rfl rfl rfl) rfl rfl HH28 (Y_yes (Y_geq HH28 rfl rfl rfl) (by omega)) (fun aa29 HH29 => ?_)
    clear HH28
    refine LG_val (want0 rfl) rfl rfl HH29 (Y_pickF HH29 rfl rfl rfl) (fun aa30 HH30 => ?_)
    clear HH29
    refine L_end (t_norm (hKK5 _ _ ?_))
    refine c_yes HH30 rfl ?_
    refine wp_seq_k fun KK31 hKK31 => ?_
    refine wp_region_lit ?_
    refine LG_val (want0 rfl) rfl rfl HH30 (Y_build (cs := Pkt.cells Pkt.zero VNil) HH30 rfl st_api_Packet rfl rfl) (fun aa32 HH32 => ?_)
    clear HH30
    refine LG_do0 (want0 rfl) rfl HH32 (M_storeS HH32 rfl rfl rfl SS2 st_api_Packet.size rfl rfl (one_pkt _ _ _ _)) ?_
    rintro _ ww33 ⟨SS33, _⟩ aa33 HH33
    clear HH32
    clear SS2
    refine LG_val (want0 rfl) rfl rfl HH33 (Y_asg HH33 rfl rfl) (fun aa34 HH34 => ?_)
    clear HH33
    refine L_end (t_norm (hKK31 _ _ ?_))
    refine wp_ret (t_ret (retS2 rfl HH34 rfl rfl SS33 st_api_Packet.und st_api_Packet.size ?_))
    exact ⟨rfl, LRep.open.2 ⟨ok, _, SS33.p2.p2.p2.tail⟩⟩

set_option maxRecDepth 100000 in
theorem lget_some {w : World} {l : List HProp} {q : Nat} {room : Int} {ps : List Pkt} (S0 : Sat w (LRep q room ps :: l)) (i : Nat) (p : Pkt) (hi : ps[i]? = some p) :
    Calls Try.prog 31 #[VP q 0, VI i] w fun e w' => ∃ u, e = .returned (.tuple #[p.val u, VB true]) ∧ Sat w' (Ints u p.data :: LRep q room ps :: l) := by
  obtain ⟨ok, v, S⟩ := LRep.open.1 S0
  obtain ⟨pb, po, pc, u0, rfl, hr, hc⟩ := PkQ.get S.p1 i p hi
  have hlt : i < ps.length := (List.getElem?_eq_some_iff.1 hi).1
  have hb := ok.2.2 p (List.mem_of_getElem? hi)
  have hn : (ps.length : Int) ≤ 1000 := by have := ok.2.1; have := ok.1; omega
  clear S0
  refine enter (n := 26) Try.func31 rfl [(0, VP q 0), (1, VI i)] rfl rfl fun aa0 HH0 => ?_
  refine wp_seq_k fun KK1 hKK1 => ?_
  refine wp_region_lit ?_
  refine LG_do (want0 rfl) rfl rfl HH0 (M_alloc HH0 rfl st_api_Packet.zero S) ?_
  rintro _ ww2 ⟨b4, rfl, SS2, _⟩ aa2 HH2
  clear HH0
  clear S
  refine LG_val (want0 rfl) rfl rfl HH2 (Y_asg HH2 rfl rfl) (fun aa3 HH3 => ?_)
  clear HH2
  refine L_end (t_norm (hKK1 _ _ ?_))
  refine wp_seq_k fun KK4 hKK4 => ?_
  refine wp_seq_k fun KK5 hKK5 => ?_
  refine wp_region_lit ?_
  refine LG_val (want0 rfl) rfl rfl HH3 (Y_mov HH3 rfl rfl) (fun aa6 HH6 => ?_)
  clear HH3
  refine LG_val (want0 rfl) rfl rfl HH6 (Y_no (Y_lss HH6 rfl rfl rfl) (by omega)) (fun aa7 HH7 => ?_)
  clear HH6
  refine LG_val (want0 rfl) rfl rfl HH7 (Y_mov HH7 rfl rfl) (fun aa8 HH8 => ?_)
  clear HH7
  refine LG_val (HH8.want rfl rfl rfl) rfl rfl HH8 (Y_mov HH8 rfl rfl) (fun aa9 HH9 => ?_)
  clear HH8
  refine LG_val (HH9.want rfl rfl rfl) rfl rfl HH9 (Y_mov HH9 rfl rfl) (fun aa10 HH10 => ?_)
  clear HH9
  refine LG_val (HH10.want rfl rfl rfl) rfl rfl HH10 (Y_chk HH10 rfl rfl) (fun aa11 HH11 => ?_)
  clear HH10
  refine LG_val (HH11.want rfl rfl rfl) rfl rfl HH11 (Y_fad (off := 0) (r := 0) HH11 rfl (by kernel_rfl) rfl rfl) (fun aa12 HH12 => ?_)
  clear HH11
  refine LG_val (HH12.want rfl rfl rfl) rfl rfl HH12 (Y_load HH12 rfl (by kernel_rfl) rfl (SS2.p1.cell 0)) (fun aa13 HH13 => ?_)
  clear HH12
  refine LG_val (HH13.want rfl rfl rfl) rfl rfl HH13 (Y_lenS HH13 rfl (by kernel_rfl) rfl) (fun aa14 HH14 => ?_)
  clear HH13
  refine LG_val (HH14.want rfl rfl rfl) rfl rfl HH14 (Y_no (Y_geq HH14 rfl rfl rfl) (by omega)) (fun aa15 HH15 => ?_)
  clear HH14
  refine LG_val (want0 rfl) rfl rfl HH15 (Y_pickF HH15 rfl rfl rfl) (fun aa16 HH16 => ?_)
  clear HH15
  refine L_end (t_norm (hKK5 _ _ ?_))
  refine c_no HH16 rfl ?_
  refine wp_skip (t_norm (hKK4 _ _ ?_))
  refine wp_seq_k fun KK17 hKK17 => ?_
  refine wp_region_lit ?_
  refine LG_val (want0 rfl) rfl rfl HH16 (Y_mov HH16 rfl rfl) (fun aa18 HH18 => ?_)
  clear HH16
  refine LG_val (want0 rfl) rfl rfl HH18 (Y_chk HH18 rfl rfl) (fun aa19 HH19 => ?_)
  clear HH18
  refine LG_val (want0 rfl) rfl rfl HH19 (Y_fad (off := 0) (r := 0) HH19 rfl (by kernel_rfl) rfl rfl) (fun aa20 HH20 => ?_)
  clear HH19
  refine LG_val (want0 rfl) rfl rfl HH20 (Y_load HH20 rfl (by kernel_rfl) rfl (SS2.p1.cell 0)) (fun aa21 HH21 => ?_)
  clear HH20
  refine LG_val (want0 rfl) rfl rfl HH21 (Y_mov HH21 rfl rfl) (fun aa22 HH22 => ?_)
  clear HH21
  refine LG_val (want0 rfl) rfl rfl HH22 (Y_idx (q := po + i * 9) HH22 rfl ty_pkts rfl rfl (by omega) (by omega) (by simp)) (fun aa23 HH23 => ?_)
  clear HH22
  obtain ⟨pb2, po2, pc2, u2, he, hc2, hr2⟩ := PkQ.get SS2.p2 i p hi
  rw [Value.slice.injEq, Option.some.injEq, Addr.mk.injEq] at he
  obtain ⟨⟨rfl, rfl, _⟩, _, rfl⟩ := he
  obtain ⟨da, dc, rfl, _, _⟩ := Rd.val hr2
  refine LG_val (want0 rfl) rfl rfl HH23 (Y_loadC HH23 rfl rfl (fun j x h => (Nat.add_assoc po (i * 9) j) ▸ hc2 j x h) st_api_Packet.und st_api_Packet.size) (fun aa24 HH24 => ?_)
  clear HH23
  refine LG_call (want0 rfl) rfl rfl rfl Try.func81 (by kernel_rfl) rfl HH24 (lown_ok p _ hr2 (by omega) SS2) rfl ?_
  rintro e ww25 ⟨u3, rfl, SS25, _⟩
  obtain ⟨a4, c4, rfl, _, _⟩ := Ints.val SS25
  refine ⟨_, rfl, fun aa25 HH25 => ?_⟩
  clear HH24
  clear SS2
  refine LG_do0 (want0 rfl) rfl HH25 (M_storeS HH25 rfl rfl rfl SS25.p1 st_api_Packet.size rfl rfl (one_pkt _ _ _ _)) ?_
  rintro _ ww26 ⟨SS26, _⟩ aa26 HH26
  clear HH25
  clear SS25
  refine LG_val (want0 rfl) rfl rfl HH26 (Y_asg HH26 rfl rfl) (fun aa27 HH27 => ?_)
  clear HH26
  refine L_end (t_norm (hKK17 _ _ ?_))
  refine wp_ret (retS2 rfl HH27 rfl rfl SS26 st_api_Packet.und st_api_Packet.size ?_)
  exact ⟨_, rfl, (LRep.open.2 ⟨ok, _, SS26.p3.p3.p3.p3.tail.p2.p2⟩).p1⟩

set_option maxRecDepth 100000 in
theorem lrem_none {w : World} {l : List HProp} {q : Nat} {room : Int} {ps : List Pkt} (S : Sat w (LRep q room ps :: l)) (at_ : Int) (hat : at_ < 0 ∨ (ps.length : Int) ≤ at_) :
    Calls Try.prog 32 #[VP q 0, VI at_] w fun e w' => e = .returned (.tuple #[Pkt.zero.val VNil, VB false]) ∧ Sat w' (LRep q room ps :: l) := by
  refine enter (n := 28) Try.func32 rfl [(0, VP q 0), (1, VI at_)] rfl rfl fun aa0 HH0 => ?_
  refine wp_seq_k fun KK1 hKK1 => ?_
  refine wp_region_lit ?_
  refine LG_do (want0 rfl) rfl rfl HH0 (M_alloc HH0 rfl st_api_Packet.zero S) ?_
  rintro _ ww2 ⟨b4, rfl, SS2, _⟩ aa2 HH2
  clear HH0
  clear S
  refine LG_val (want0 rfl) rfl rfl HH2 (Y_asg HH2 rfl rfl) (fun aa3 HH3 => ?_)
  clear HH2
  refine L_end (t_norm (hKK1 _ _ ?_))
  refine wp_seq_k fun KK4 hKK4 => ?_
  refine wp_region_lit ?_
  refine LG_val (want0 rfl) rfl rfl HH3 (Y_mov HH3 rfl rfl) (fun aa5 HH5 => ?_)
  clear HH3
  refine LG_val (want0 rfl) rfl rfl HH5 (Y_mov HH5 rfl rfl) (fun aa6 HH6 => ?_)
  clear HH5
  refine LG_call (want0 rfl) rfl rfl rfl Try.func31 (by kernel_rfl) rfl HH6 (lget_none SS2.p1 at_ hat) rfl ?_
  rintro e ww7 ⟨rfl, SS7⟩
  refine ⟨_, rfl, fun aa7 HH7 => ?_⟩
  clear HH6
  clear SS2
  refine LG_val (want0 rfl) rfl rfl HH7 (Y_mov HH7 rfl rfl) (fun aa8 HH8 => ?_)
  clear HH7
  refine LG_val (want0 rfl) rfl rfl HH8 (Y_ext HH8 rfl rfl rfl) (fun aa9 HH9 => ?_)
  clear HH8
  refine LG_val (want0 rfl) rfl rfl HH9 (Y_ext HH9 rfl rfl rfl) (fun aa10 HH10 => ?_)
  clear HH9
  refine LG_do (want0 rfl) rfl rfl HH10 (M_alloc HH10 rfl st_api_Packet.zero SS7) ?_
  rintro _ ww11 ⟨b6, rfl, SS11, _⟩ aa11 HH11
  clear HH10
  clear SS7
  refine LG_do0 (want0 rfl) rfl HH11 (M_storeS HH11 rfl rfl rfl SS11 st_api_Packet.size rfl rfl (one_pkt _ _ _ _)) ?_
  rintro _ ww12 ⟨SS12, _⟩ aa12 HH12
  clear HH11
  clear SS11
  refine LG_val (want0 rfl) rfl rfl HH12 (Y_asg HH12 rfl rfl) (fun aa13 HH13 => ?_)
  clear HH12
  refine L_end (t_norm (hKK4 _ _ ?_))
  refine wp_seq_k fun KK14 hKK14 => ?_
  refine wp_seq_k fun KK15 hKK15 => ?_
  refine wp_region_lit ?_
  refine LG_val (want0 rfl) rfl rfl HH13 (Y_mov HH13 rfl rfl) (fun aa16 HH16 => ?_)
  clear HH13
  refine L_end (t_norm (hKK15 _ _ ?_))
  refine c_no HH16 rfl ?_
  refine wp_skip (t_norm (hKK14 _ _ ?_))
  refine wp_seq_k fun KK17 hKK17 => ?_
  refine wp_region_lit ?_
  refine LG_val (want0 rfl) rfl rfl HH16 (Y_loadS HH16 rfl rfl SS12 st_api_Packet.und st_api_Packet.size) (fun aa18 HH18 => ?_)
  clear HH16
  refine LG_val (want0 rfl) rfl rfl HH18 (Y_mov HH18 rfl rfl) (fun aa19 HH19 => ?_)
  clear HH18
  refine LG_do0 (want0 rfl) rfl HH19 (M_storeS HH19 rfl rfl rfl SS12.p2 st_api_Packet.size rfl rfl (one_pkt _ _ _ _)) ?_
  rintro _ ww20 ⟨SS20, _⟩ aa20 HH20
  clear HH19
  clear SS12
  refine LG_val (want0 rfl) rfl rfl HH20 (Y_asg HH20 rfl rfl) (fun aa21 HH21 => ?_)
  clear HH20
  refine L_end (t_norm (hKK17 _ _ ?_))
  refine wp_ret (retS2 rfl HH21 rfl rfl SS20 st_api_Packet.und st_api_Packet.size ?_)
  exact ⟨rfl, SS20.p2.p2.p2.tail.tail⟩

set_option maxRecDepth 100000 in
theorem lrem_some {w : World} {l : List HProp} {q : Nat} {room : Int} {ps : List Pkt} (S : Sat w (LRep q room ps :: l)) (i : Nat) (p : Pkt) (hi : ps[i]? = some p) :
    Calls Try.prog 32 #[VP q 0, VI i] w fun e w' => ∃ u, e = .returned (.tuple #[p.val u, VB true]) ∧ Sat w' (Ints u p.data :: LRep q room (ps.take i ++ ps.drop (i + 1)) :: l) := by
  have hlt : i < ps.length := (List.getElem?_eq_some_iff.1 hi).1
  refine enter (n := 28) Try.func32 rfl [(0, VP q 0), (1, VI i)] rfl rfl fun aa0 HH0 => ?_
  refine wp_seq_k fun KK1 hKK1 => ?_
  refine wp_region_lit ?_
  refine LG_do (want0 rfl) rfl rfl HH0 (M_alloc HH0 rfl st_api_Packet.zero S) ?_
  rintro _ ww2 ⟨b4, rfl, SS2, _⟩ aa2 HH2
  clear HH0
  clear S
  refine LG_val (want0 rfl) rfl rfl HH2 (Y_asg HH2 rfl rfl) (fun aa3 HH3 => ?_)
  clear HH2
  refine L_end (t_norm (hKK1 _ _ ?_))
  refine wp_seq_k fun KK4 hKK4 => ?_
  refine wp_region_lit ?_
  refine LG_val (want0 rfl) rfl rfl HH3 (Y_mov HH3 rfl rfl) (fun aa5 HH5 => ?_)
  clear HH3
  refine LG_val (want0 rfl) rfl rfl HH5 (Y_mov HH5 rfl rfl) (fun aa6 HH6 => ?_)
  clear HH5
  refine LG_call (want0 rfl) rfl rfl rfl Try.func31 (by kernel_rfl) rfl HH6 (lget_some SS2.p1 i p hi) rfl ?_
  rintro e ww7 ⟨u3, rfl, SS7⟩
  obtain ⟨a4, c4, rfl, _, _⟩ := Ints.val SS7
  refine ⟨_, rfl, fun aa7 HH7 => ?_⟩
  clear HH6
  clear SS2
  refine LG_val (want0 rfl) rfl rfl HH7 (Y_mov HH7 rfl rfl) (fun aa8 HH8 => ?_)
  clear HH7
  refine LG_val (want0 rfl) rfl rfl HH8 (Y_ext HH8 rfl rfl rfl) (fun aa9 HH9 => ?_)
  clear HH8
  refine LG_val (want0 rfl) rfl rfl HH9 (Y_ext HH9 rfl rfl rfl) (fun aa10 HH10 => ?_)
  clear HH9
  refine LG_do (want0 rfl) rfl rfl HH10 (M_alloc HH10 rfl st_api_Packet.zero SS7) ?_
  rintro _ ww11 ⟨b6, rfl, SS11, _⟩ aa11 HH11
  clear HH10
  clear SS7
  refine LG_do0 (want0 rfl) rfl HH11 (M_storeS HH11 rfl rfl rfl SS11 st_api_Packet.size rfl rfl (one_pkt _ _ _ _)) ?_
  rintro _ ww12 ⟨SS12, _⟩ aa12 HH12
  clear HH11
  clear SS11
  refine LG_val (want0 rfl) rfl rfl HH12 (Y_asg HH12 rfl rfl) (fun aa13 HH13 => ?_)
  clear HH12
  refine L_end (t_norm (hKK4 _ _ ?_))
  refine wp_seq_k fun KK14 hKK14 => ?_
  refine wp_seq_k fun KK15 hKK15 => ?_
  refine wp_region_lit ?_
  refine LG_val (want0 rfl) rfl rfl HH13 (Y_mov HH13 rfl rfl) (fun aa16 HH16 => ?_)
  clear HH13
  refine L_end (t_norm (hKK15 _ _ ?_))
  refine c_yes HH16 rfl ?_
  obtain ⟨ok, v, S1⟩ := LRep.open.1 SS12.p3.p1.p2.p3
  obtain ⟨pa, pc, rfl, _, _⟩ := PkQ.val S1.p1
  have hn : (ps.length : Int) ≤ 1000 := by have := ok.2.1; have := ok.1; omega
  clear SS12
  have SS12 := S1
  clear S1
  refine wp_region_lit ?_
  refine LG_val (want0 rfl) rfl rfl HH16 (Y_mov HH16 rfl rfl) (fun aa17 HH17 => ?_)
  clear HH16
  refine LG_val (want0 rfl) rfl rfl HH17 (Y_mov HH17 rfl rfl) (fun aa18 HH18 => ?_)
  clear HH17
  refine LG_val (want0 rfl) rfl rfl HH18 (Y_chk HH18 rfl rfl) (fun aa19 HH19 => ?_)
  clear HH18
  refine LG_val (want0 rfl) rfl rfl HH19 (Y_fad (off := 0) (r := 0) HH19 rfl (by kernel_rfl) rfl rfl) (fun aa20 HH20 => ?_)
  clear HH19
  refine LG_val (want0 rfl) rfl rfl HH20 (Y_load HH20 rfl (by kernel_rfl) rfl (SS12.cell 0)) (fun aa21 HH21 => ?_)
  clear HH20
  refine LG_val (want0 rfl) rfl rfl HH21 (Y_mov HH21 rfl rfl) (fun aa22 HH22 => ?_)
  clear HH21
  refine LG_val (want0 rfl) rfl rfl HH22 (Y_mov HH22 rfl rfl) (fun aa23 HH23 => ?_)
  clear HH22
  refine LG_val (want0 rfl) rfl rfl HH23 (Y_add HH23 rfl rfl rfl (IntWalk.i64_in _ (by omega))) (fun aa24 HH24 => ?_)
  clear HH23
  refine LG_call (want0 rfl) rfl rfl rfl Try.func80 (by kernel_rfl) rfl HH24 (del_at SS12.p1 i hlt (by omega)) rfl ?_
  rintro e ww25 ⟨v5, rfl, SS25⟩
  obtain ⟨a5, c5, rfl, _, _⟩ := PkQ.val SS25
  refine ⟨_, rfl, fun aa25 HH25 => ?_⟩
  clear HH24
  clear SS12
  refine LG_val (want0 rfl) rfl rfl HH25 (Y_chk HH25 rfl rfl) (fun aa26 HH26 => ?_)
  clear HH25
  refine LG_val (want0 rfl) rfl rfl HH26 (Y_fad (off := 0) (r := 0) HH26 rfl (by kernel_rfl) rfl rfl) (fun aa27 HH27 => ?_)
  clear HH26
  refine LG_do0 (want0 rfl) rfl HH27 (M_store HH27 rfl (by kernel_rfl) rfl rfl rfl rfl SS25.p1 rfl rfl) ?_
  rintro _ ww28 ⟨SS28, _⟩ aa28 HH28
  clear HH27
  clear SS25
  refine L_end (t_norm (hKK14 _ _ ?_))
  refine wp_seq_k fun KK29 hKK29 => ?_
  refine wp_region_lit ?_
  refine LG_val (want0 rfl) rfl rfl HH28 (Y_loadS HH28 rfl rfl SS28.p3 st_api_Packet.und st_api_Packet.size) (fun aa30 HH30 => ?_)
  clear HH28
  refine LG_val (want0 rfl) rfl rfl HH30 (Y_mov HH30 rfl rfl) (fun aa31 HH31 => ?_)
  clear HH30
  refine LG_do0 (want0 rfl) rfl HH31 (M_storeS HH31 rfl rfl rfl SS28.p4 st_api_Packet.size rfl rfl (one_pkt _ _ _ _)) ?_
  rintro _ ww32 ⟨SS32, _⟩ aa32 HH32
  clear HH31
  clear SS28
  refine LG_val (want0 rfl) rfl rfl HH32 (Y_asg HH32 rfl rfl) (fun aa33 HH33 => ?_)
  clear HH32
  refine L_end (t_norm (hKK29 _ _ ?_))
  refine wp_ret (retS2 rfl HH33 rfl rfl SS32 st_api_Packet.und st_api_Packet.size ?_)
  exact ⟨_, rfl, (LRep.open.2 ⟨⟨ok.1, by have := ok.2.1; simp; omega, fun x hx => ok.2.2 x (by rcases List.mem_append.1 hx with h | h; exact List.mem_of_mem_take h; exact List.mem_of_mem_drop h)⟩, _, SS32.p2.p2.p3.p4.p4.tail.tail.p2.p2⟩).p1⟩
end Go.Proofs.Ytaekiecidbhjhaa
