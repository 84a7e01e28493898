/- Copy, Cut, Clone, Equal at bytes; Lend, Intact; crc's own waking test. Printed by wip/specs/bytes.py. -/
import Derived.Test.YtaekiecidbhjhaaByte2
namespace Go.Proofs.Ytaekiecidbhjhaa
open Go.RowKit

set_option maxRecDepth 100000 in
theorem ycopy_ok {w : World} {l : List HProp} {v : Value} {bs : List (BitVec 8)} (hr : ∀ w', Sat w' l → RdY w' v bs) (hb : bs.length ≤ 140737488355000) (S : Sat w l) : Calls Try.prog 91 #[v] w fun e w' => ∃ v', e = .returned v' ∧ Sat w' (Bys v' bs :: l) := by
  refine enter (n := 5) Try.func91 rfl [(0, v)] rfl rfl fun aa0 HH0 => ?_
  refine wp_seq_k fun KK1 hKK1 => ?_
  refine wp_region_lit ?_
  refine LG_val (want0 rfl) rfl rfl HH0 (Y_asg HH0 rfl rfl) (fun aa2 HH2 => ?_)
  clear HH0
  refine L_end (t_norm (hKK1 _ _ ?_))
  refine wp_seq_k fun KK3 hKK3 => ?_
  refine wp_region_lit ?_
  refine LG_val (want0 rfl) rfl rfl HH2 (Y_mov HH2 rfl rfl) (fun aa4 HH4 => ?_)
  clear HH2
  refine LG_do (want0 rfl) rfl rfl HH4 (M_appY0 HH4 rfl rfl rfl S (hr _ S) rfl (by omega)) ?_
  rintro _ ww5 ⟨a4, c4, rfl, SS5⟩ aa5 HH5
  clear HH4
  clear S
  refine LG_val (want0 rfl) rfl rfl HH5 (Y_asg HH5 rfl rfl) (fun aa6 HH6 => ?_)
  clear HH5
  refine L_end (t_norm (hKK3 _ _ ?_))
  refine wp_ret (ret1 rfl HH6 rfl ?_)
  exact ⟨_, rfl, SS5⟩

set_option maxRecDepth 100000 in
theorem ycut_ok {w : World} {l : List HProp} {v : Value} {bs : List (BitVec 8)} (hr : ∀ w', Sat w' l → RdY w' v bs) (hb : bs.length ≤ 140737488355000) (k : Nat) (S : Sat w l) : Calls Try.prog 55 #[v, VI k] w fun e w' => ∃ v', e = .returned v' ∧ Sat w' (Bys v' (bs.take k) :: l) := by
  obtain ⟨pa, pc, rfl, hpl1, hpl2⟩ := Rd.val (hr _ S)
  refine enter (n := 12) Try.func55 rfl [(0, .slice pa bs.length pc), (1, VI k)] rfl rfl fun aa0 HH0 => ?_
  refine wp_seq_k fun KK1 hKK1 => ?_
  refine wp_region_lit ?_
  refine LG_val (want0 rfl) rfl rfl HH0 (Y_asg HH0 rfl rfl) (fun aa2 HH2 => ?_)
  clear HH0
  refine L_end (t_norm (hKK1 _ _ ?_))
  refine wp_seq_k fun KK3 hKK3 => ?_
  refine wp_region_lit ?_
  refine LG_val (want0 rfl) rfl rfl HH2 (Y_mov HH2 rfl rfl) (fun aa4 HH4 => ?_)
  clear HH2
  refine LG_val (want0 rfl) rfl rfl HH4 (Y_mov HH4 rfl rfl) (fun aa5 HH5 => ?_)
  clear HH4
  refine LG_val (want0 rfl) rfl rfl HH5 (Y_lenS HH5 rfl (by kernel_rfl) rfl) (fun aa6 HH6 => ?_)
  clear HH5
  refine LG_val (want0 rfl) rfl rfl HH6 (Y_mov HH6 rfl rfl) (fun aa7 HH7 => ?_)
  clear HH6
  refine LG_val (want0 rfl) rfl rfl HH7 (Y_min (r := ((min bs.length k : Nat) : Int)) HH7 rfl rfl rfl (by omega)) (fun aa8 HH8 => ?_)
  clear HH7
  refine LG_val (want0 rfl) rfl rfl HH8 (Y_sliceTo (hi := (min bs.length k)) HH8 rfl ty_bytes rfl rfl (by omega)) (fun aa9 HH9 => ?_)
  clear HH8
  refine LG_call (want0 rfl) rfl rfl rfl Try.func91 (by kernel_rfl) rfl HH9 (ycopy_ok (fun w' h => RdY.upto (hr w' h) rfl (by omega)) (by rw [List.length_take]; omega) S) rfl ?_
  rintro e ww10 ⟨v0, rfl, SS10⟩
  refine ⟨_, rfl, fun aa10 HH10 => ?_⟩
  clear HH9
  clear S
  refine LG_val (want0 rfl) rfl rfl HH10 (Y_asg HH10 rfl rfl) (fun aa11 HH11 => ?_)
  clear HH10
  refine L_end (t_norm (hKK3 _ _ ?_))
  refine wp_ret (ret1 rfl HH11 rfl ?_)
  have e : bs.take (min bs.length k) = bs.take k := by rw [List.take_eq_take_iff]; omega
  rw [e] at SS10
  exact ⟨_, rfl, SS10⟩

set_option maxRecDepth 100000 in
theorem yclone_ok {w : World} {l : List HProp} {v : Value} {bs : List (BitVec 8)} (hr : ∀ w', Sat w' l → RdY w' v bs) (hb : bs.length ≤ 140737488355000) (S : Sat w l) : Calls Try.prog 93 #[v] w fun e w' => ∃ v', e = .returned v' ∧ Sat w' (Bys v' bs :: l) := by
  obtain ⟨pa, pc, rfl, hpl1, hpl2⟩ := Rd.val (hr _ S)
  refine enter (n := 8) Try.func93 rfl [(0, .slice pa bs.length pc)] rfl rfl fun aa0 HH0 => ?_
  refine wp_seq_k fun KK1 hKK1 => ?_
  refine wp_region_lit ?_
  refine LG_val (want0 rfl) rfl rfl HH0 (Y_asg HH0 rfl rfl) (fun aa2 HH2 => ?_)
  clear HH0
  refine L_end (t_norm (hKK1 _ _ ?_))
  refine wp_seq_k fun KK3 hKK3 => ?_
  refine wp_seq_k fun KK4 hKK4 => ?_
  refine wp_region_lit ?_
  refine LG_val (want0 rfl) rfl rfl HH2 (Y_mov HH2 rfl rfl) (fun aa5 HH5 => ?_)
  clear HH2
  by_cases hn : pa.isNone = true
  ·
    refine LG_val (want0 rfl) rfl rfl HH5 (Y_to (Y_isNil HH5 rfl (by kernel_rfl) rfl rfl) (hn)) (fun aa6 HH6 => ?_)
    clear HH5
    refine L_end (t_norm (hKK4 _ _ ?_))
    refine c_yes HH6 rfl ?_
    refine wp_seq_k fun KK7 hKK7 => ?_
    refine wp_region_lit ?_
    refine LG_val (want0 rfl) rfl rfl HH6 (Y_asg HH6 rfl rfl) (fun aa8 HH8 => ?_)
    clear HH6
    refine L_end (t_norm (hKK7 _ _ ?_))
    refine wp_ret (t_ret (ret1 rfl HH8 rfl ?_))
    have hz : bs = [] := by
      have h0 := hr _ S
      rw [Option.isNone_iff_eq_none.1 hn] at h0
      exact RdY.none h0
    subst hz
    exact ⟨_, rfl, Bys.nil S⟩
  ·
    refine LG_val (want0 rfl) rfl rfl HH5 (Y_to (Y_isNil HH5 rfl (by kernel_rfl) rfl rfl) (show pa.isNone = false from Bool.eq_false_iff.2 hn)) (fun aa9 HH9 => ?_)
    clear HH5
    refine L_end (t_norm (hKK4 _ _ ?_))
    refine c_no HH9 rfl ?_
    refine wp_skip (t_norm (hKK3 _ _ ?_))
    refine wp_seq_k fun KK10 hKK10 => ?_
    refine wp_region_lit ?_
    refine LG_do (want0 rfl) rfl rfl HH9 (M_buildSlice0 HH9 rfl ty_bytes S) ?_
    rintro _ ww11 ⟨b5, rfl, SS11⟩ aa11 HH11
    clear HH9
    clear S
    refine LG_val (want0 rfl) rfl rfl HH11 (Y_mov HH11 rfl rfl) (fun aa12 HH12 => ?_)
    clear HH11
    refine LG_do (want0 rfl) rfl rfl HH12 (M_appY (bs := []) HH12 rfl rfl rfl SS11 (hr _ SS11.tail) rfl (by simp; omega)) ?_
    rintro _ ww13 ⟨a7, c7, rfl, SS13⟩ aa13 HH13
    clear HH12
    clear SS11
    refine LG_val (want0 rfl) rfl rfl HH13 (Y_asg HH13 rfl rfl) (fun aa14 HH14 => ?_)
    clear HH13
    refine L_end (t_norm (hKK10 _ _ ?_))
    refine wp_ret (ret1 rfl HH14 rfl ?_)
    exact ⟨_, rfl, SS13⟩

set_option maxRecDepth 100000 in
theorem yequal_ok {w : World} {u v : Value} {bs cs : List (BitVec 8)} (hu : RdY w u bs) (hv : RdY w v cs) : Calls Try.prog 94 #[u, v] w fun e w' => e = .returned (VB (decide (bs = cs))) ∧ w = w' := by
  refine enter (n := 10) Try.func94 rfl [(0, u), (1, v)] rfl rfl fun aa0 HH0 => ?_
  refine wp_seq_k fun KK1 hKK1 => ?_
  refine wp_region_lit ?_
  refine LG_val (want0 rfl) rfl rfl HH0 (Y_asg HH0 rfl rfl) (fun aa2 HH2 => ?_)
  clear HH0
  refine L_end (t_norm (hKK1 _ _ ?_))
  refine wp_seq_k fun KK3 hKK3 => ?_
  refine wp_region_lit ?_
  refine LG_val (want0 rfl) rfl rfl HH2 (Y_mov HH2 rfl rfl) (fun aa4 HH4 => ?_)
  clear HH2
  refine LG_val (want0 rfl) rfl rfl HH4 (Y_convStr HH4 rfl rfl hu) (fun aa5 HH5 => ?_)
  clear HH4
  refine LG_val (want0 rfl) rfl rfl HH5 (Y_mov HH5 rfl rfl) (fun aa6 HH6 => ?_)
  clear HH5
  refine LG_val (want0 rfl) rfl rfl HH6 (Y_convStr HH6 rfl rfl hv) (fun aa7 HH7 => ?_)
  clear HH6
  refine LG_val (want0 rfl) rfl rfl HH7 (Y_eqlStr HH7 rfl rfl rfl) (fun aa8 HH8 => ?_)
  clear HH7
  refine LG_val (want0 rfl) rfl rfl HH8 (Y_asg HH8 rfl rfl) (fun aa9 HH9 => ?_)
  clear HH8
  refine L_end (t_norm (hKK3 _ _ ?_))
  refine wp_ret (ret1 rfl HH9 rfl ?_)
  exact ⟨rfl, rfl⟩

set_option maxRecDepth 100000 in
theorem lend_ok {w : World} {l : List HProp} {v : Value} {bs : List (BitVec 8)} (hr : ∀ w', Sat w' l → RdY w' v bs) (hb : bs.length ≤ 140737488355000) (S : Sat w l) : Calls Try.prog 56 #[v] w fun e w' => ∃ q, e = .returned (.slice q bs.length (bs.length + 3)) ∧ Sat w' (Bys (.slice q (bs.length + 3) (bs.length + 3)) (bs ++ [85#8, 85#8, 85#8]) :: l) := by
  obtain ⟨pa, pc, rfl, hpl1, hpl2⟩ := Rd.val (hr _ S)
  refine enter (n := 32) Try.func56 rfl [(0, .slice pa bs.length pc)] rfl rfl fun aa0 HH0 => ?_
  refine wp_seq_k fun KK1 hKK1 => ?_
  refine wp_region_lit ?_
  refine LG_val (want0 rfl) rfl rfl HH0 (Y_asg HH0 rfl rfl) (fun aa2 HH2 => ?_)
  clear HH0
  refine L_end (t_norm (hKK1 _ _ ?_))
  refine wp_seq_k fun KK3 hKK3 => ?_
  refine wp_region_lit ?_
  refine LG_val (want0 rfl) rfl rfl HH2 (Y_mov HH2 rfl rfl) (fun aa4 HH4 => ?_)
  clear HH2
  refine LG_val (want0 rfl) rfl rfl HH4 (Y_lenS HH4 rfl (by kernel_rfl) rfl) (fun aa5 HH5 => ?_)
  clear HH4
  refine LG_val (want0 rfl) rfl rfl HH5 (Y_mov HH5 rfl rfl) (fun aa6 HH6 => ?_)
  clear HH5
  refine LG_val (want0 rfl) rfl rfl HH6 (Y_lenS HH6 rfl (by kernel_rfl) rfl) (fun aa7 HH7 => ?_)
  clear HH6
  refine LG_val (want0 rfl) rfl rfl HH7 (Y_add (r := ((bs.length + 3 : Nat) : Int)) HH7 rfl rfl rfl (by rw [IntWalk.i64_in _ (by omega)]; omega)) (fun aa8 HH8 => ?_)
  clear HH7
  refine LG_do (want0 rfl) rfl rfl HH8 (M_makeC (N := bs.length) (C := bs.length + 3) (zv := .int .u8 0) HH8 rfl ty_bytes (by kernel_rfl) rfl rfl (by omega) (by omega) S) ?_
  rintro _ ww9 ⟨b11, rfl, SS9⟩ aa9 HH9
  clear HH8
  clear S
  refine LG_val (want0 rfl) rfl rfl HH9 (Y_asg HH9 rfl rfl) (fun aa10 HH10 => ?_)
  clear HH9
  refine L_end (t_norm (hKK3 _ _ ?_))
  refine wp_seq_k fun KK11 hKK11 => ?_
  refine wp_region_lit ?_
  refine LG_val (want0 rfl) rfl rfl HH10 (Y_mov HH10 rfl rfl) (fun aa12 HH12 => ?_)
  clear HH10
  refine LG_val (want0 rfl) rfl rfl HH12 (Y_mov HH12 rfl rfl) (fun aa13 HH13 => ?_)
  clear HH12
  refine LG_do (want0 rfl) rfl rfl HH13 (M_copy HH13 rfl ty_bytes rfl rfl SS9 (hr _ SS9.tail) (oneY bs)) ?_
  rintro _ ww14 ⟨rfl, SS14⟩ aa14 HH14
  clear HH13
  clear SS9
  rw [Nat.min_self, Nat.mul_one, List.take_of_length_le (by simp), List.drop_eq_nil_of_le (by rw [List.length_take]; omega), List.append_nil] at SS14
  refine L_end (t_norm (hKK11 _ _ ?_))
  refine wp_seq_k fun KK15 hKK15 => ?_
  refine wp_region_lit ?_
  refine LG_val (want0 rfl) rfl rfl HH14 (Y_mov HH14 rfl rfl) (fun aa16 HH16 => ?_)
  clear HH14
  refine LG_val (want0 rfl) rfl rfl HH16 (Y_mov HH16 rfl rfl) (fun aa17 HH17 => ?_)
  clear HH16
  refine LG_val (want0 rfl) rfl rfl HH17 (Y_lenS HH17 rfl (by kernel_rfl) rfl) (fun aa18 HH18 => ?_)
  clear HH17
  refine LG_val (want0 rfl) rfl rfl HH18 (Y_add (r := ((bs.length + 3 : Nat) : Int)) HH18 rfl rfl rfl (by rw [IntWalk.i64_in _ (by omega)]; omega)) (fun aa19 HH19 => ?_)
  clear HH18
  refine LG_val (want0 rfl) rfl rfl HH19 (Y_sliceTo (hi := (bs.length + 3)) HH19 rfl ty_bytes rfl rfl (by omega)) (fun aa20 HH20 => ?_)
  clear HH19
  
  refine LG_val (want0 rfl) rfl rfl HH20 (Y_asg HH20 rfl rfl) (fun aa21 HH21 => ?_)
  clear HH20
  refine L_end (t_norm (hKK15 _ _ ?_))
  refine wp_seq_k fun KK22 hKK22 => ?_
  refine wp_seq_k fun KK23 hKK23 => ?_
  refine wp_region_lit ?_
  refine LG_val (want0 rfl) rfl rfl HH21 (Y_mov HH21 rfl rfl) (fun aa24 HH24 => ?_)
  clear HH21
  refine LG_val (want0 rfl) rfl rfl HH24 (Y_lenS HH24 rfl (by kernel_rfl) rfl) (fun aa25 HH25 => ?_)
  clear HH24
  refine LG_val (want0 rfl) rfl rfl HH25 (Y_asg HH25 rfl rfl) (fun aa26 HH26 => ?_)
  clear HH25
  refine L_end (t_norm (hKK23 _ _ ?_))
  refine wp_block ?_
  obtain ⟨ys, hys, S9⟩ := Sl.grown SS14
  refine c_loop (σ := Nat) (fun (j : Nat) a wx => ∃ zs : List Value, Fr a 32 [(3, .slice (some ⟨b11, 0, none⟩) bs.length (bs.length + 3)), (4, .slice (some ⟨b11, 0, none⟩) (bs.length + 3) (bs.length + 3)), (5, VI ((bs.length + j : Nat) : Int))] ∧ j ≤ 3 ∧ zs.length = 3 ∧ (∀ i, i < j → zs[i]? = some (V8 85#8)) ∧ Sat wx (Sl 5 1 (.slice (some ⟨b11, 0, none⟩) (bs.length + 3) (bs.length + 3)) (bs.length + 3) (bs.map V8 ++ zs) :: l)) (fun j => 3 - j) (0) ?_ ?_
  · exact ⟨ys, HH26.sub rfl, Nat.zero_le _, by omega, (fun i h => by omega), S9⟩
  clear HH26
  clear SS14
  rintro j aa27 ww27 ⟨zs, HH27, hj, hzl, hz, SS27⟩
  refine wp_seq_k fun KK28 hKK28 => ?_
  refine wp_seq_k fun KK29 hKK29 => ?_
  refine wp_region_lit ?_
  refine LG_val (want0 rfl) rfl rfl HH27 (Y_mov HH27 rfl rfl) (fun aa30 HH30 => ?_)
  clear HH27
  refine LG_val (want0 rfl) rfl rfl HH30 (Y_mov HH30 rfl rfl) (fun aa31 HH31 => ?_)
  clear HH30
  refine LG_val (want0 rfl) rfl rfl HH31 (Y_lenS HH31 rfl (by kernel_rfl) rfl) (fun aa32 HH32 => ?_)
  clear HH31
  by_cases hlt : ((bs.length + j : Nat) : Int) < ((bs.length + 3 : Nat) : Int)
  ·
    refine LG_val (want0 rfl) rfl rfl HH32 (Y_yes (Y_lss HH32 rfl rfl rfl) (hlt)) (fun aa33 HH33 => ?_)
    clear HH32
    refine L_end (t_norm (hKK29 _ _ ?_))
    refine c_yes HH33 rfl ?_
    refine wp_skip (t_norm (hKK28 _ _ ?_))
    refine wp_seq_k fun KK34 hKK34 => ?_
    refine wp_block ?_
    refine wp_region_lit ?_
    refine LG_val (want0 rfl) rfl rfl HH33 (Y_mov HH33 rfl rfl) (fun aa35 HH35 => ?_)
    clear HH33
    refine LG_val (want0 rfl) rfl rfl HH35 (Y_mov HH35 rfl rfl) (fun aa36 HH36 => ?_)
    clear HH35
    refine LG_val (want0 rfl) rfl rfl HH36 (Y_idx (q := 0 + (bs.length + j)) HH36 rfl ty_bytes rfl rfl (by omega) (by omega) (by rw [Int.toNat_natCast]; omega)) (fun aa37 HH37 => ?_)
    clear HH36
    refine LG_do0 (want0 rfl) rfl HH37 (M_storeV HH37 rfl (by kernel_rfl) (bs.length + j) rfl rfl rfl rfl rfl SS27 (by omega)) ?_
    rintro _ ww38 SS38 aa38 HH38
    clear HH37
    clear SS27
    refine L_end (b_norm (t_norm (hKK34 _ _ ?_)))
    refine wp_region_lit ?_
    refine LG_val (want0 rfl) rfl rfl HH38 (Y_mov HH38 rfl rfl) (fun aa39 HH39 => ?_)
    clear HH38
    refine LG_val (want0 rfl) rfl rfl HH39 (Y_add (r := ((bs.length + (j + 1) : Nat) : Int)) HH39 rfl rfl rfl (by rw [IntWalk.i64_in _ (by omega)]; omega)) (fun aa40 HH40 => ?_)
    clear HH39
    refine LG_val (want0 rfl) rfl rfl HH40 (Y_asg HH40 rfl rfl) (fun aa41 HH41 => ?_)
    clear HH40
    refine L_end (t_norm ?_)
    have e : (bs.map V8 ++ zs).set (bs.length + j) (V8 85#8) = bs.map V8 ++ zs.set j (V8 85#8) := by
      rw [List.set_append_right _ _ (by simp), List.length_map, show bs.length + j - bs.length = j by omega]
    rw [show Value.int IntKind.u8 85 = V8 85#8 from rfl, e] at SS38
    exact ⟨j + 1, ⟨zs.set j (V8 85#8), HH41.sub rfl, by omega, by rw [List.length_set]; exact hzl, (fun i h => by
      rw [List.getElem?_set]
      by_cases he : j = i
      · rw [if_pos he, if_pos (by omega)]
      · rw [if_neg he]; exact hz i (by omega)), SS38⟩, by first | omega | (dsimp only; omega)⟩
  ·
    refine LG_val (want0 rfl) rfl rfl HH32 (Y_no (Y_lss HH32 rfl rfl rfl) (hlt)) (fun aa42 HH42 => ?_)
    clear HH32
    refine L_end (t_norm (hKK29 _ _ ?_))
    refine c_no HH42 rfl ?_
    refine wp_exit (t_exit (t_exit (b_exit (t_norm (hKK22 _ _ ?_)))))
    refine wp_seq_k fun KK43 hKK43 => ?_
    refine wp_region_lit ?_
    refine LG_val (want0 rfl) rfl rfl HH42 (Y_mov HH42 rfl rfl) (fun aa44 HH44 => ?_)
    clear HH42
    refine LG_val (want0 rfl) rfl rfl HH44 (Y_asg HH44 rfl rfl) (fun aa45 HH45 => ?_)
    clear HH44
    refine L_end (t_norm (hKK43 _ _ ?_))
    refine wp_ret (ret1 rfl HH45 rfl ?_)
    have hj3 : j = 3 := by omega
    subst hj3
    refine ⟨_, rfl, ?_⟩
    have ez : zs = [V8 85#8, V8 85#8, V8 85#8] := by
      match zs, hzl with
      | [z0, z1, z2], _ =>
        have h0 := hz 0 (by omega)
        have h1 := hz 1 (by omega)
        have h2 := hz 2 (by omega)
        simp at h0 h1 h2
        rw [h0, h1, h2]
    have e : (bs ++ [85#8, 85#8, 85#8]).map V8 = bs.map V8 ++ zs := by rw [ez]; simp
    have e2 : (bs ++ [85#8, 85#8, 85#8]).length = bs.length + 3 := by simp
    unfold Bys
    rw [e, e2]
    exact SS27

set_option maxRecDepth 100000 in
theorem intact_ok {w : World} {q : Option Addr} {v : Value} {bs : List (BitVec 8)} (hq : RdY w (.slice q (bs.length + 3) (bs.length + 3)) (bs ++ [85#8, 85#8, 85#8])) (hr : RdY w v bs) (hb : bs.length ≤ 140737488355000) : Calls Try.prog 62 #[.slice q bs.length (bs.length + 3), v] w fun e w' => e = .returned (VB true) ∧ Keep w w' := by
  obtain ⟨pa, pc, rfl, hpl1, hpl2⟩ := Rd.val hr
  have S := Keep.refl w
  have hL : (bs ++ [85#8, 85#8, 85#8]).length = bs.length + 3 := by simp
  refine enter (n := 59) Try.func62 rfl [(0, .slice q bs.length (bs.length + 3)), (1, .slice pa bs.length pc)] rfl rfl fun aa0 HH0 => ?_
  refine wp_seq_k fun KK1 hKK1 => ?_
  refine wp_region_lit ?_
  refine LG_val (want0 rfl) rfl rfl HH0 (Y_asg HH0 rfl rfl) (fun aa2 HH2 => ?_)
  clear HH0
  refine L_end (t_norm (hKK1 _ _ ?_))
  refine wp_seq_k fun KK3 hKK3 => ?_
  refine wp_seq_k fun KK4 hKK4 => ?_
  refine wp_region_lit ?_
  refine LG_val (want0 rfl) rfl rfl HH2 (Y_mov HH2 rfl rfl) (fun aa5 HH5 => ?_)
  clear HH2
  refine LG_val (want0 rfl) rfl rfl HH5 (Y_lenS HH5 rfl (by kernel_rfl) rfl) (fun aa6 HH6 => ?_)
  clear HH5
  refine LG_val (want0 rfl) rfl rfl HH6 (Y_mov HH6 rfl rfl) (fun aa7 HH7 => ?_)
  clear HH6
  refine LG_val (want0 rfl) rfl rfl HH7 (Y_lenS HH7 rfl (by kernel_rfl) rfl) (fun aa8 HH8 => ?_)
  clear HH7
  refine LG_val (want0 rfl) rfl rfl HH8 (Y_no (Y_neq HH8 rfl rfl rfl) (by simp)) (fun aa9 HH9 => ?_)
  clear HH8
  refine LG_val (want0 rfl) rfl rfl HH9 (Y_mov HH9 rfl rfl) (fun aa10 HH10 => ?_)
  clear HH9
  refine LG_val (HH10.want rfl rfl rfl) rfl rfl HH10 (Y_mov HH10 rfl rfl) (fun aa11 HH11 => ?_)
  clear HH10
  refine LG_val (HH11.want rfl rfl rfl) rfl rfl HH11 (Y_capS HH11 rfl (by kernel_rfl) rfl) (fun aa12 HH12 => ?_)
  clear HH11
  refine LG_val (HH12.want rfl rfl rfl) rfl rfl HH12 (Y_mov HH12 rfl rfl) (fun aa13 HH13 => ?_)
  clear HH12
  refine LG_val (HH13.want rfl rfl rfl) rfl rfl HH13 (Y_lenS HH13 rfl (by kernel_rfl) rfl) (fun aa14 HH14 => ?_)
  clear HH13
  refine LG_val (HH14.want rfl rfl rfl) rfl rfl HH14 (Y_add (r := ((bs.length + 3 : Nat) : Int)) HH14 rfl rfl rfl (by rw [IntWalk.i64_in _ (by omega)]; omega)) (fun aa15 HH15 => ?_)
  clear HH14
  refine LG_val (HH15.want rfl rfl rfl) rfl rfl HH15 (Y_no (Y_neq HH15 rfl rfl rfl) (by simp)) (fun aa16 HH16 => ?_)
  clear HH15
  refine LG_val (want0 rfl) rfl rfl HH16 (Y_pickF HH16 rfl rfl rfl) (fun aa17 HH17 => ?_)
  clear HH16
  refine L_end (t_norm (hKK4 _ _ ?_))
  refine c_no HH17 rfl ?_
  refine wp_skip (t_norm (hKK3 _ _ ?_))
  refine wp_seq_k fun KK18 hKK18 => ?_
  refine wp_region_lit ?_
  refine LG_val (want0 rfl) rfl rfl HH17 (Y_mov HH17 rfl rfl) (fun aa19 HH19 => ?_)
  clear HH17
  refine LG_val (want0 rfl) rfl rfl HH19 (Y_mov HH19 rfl rfl) (fun aa20 HH20 => ?_)
  clear HH19
  refine LG_val (want0 rfl) rfl rfl HH20 (Y_lenS HH20 rfl (by kernel_rfl) rfl) (fun aa21 HH21 => ?_)
  clear HH20
  refine LG_val (want0 rfl) rfl rfl HH21 (Y_add (r := ((bs.length + 3 : Nat) : Int)) HH21 rfl rfl rfl (by rw [IntWalk.i64_in _ (by omega)]; omega)) (fun aa22 HH22 => ?_)
  clear HH21
  refine LG_val (want0 rfl) rfl rfl HH22 (Y_sliceTo (hi := (bs.length + 3)) HH22 rfl ty_bytes rfl rfl (by omega)) (fun aa23 HH23 => ?_)
  clear HH22
  refine LG_val (want0 rfl) rfl rfl HH23 (Y_asg HH23 rfl rfl) (fun aa24 HH24 => ?_)
  clear HH23
  refine L_end (t_norm (hKK18 _ _ ?_))
  refine wp_seq_k fun KK25 hKK25 => ?_
  refine wp_seq_k fun KK26 hKK26 => ?_
  refine wp_region_lit ?_
  refine LG_val (want0 rfl) rfl rfl HH24 (Y_mov HH24 rfl rfl) (fun aa27 HH27 => ?_)
  clear HH24
  refine LG_val (want0 rfl) rfl rfl HH27 (Y_lenS HH27 rfl (by kernel_rfl) rfl) (fun aa28 HH28 => ?_)
  clear HH27
  refine LG_val (want0 rfl) rfl rfl HH28 (Y_mov HH28 rfl rfl) (fun aa29 HH29 => ?_)
  clear HH28
  refine L_end (t_norm (hKK26 _ _ ?_))
  refine wp_block ?_
  refine c_loop (σ := Nat) (fun (i : Nat) a wx => Fr a 59 [(1, .slice pa bs.length pc), (5, .slice q (bs.length + 3) (bs.length + 3)), (26, VI ((bs.length + 3 : Nat) : Int)), (27, VI i)] ∧ i ≤ bs.length + 3 ∧ Keep w wx) (fun i => bs.length + 3 - i) (0) ?_ ?_
  · exact ⟨HH29.sub rfl, Nat.zero_le _, S⟩
  clear HH29
  clear S
  rintro i aa30 ww30 ⟨HH30, hi, SS30⟩
  refine wp_seq_k fun KK31 hKK31 => ?_
  refine wp_region_lit ?_
  by_cases hlt : (i : Int) < ((bs.length + 3 : Nat) : Int)
  ·
    refine LG_val (want0 rfl) rfl rfl HH30 (Y_yes (Y_lss HH30 rfl rfl rfl) (hlt)) (fun aa32 HH32 => ?_)
    clear HH30
    refine L_end (t_norm (hKK31 _ _ ?_))
    refine wp_seq_k fun KK33 hKK33 => ?_
    refine c_yes HH32 rfl ?_
    refine wp_skip (t_norm (hKK33 _ _ ?_))
    refine wp_seq_k fun KK34 hKK34 => ?_
    refine wp_block ?_
    refine wp_seq_k fun KK35 hKK35 => ?_
    refine wp_region_lit ?_
    refine LG_val (want0 rfl) rfl rfl HH32 (Y_mov HH32 rfl rfl) (fun aa36 HH36 => ?_)
    clear HH32
    refine LG_val (want0 rfl) rfl rfl HH36 (Y_asg HH36 rfl rfl) (fun aa37 HH37 => ?_)
    clear HH36
    refine L_end (t_norm (hKK35 _ _ ?_))
    refine wp_seq_k fun KK38 hKK38 => ?_
    -- region 7, drawn
    obtain ⟨b1, o1, e1, c1⟩ := RdY.some hq (by rw [hL]; omega)
    obtain ⟨b, hbi⟩ : ∃ b, (bs ++ [85#8, 85#8, 85#8])[i]? = some b := ⟨(bs ++ [85#8, 85#8, 85#8])[i]'(by rw [hL]; omega), List.getElem?_eq_getElem _⟩
    refine N_begin (fun w' => Keep w w') (.val 0 (.val 1 (.val 2 (.val 3 (.val 4 (.val 5 (.val 6 (.val 7 (.val 8 (.val 9 (.val 10 (.val 11 (.val 12 (.val 13 (.val 14 (.val 15 (.val 16 (.val 17 (.val 18 (.val 19 (.val 20 (.val 21 (.val 22 (.val 23 (.val 24 (.val 25 (.val 26 (.val 27 .fin)))))))))))))))))))))))))))) (by kernel_rfl) (by kernel_rfl) (by kernel_rfl) (by kernel_rfl) (fun _ _ _ _ _ h => h) (SS30.drew) (fun ww39 SS39 _ => ?_)
    clear SS30
    refine N_val rfl (want0 rfl) rfl rfl HH37 (fun ww39 SS39 => Y_mov HH37 rfl rfl) (fun aa40 HH40 => ?_)
    clear HH37
    refine N_val rfl (want0 rfl) rfl rfl HH40 (fun ww39 SS39 => Y_mov HH40 rfl rfl) (fun aa41 HH41 => ?_)
    clear HH40
    refine N_val rfl (want0 rfl) rfl rfl HH41 (fun ww39 SS39 => Y_lenS HH41 rfl (by kernel_rfl) rfl) (fun aa42 HH42 => ?_)
    clear HH41
    by_cases h3 : (i : Int) < (bs.length : Int)
    ·
      refine N_val rfl (want0 rfl) rfl rfl HH42 (fun ww39 SS39 => Y_yes (Y_lss HH42 rfl rfl rfl) (h3)) (fun aa43 HH43 => ?_)
      clear HH42
      refine N_val rfl (want0 rfl) rfl rfl HH43 (fun ww39 SS39 => Y_mov HH43 rfl rfl) (fun aa44 HH44 => ?_)
      clear HH43
      obtain ⟨b2, o2, e2, c2⟩ := RdY.some hr (by omega)
      have hbj : bs[i]? = some b := by rw [List.getElem?_append_left (by omega)] at hbi; exact hbi
      refine N_val rfl (HH44.want rfl rfl rfl) rfl rfl HH44 (fun ww39 SS39 => Y_mov HH44 rfl rfl) (fun aa45 HH45 => ?_)
      clear HH44
      refine N_val rfl (HH45.want rfl rfl rfl) rfl rfl HH45 (fun ww39 SS39 => Y_mov HH45 rfl rfl) (fun aa46 HH46 => ?_)
      clear HH45
      refine N_val rfl (HH46.want rfl rfl rfl) rfl rfl HH46 (fun ww39 SS39 => Y_idxE (q := o1 + i) HH46 rfl ty_bytes rfl e1 rfl (by omega) (by omega) (by simp)) (fun aa47 HH47 => ?_)
      clear HH46
      refine N_val rfl (HH47.want rfl rfl rfl) rfl rfl HH47 (fun ww39 SS39 => Y_load HH47 rfl (by kernel_rfl) rfl (Keep.cell SS39 (c1 i b hbi))) (fun aa48 HH48 => ?_)
      clear HH47
      refine N_val rfl (HH48.want rfl rfl rfl) rfl rfl HH48 (fun ww39 SS39 => Y_mov HH48 rfl rfl) (fun aa49 HH49 => ?_)
      clear HH48
      refine N_val rfl (HH49.want rfl rfl rfl) rfl rfl HH49 (fun ww39 SS39 => Y_mov HH49 rfl rfl) (fun aa50 HH50 => ?_)
      clear HH49
      refine N_val rfl (HH50.want rfl rfl rfl) rfl rfl HH50 (fun ww39 SS39 => Y_idxE (q := o2 + i) HH50 rfl ty_bytes rfl e2 rfl (by omega) (by omega) (by simp)) (fun aa51 HH51 => ?_)
      clear HH50
      refine N_val rfl (HH51.want rfl rfl rfl) rfl rfl HH51 (fun ww39 SS39 => Y_load HH51 rfl (by kernel_rfl) rfl (Keep.cell SS39 (c2 i b hbj))) (fun aa52 HH52 => ?_)
      clear HH51
      refine N_val rfl (HH52.want rfl rfl rfl) rfl rfl HH52 (fun ww39 SS39 => Y_no (Y_neq HH52 rfl rfl rfl) (by simp)) (fun aa53 HH53 => ?_)
      clear HH52
      refine N_val rfl (want0 rfl) rfl rfl HH53 (fun ww39 SS39 => Y_pickT HH53 rfl rfl rfl) (fun aa54 HH54 => ?_)
      clear HH53
      refine N_val rfl (want0 rfl) rfl rfl HH54 (fun ww39 SS39 => Y_mov HH54 rfl rfl) (fun aa55 HH55 => ?_)
      clear HH54
      refine N_val rfl (HH55.want rfl rfl rfl) rfl rfl HH55 (fun ww39 SS39 => Y_mov HH55 rfl rfl) (fun aa56 HH56 => ?_)
      clear HH55
      refine N_val rfl (HH56.want rfl rfl rfl) rfl rfl HH56 (fun ww39 SS39 => Y_mov HH56 rfl rfl) (fun aa57 HH57 => ?_)
      clear HH56
      refine N_val rfl (HH57.want rfl rfl rfl) rfl rfl HH57 (fun ww39 SS39 => Y_lenS HH57 rfl (by kernel_rfl) rfl) (fun aa58 HH58 => ?_)
      clear HH57
      refine N_val rfl (HH58.want rfl rfl rfl) rfl rfl HH58 (fun ww39 SS39 => Y_no (Y_geq HH58 rfl rfl rfl) (by omega)) (fun aa59 HH59 => ?_)
      clear HH58
      refine N_val rfl (HH59.want rfl rfl rfl) rfl rfl HH59 (fun ww39 SS39 => Y_mov HH59 rfl rfl) (fun aa60 HH60 => ?_)
      clear HH59
      refine N_skip rfl (HH60.unwant rfl rfl rfl rfl) rfl rfl HH60 (fun aa61 HH61 => ?_)
      clear HH60
      refine N_skip rfl (HH61.unwant rfl rfl rfl rfl) rfl rfl HH61 (fun aa62 HH62 => ?_)
      clear HH61
      refine N_skip rfl (HH62.unwant rfl rfl rfl rfl) rfl rfl HH62 (fun aa63 HH63 => ?_)
      clear HH62
      refine N_skip rfl (HH63.unwant rfl rfl rfl rfl) rfl rfl HH63 (fun aa64 HH64 => ?_)
      clear HH63
      refine N_skip rfl (HH64.unwant rfl rfl rfl rfl) rfl rfl HH64 (fun aa65 HH65 => ?_)
      clear HH64
      refine N_val rfl (HH65.want rfl rfl rfl) rfl rfl HH65 (fun ww39 SS39 => Y_pickF HH65 rfl rfl rfl) (fun aa66 HH66 => ?_)
      clear HH65
      refine N_val rfl (want0 rfl) rfl rfl HH66 (fun ww39 SS39 => Y_pickF HH66 rfl rfl rfl) (fun aa67 HH67 => ?_)
      clear HH66
      refine N_end (t_norm (hKK38 _ _ ?_))
      refine c_no HH67 rfl ?_
      refine wp_skip (b_norm (t_norm (hKK34 _ _ ?_)))
      refine wp_region_lit ?_
      refine LG_val (want0 rfl) rfl rfl HH67 (Y_add HH67 rfl rfl rfl (IntWalk.i64_in _ (by omega))) (fun aa68 HH68 => ?_)
      clear HH67
      refine LG_val (want0 rfl) rfl rfl HH68 (Y_mov HH68 rfl rfl) (fun aa69 HH69 => ?_)
      clear HH68
      refine L_end (t_norm ?_)
      exact ⟨i + 1, ⟨HH69.sub rfl, by omega, SS39⟩, by first | omega | (dsimp only; omega)⟩
    ·
      refine N_val rfl (want0 rfl) rfl rfl HH42 (fun ww39 SS39 => Y_no (Y_lss HH42 rfl rfl rfl) (h3)) (fun aa70 HH70 => ?_)
      clear HH42
      refine N_val rfl (want0 rfl) rfl rfl HH70 (fun ww39 SS39 => Y_mov HH70 rfl rfl) (fun aa71 HH71 => ?_)
      clear HH70
      refine N_skip rfl (HH71.unwant rfl rfl rfl rfl) rfl rfl HH71 (fun aa72 HH72 => ?_)
      clear HH71
      refine N_skip rfl (HH72.unwant rfl rfl rfl rfl) rfl rfl HH72 (fun aa73 HH73 => ?_)
      clear HH72
      refine N_skip rfl (HH73.unwant rfl rfl rfl rfl) rfl rfl HH73 (fun aa74 HH74 => ?_)
      clear HH73
      refine N_skip rfl (HH74.unwant rfl rfl rfl rfl) rfl rfl HH74 (fun aa75 HH75 => ?_)
      clear HH74
      refine N_skip rfl (HH75.unwant rfl rfl rfl rfl) rfl rfl HH75 (fun aa76 HH76 => ?_)
      clear HH75
      refine N_skip rfl (HH76.unwant rfl rfl rfl rfl) rfl rfl HH76 (fun aa77 HH77 => ?_)
      clear HH76
      refine N_skip rfl (HH77.unwant rfl rfl rfl rfl) rfl rfl HH77 (fun aa78 HH78 => ?_)
      clear HH77
      refine N_skip rfl (HH78.unwant rfl rfl rfl rfl) rfl rfl HH78 (fun aa79 HH79 => ?_)
      clear HH78
      refine N_skip rfl (HH79.unwant rfl rfl rfl rfl) rfl rfl HH79 (fun aa80 HH80 => ?_)
      clear HH79
      refine N_val rfl (want0 rfl) rfl rfl HH80 (fun ww39 SS39 => Y_pickF HH80 rfl rfl rfl) (fun aa81 HH81 => ?_)
      clear HH80
      refine N_val rfl (want0 rfl) rfl rfl HH81 (fun ww39 SS39 => Y_mov HH81 rfl rfl) (fun aa82 HH82 => ?_)
      clear HH81
      refine N_val rfl (HH82.want rfl rfl rfl) rfl rfl HH82 (fun ww39 SS39 => Y_mov HH82 rfl rfl) (fun aa83 HH83 => ?_)
      clear HH82
      refine N_val rfl (HH83.want rfl rfl rfl) rfl rfl HH83 (fun ww39 SS39 => Y_mov HH83 rfl rfl) (fun aa84 HH84 => ?_)
      clear HH83
      refine N_val rfl (HH84.want rfl rfl rfl) rfl rfl HH84 (fun ww39 SS39 => Y_lenS HH84 rfl (by kernel_rfl) rfl) (fun aa85 HH85 => ?_)
      clear HH84
      refine N_val rfl (HH85.want rfl rfl rfl) rfl rfl HH85 (fun ww39 SS39 => Y_yes (Y_geq HH85 rfl rfl rfl) (by omega)) (fun aa86 HH86 => ?_)
      clear HH85
      refine N_val rfl (HH86.want rfl rfl rfl) rfl rfl HH86 (fun ww39 SS39 => Y_mov HH86 rfl rfl) (fun aa87 HH87 => ?_)
      clear HH86
      have hb85 : b = 85#8 := by
        rw [List.getElem?_append_right (by omega)] at hbi
        have hk : i - bs.length = 0 ∨ i - bs.length = 1 ∨ i - bs.length = 2 := by omega
        rcases hk with hk | hk | hk <;> rw [hk] at hbi <;> simp at hbi <;> exact hbi.symm
      refine N_val rfl (HH87.want rfl rfl rfl) rfl rfl HH87 (fun ww39 SS39 => Y_mov HH87 rfl rfl) (fun aa88 HH88 => ?_)
      clear HH87
      refine N_val rfl (HH88.want rfl rfl rfl) rfl rfl HH88 (fun ww39 SS39 => Y_mov HH88 rfl rfl) (fun aa89 HH89 => ?_)
      clear HH88
      refine N_val rfl (HH89.want rfl rfl rfl) rfl rfl HH89 (fun ww39 SS39 => Y_idxE (q := o1 + i) HH89 rfl ty_bytes rfl e1 rfl (by omega) (by omega) (by simp)) (fun aa90 HH90 => ?_)
      clear HH89
      refine N_val rfl (HH90.want rfl rfl rfl) rfl rfl HH90 (fun ww39 SS39 => Y_load HH90 rfl (by kernel_rfl) rfl (Keep.cell SS39 (c1 i b hbi))) (fun aa91 HH91 => ?_)
      clear HH90
      refine N_val rfl (HH91.want rfl rfl rfl) rfl rfl HH91 (fun ww39 SS39 => Y_no (Y_neq HH91 rfl rfl rfl) (by rw [hb85]; decide)) (fun aa92 HH92 => ?_)
      clear HH91
      refine N_val rfl (HH92.want rfl rfl rfl) rfl rfl HH92 (fun ww39 SS39 => Y_pickT HH92 rfl rfl rfl) (fun aa93 HH93 => ?_)
      clear HH92
      refine N_val rfl (want0 rfl) rfl rfl HH93 (fun ww39 SS39 => Y_pickF HH93 rfl rfl rfl) (fun aa94 HH94 => ?_)
      clear HH93
      refine N_end (t_norm (hKK38 _ _ ?_))
      refine c_no HH94 rfl ?_
      refine wp_skip (b_norm (t_norm (hKK34 _ _ ?_)))
      refine wp_region_lit ?_
      refine LG_val (want0 rfl) rfl rfl HH94 (Y_add HH94 rfl rfl rfl (IntWalk.i64_in _ (by omega))) (fun aa95 HH95 => ?_)
      clear HH94
      refine LG_val (want0 rfl) rfl rfl HH95 (Y_mov HH95 rfl rfl) (fun aa96 HH96 => ?_)
      clear HH95
      refine L_end (t_norm ?_)
      exact ⟨i + 1, ⟨HH96.sub rfl, by omega, SS39⟩, by first | omega | (dsimp only; omega)⟩
  ·
    refine LG_val (want0 rfl) rfl rfl HH30 (Y_no (Y_lss HH30 rfl rfl rfl) (hlt)) (fun aa97 HH97 => ?_)
    clear HH30
    refine L_end (t_norm (hKK31 _ _ ?_))
    refine wp_seq_k fun KK98 hKK98 => ?_
    refine c_no HH97 rfl ?_
    refine wp_exit (t_exit (t_exit (b_exit (t_norm (hKK25 _ _ ?_)))))
    refine wp_seq_k fun KK99 hKK99 => ?_
    refine wp_region_lit ?_
    refine LG_val (want0 rfl) rfl rfl HH97 (Y_asg HH97 rfl rfl) (fun aa100 HH100 => ?_)
    clear HH97
    refine L_end (t_norm (hKK99 _ _ ?_))
    refine wp_ret (ret1 rfl HH100 rfl ?_)
    exact ⟨rfl, SS30⟩

set_option maxRecDepth 100000 in
theorem wakes01_ok {w : World} {l : List HProp} (S : Sat w l) : Calls Try.prog 67 #[] w fun e w' => e = .returned (VB true) ∧ Sat w' l := by
  refine enter (n := 5) Try.func67 rfl [] rfl rfl fun aa0 HH0 => ?_
  refine wp_seq_k fun KK1 hKK1 => ?_
  refine wp_region_lit ?_
  refine LG_val (want0 rfl) rfl rfl HH0 (Y_asg HH0 rfl rfl) (fun aa2 HH2 => ?_)
  clear HH0
  refine L_end (t_norm (hKK1 _ _ ?_))
  refine wp_seq_k fun KK3 hKK3 => ?_
  refine wp_region_lit ?_
  refine LG_do (want0 rfl) rfl rfl HH2 (M_buildSlice HH2 rfl ty_bytes rfl rfl rfl (by simp [Value.cells]) rfl S) ?_
  rintro _ ww4 ⟨b1, rfl, SS4, _⟩ aa4 HH4
  clear HH2
  clear S
  refine LG_do (want0 rfl) rfl rfl HH4 (M_convY (bs := [49#8, 50#8, 51#8, 52#8, 53#8, 54#8, 55#8, 56#8, 57#8]) HH4 rfl rfl SS4 (by omega)) ?_
  rintro _ ww5 ⟨rfl, hrd, SS5⟩ aa5 HH5
  clear HH4
  clear SS4
  refine LG_call (want0 rfl) rfl rfl rfl Try.func57 (by kernel_rfl) rfl HH5 (sum_ok (bs := [49#8, 50#8, 51#8, 52#8, 53#8, 54#8, 55#8, 56#8, 57#8]) hrd) rfl ?_
  rintro e ww6 ⟨rfl, hk⟩
  have SS6 := hk.sat SS5
  refine ⟨_, rfl, fun aa6 HH6 => ?_⟩
  clear HH5
  clear SS5
  refine LG_val (want0 rfl) rfl rfl HH6 (Y_yes (Y_eql HH6 rfl rfl rfl) (by decide +kernel)) (fun aa7 HH7 => ?_)
  clear HH6
  refine LG_val (want0 rfl) rfl rfl HH7 (Y_asg HH7 rfl rfl) (fun aa8 HH8 => ?_)
  clear HH7
  refine L_end (t_norm (hKK3 _ _ ?_))
  refine wp_ret (ret1 rfl HH8 rfl ?_)
  exact ⟨rfl, SS6⟩
end Go.Proofs.Ytaekiecidbhjhaa
