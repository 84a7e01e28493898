/- slices.Grow, slices.Concat at bytes; crc.Seal, chapletref01.Seal. Printed by wip/specs/seal.py. -/
import Derived.Test.YtaekiecidbhjhaaCrc
namespace Go.Proofs.Ytaekiecidbhjhaa
open Go.RowKit

theorem ty_bytess : SlTy Try.prog 98 90 1 24 := SlTy.of (z := VNil) (by kernel_rfl) (by kernel_rfl) rfl (by decide) (by decide)
abbrev cat (ps : List (Value × List (BitVec 8))) (i : Nat) : List (BitVec 8) := (ps.take i).flatMap (·.2)
theorem cat_more {ps : List (Value × List (BitVec 8))} {i : Nat} {p : Value × List (BitVec 8)} (h : ps[i]? = some p) : cat ps (i + 1) = cat ps i ++ p.2 := by
  unfold cat
  rw [List.take_add_one, h]; simp
theorem cat_le (ps : List (Value × List (BitVec 8))) (i : Nat) : (cat ps i).length ≤ (ps.flatMap (·.2)).length := by
  conv => rhs; rw [← List.take_append_drop i ps]
  unfold cat
  rw [List.flatMap_append, List.length_append]; omega
def cseal (bs : List (BitVec 8)) : List (BitVec 8) := bs ++ [(csum bs >>> 8).setWidth 8, (csum bs).setWidth 8]
set_option maxRecDepth 100000 in
theorem grow_ok {w : World} {l : List HProp} (N : Nat) (hb : N ≤ 140737488355328) (S : Sat w l) : Calls Try.prog 103 #[VNil, VI (N : Int)] w fun e w' => ∃ v', e = .returned v' ∧ Sat w' (Bys v' [] :: l) := by
  refine enter (n := 27) Try.func103 rfl [(0, VNil), (1, VI (N : Int))] rfl rfl fun aa0 HH0 => ?_
  refine wp_seq_k fun KK1 hKK1 => ?_
  refine wp_region_lit ?_
  refine LG_val (want0 rfl) rfl rfl HH0 (Y_asg HH0 rfl rfl) (fun aa2 HH2 => ?_)
  clear HH0
  refine L_end (t_norm (hKK1 _ _ ?_))
  refine wp_seq_k fun KK3 hKK3 => ?_
  refine wp_seq_k fun KK4 hKK4 => ?_
  refine wp_region_lit ?_
  refine LG_val (want0 rfl) rfl rfl HH2 (Y_mov HH2 rfl rfl) (fun aa5 HH5 => ?_)
  clear HH2
  refine LG_val (want0 rfl) rfl rfl HH5 (Y_no (Y_lss HH5 rfl rfl rfl) (by omega)) (fun aa6 HH6 => ?_)
  clear HH5
  refine L_end (t_norm (hKK4 _ _ ?_))
  refine c_no HH6 rfl ?_
  refine wp_skip (t_norm (hKK3 _ _ ?_))
  refine wp_seq_k fun KK7 hKK7 => ?_
  refine wp_seq_k fun KK8 hKK8 => ?_
  refine wp_region_lit ?_
  refine LG_val (want0 rfl) rfl rfl HH6 (Y_mov HH6 rfl rfl) (fun aa9 HH9 => ?_)
  clear HH6
  refine LG_val (want0 rfl) rfl rfl HH9 (Y_mov HH9 rfl rfl) (fun aa10 HH10 => ?_)
  clear HH9
  refine LG_val (want0 rfl) rfl rfl HH10 (Y_capS HH10 rfl (by kernel_rfl) rfl) (fun aa11 HH11 => ?_)
  clear HH10
  refine LG_val (want0 rfl) rfl rfl HH11 (Y_mov HH11 rfl rfl) (fun aa12 HH12 => ?_)
  clear HH11
  refine LG_val (want0 rfl) rfl rfl HH12 (Y_lenS HH12 rfl (by kernel_rfl) rfl) (fun aa13 HH13 => ?_)
  clear HH12
  refine LG_val (want0 rfl) rfl rfl HH13 (Y_sub (r := 0) HH13 rfl rfl rfl (by rw [IntWalk.i64_in _ (by omega)]; omega)) (fun aa14 HH14 => ?_)
  clear HH13
  refine LG_val (want0 rfl) rfl rfl HH14 (Y_sub (r := (N : Int)) HH14 rfl rfl rfl (by rw [IntWalk.i64_in _ (by omega)]; omega)) (fun aa15 HH15 => ?_)
  clear HH14
  refine LG_val (want0 rfl) rfl rfl HH15 (Y_asg HH15 rfl rfl) (fun aa16 HH16 => ?_)
  clear HH15
  refine L_end (t_norm (hKK8 _ _ ?_))
  refine wp_seq_k fun KK17 hKK17 => ?_
  refine wp_region_lit ?_
  refine LG_val (want0 rfl) rfl rfl HH16 (Y_mov HH16 rfl rfl) (fun aa18 HH18 => ?_)
  clear HH16
  by_cases h0 : 0 < (N : Int)
  ·
    refine LG_val (want0 rfl) rfl rfl HH18 (Y_yes (Y_gtr HH18 rfl rfl rfl) (h0)) (fun aa19 HH19 => ?_)
    clear HH18
    refine L_end (t_norm (hKK17 _ _ ?_))
    refine c_yes HH19 rfl ?_
    refine wp_region_lit ?_
    refine LG_val (want0 rfl) rfl rfl HH19 (Y_mov HH19 rfl rfl) (fun aa20 HH20 => ?_)
    clear HH19
    refine LG_val (want0 rfl) rfl rfl HH20 (Y_mov HH20 rfl rfl) (fun aa21 HH21 => ?_)
    clear HH20
    refine LG_val (want0 rfl) rfl rfl HH21 (Y_capS HH21 rfl (by kernel_rfl) rfl) (fun aa22 HH22 => ?_)
    clear HH21
    refine LG_val (want0 rfl) rfl rfl HH22 (Y_sliceTo (hi := 0) HH22 rfl ty_bytes rfl rfl (by omega)) (fun aa23 HH23 => ?_)
    clear HH22
    refine LG_val (want0 rfl) rfl rfl HH23 (Y_mov HH23 rfl rfl) (fun aa24 HH24 => ?_)
    clear HH23
    refine LG_do (want0 rfl) rfl rfl HH24 (M_appMake HH24 rfl rfl rfl (by omega) hb S) ?_
    rintro _ ww25 ⟨b22, c22, rfl, hc22, SS25⟩ aa25 HH25
    clear HH24
    clear S
    refine LG_val (want0 rfl) rfl rfl HH25 (Y_mov HH25 rfl rfl) (fun aa26 HH26 => ?_)
    clear HH25
    refine LG_val (want0 rfl) rfl rfl HH26 (Y_lenS HH26 rfl (by kernel_rfl) rfl) (fun aa27 HH27 => ?_)
    clear HH26
    refine LG_val (want0 rfl) rfl rfl HH27 (Y_sliceTo (hi := 0) HH27 rfl ty_bytes rfl rfl (by omega)) (fun aa28 HH28 => ?_)
    clear HH27
    refine LG_val (want0 rfl) rfl rfl HH28 (Y_asg HH28 rfl rfl) (fun aa29 HH29 => ?_)
    clear HH28
    refine L_end (t_norm (hKK7 _ _ ?_))
    refine wp_seq_k fun KK30 hKK30 => ?_
    refine wp_region_lit ?_
    refine LG_val (want0 rfl) rfl rfl HH29 (Y_mov HH29 rfl rfl) (fun aa31 HH31 => ?_)
    clear HH29
    refine LG_val (want0 rfl) rfl rfl HH31 (Y_asg HH31 rfl rfl) (fun aa32 HH32 => ?_)
    clear HH31
    refine L_end (t_norm (hKK30 _ _ ?_))
    refine wp_ret (ret1 rfl HH32 rfl ?_)
    exact ⟨_, rfl, SS25⟩
  ·
    refine LG_val (want0 rfl) rfl rfl HH18 (Y_no (Y_gtr HH18 rfl rfl rfl) (h0)) (fun aa33 HH33 => ?_)
    clear HH18
    refine L_end (t_norm (hKK17 _ _ ?_))
    refine c_no HH33 rfl ?_
    refine wp_skip (t_norm (hKK7 _ _ ?_))
    refine wp_seq_k fun KK34 hKK34 => ?_
    refine wp_region_lit ?_
    refine LG_val (want0 rfl) rfl rfl HH33 (Y_mov HH33 rfl rfl) (fun aa35 HH35 => ?_)
    clear HH33
    refine LG_val (want0 rfl) rfl rfl HH35 (Y_asg HH35 rfl rfl) (fun aa36 HH36 => ?_)
    clear HH35
    refine L_end (t_norm (hKK34 _ _ ?_))
    refine wp_ret (ret1 rfl HH36 rfl ?_)
    exact ⟨_, rfl, Bys.nil S⟩

set_option maxRecDepth 100000 in
theorem concat_ok {w : World} {l : List HProp} {v : Value} (ps : List (Value × List (BitVec 8))) (hr : ∀ w', Sat w' l → Rd w' 1 v ps.length (ps.map (·.1))) (hp : ∀ w', Sat w' l → ∀ p ∈ ps, RdY w' p.1 p.2) (hb : (ps.flatMap (·.2)).length ≤ 140737488355328) (S : Sat w l) :
    Calls Try.prog 92 #[v] w fun e w' => ∃ v', e = .returned v' ∧ Sat w' (Bys v' (ps.flatMap (·.2)) :: l) := by
  obtain ⟨pa, pc, rfl, hpl1, hpl2⟩ := Rd.val (hr _ S)
  have hmx : maxLen ≤ 9223372036854775807 := by decide
  refine enter (n := 36) Try.func92 rfl [(0, .slice pa ps.length pc)] rfl rfl fun aa0 HH0 => ?_
  refine wp_seq_k fun KK1 hKK1 => ?_
  refine wp_region_lit ?_
  refine LG_val (want0 rfl) rfl rfl HH0 (Y_asg HH0 rfl rfl) (fun aa2 HH2 => ?_)
  clear HH0
  refine L_end (t_norm (hKK1 _ _ ?_))
  refine wp_seq_k fun KK3 hKK3 => ?_
  refine wp_region_lit ?_
  refine LG_val (want0 rfl) rfl rfl HH2 (Y_asg HH2 rfl rfl) (fun aa4 HH4 => ?_)
  clear HH2
  refine L_end (t_norm (hKK3 _ _ ?_))
  refine wp_seq_k fun KK5 hKK5 => ?_
  refine wp_seq_k fun KK6 hKK6 => ?_
  refine wp_region_lit ?_
  refine LG_val (want0 rfl) rfl rfl HH4 (Y_mov HH4 rfl rfl) (fun aa7 HH7 => ?_)
  clear HH4
  refine LG_val (want0 rfl) rfl rfl HH7 (Y_lenS HH7 rfl (by kernel_rfl) rfl) (fun aa8 HH8 => ?_)
  clear HH7
  refine LG_val (want0 rfl) rfl rfl HH8 (Y_mov HH8 rfl rfl) (fun aa9 HH9 => ?_)
  clear HH8
  refine L_end (t_norm (hKK6 _ _ ?_))
  refine wp_block ?_
  refine c_loop (σ := Nat) (fun (i : Nat) a wx => Fr a 36 [(0, .slice pa ps.length pc), (3, VI (cat ps i).length), (9, .slice pa ps.length pc), (10, VI ps.length), (11, VI i)] ∧ i ≤ ps.length ∧ Sat wx l) (fun i => ps.length - i) (0) ?_ ?_
  · exact ⟨HH9.sub rfl, Nat.zero_le _, S⟩
  clear HH9
  clear S
  rintro i aa10 ww10 ⟨HH10, hi, SS10⟩
  refine wp_seq_k fun KK11 hKK11 => ?_
  refine wp_region_lit ?_
  by_cases hlt : (i : Int) < (ps.length : Int)
  ·
    refine LG_val (want0 rfl) rfl rfl HH10 (Y_yes (Y_lss HH10 rfl rfl rfl) (hlt)) (fun aa12 HH12 => ?_)
    clear HH10
    refine L_end (t_norm (hKK11 _ _ ?_))
    refine wp_seq_k fun KK13 hKK13 => ?_
    refine c_yes HH12 rfl ?_
    refine wp_skip (t_norm (hKK13 _ _ ?_))
    refine wp_seq_k fun KK14 hKK14 => ?_
    refine wp_block ?_
    refine wp_seq_k fun KK15 hKK15 => ?_
    obtain ⟨⟨pv, pb⟩, hpi⟩ : ∃ p, ps[i]? = some p := ⟨ps[i]'(by omega), List.getElem?_eq_getElem _⟩
    have hpm := List.mem_of_getElem? hpi
    have hrp := hp _ SS10 _ hpm
    obtain ⟨pa2, pc2, hpv, hpc, hpx⟩ := Rd.val hrp
    dsimp only at hpv
    subst hpv
    obtain ⟨b1, off1, cap1, e1, _, _, _, c1⟩ := Rd.at (hr _ SS10) (by intro h; have := congrArg List.length h; simp at this; subst this; simp at hpi)
    cases e1
    have ci := c1 i _ (by rw [List.getElem?_map, hpi]; rfl)
    have hcm := cat_more hpi
    have hcl := cat_le ps (i + 1)
    rw [hcm, List.length_append] at hcl
    dsimp only at hcm hcl
    refine wp_region_lit ?_
    refine LG_val (want0 rfl) rfl rfl HH12 (Y_idxE (q := off1 + i) HH12 rfl ty_bytess rfl rfl rfl (by omega) (by omega) (by simp)) (fun aa16 HH16 => ?_)
    clear HH12
    refine LG_val (want0 rfl) rfl rfl HH16 (Y_load HH16 rfl (by kernel_rfl) rfl ci) (fun aa17 HH17 => ?_)
    clear HH16
    refine LG_val (want0 rfl) rfl rfl HH17 (Y_asg HH17 rfl rfl) (fun aa18 HH18 => ?_)
    clear HH17
    refine L_end (t_norm (hKK15 _ _ ?_))
    refine wp_seq_k fun KK19 hKK19 => ?_
    refine wp_region_lit ?_
    refine LG_val (want0 rfl) rfl rfl HH18 (Y_mov HH18 rfl rfl) (fun aa20 HH20 => ?_)
    clear HH18
    refine LG_val (want0 rfl) rfl rfl HH20 (Y_mov HH20 rfl rfl) (fun aa21 HH21 => ?_)
    clear HH20
    refine LG_val (want0 rfl) rfl rfl HH21 (Y_lenS HH21 rfl (by kernel_rfl) rfl) (fun aa22 HH22 => ?_)
    clear HH21
    refine LG_val (want0 rfl) rfl rfl HH22 (Y_add (r := ((cat ps (i + 1)).length : Int)) HH22 rfl rfl rfl (by rw [hcm, List.length_append, IntWalk.i64_in _ (by omega)]; omega)) (fun aa23 HH23 => ?_)
    clear HH22
    refine LG_val (want0 rfl) rfl rfl HH23 (Y_asg HH23 rfl rfl) (fun aa24 HH24 => ?_)
    clear HH23
    refine L_end (t_norm (hKK19 _ _ ?_))
    refine wp_seq_k fun KK25 hKK25 => ?_
    refine wp_region_lit ?_
    refine LG_val (want0 rfl) rfl rfl HH24 (Y_mov HH24 rfl rfl) (fun aa26 HH26 => ?_)
    clear HH24
    refine LG_val (want0 rfl) rfl rfl HH26 (Y_no (Y_lss HH26 rfl rfl rfl) (by omega)) (fun aa27 HH27 => ?_)
    clear HH26
    refine L_end (t_norm (hKK25 _ _ ?_))
    refine c_no HH27 rfl ?_
    refine wp_skip (b_norm (t_norm (hKK14 _ _ ?_)))
    refine wp_region_lit ?_
    refine LG_val (want0 rfl) rfl rfl HH27 (Y_add HH27 rfl rfl rfl (IntWalk.i64_in _ (by omega))) (fun aa28 HH28 => ?_)
    clear HH27
    refine LG_val (want0 rfl) rfl rfl HH28 (Y_mov HH28 rfl rfl) (fun aa29 HH29 => ?_)
    clear HH28
    refine L_end (t_norm ?_)
    exact ⟨i + 1, ⟨HH29.sub rfl, by omega, SS10⟩, by first | omega | (dsimp only; omega)⟩
  ·
    refine LG_val (want0 rfl) rfl rfl HH10 (Y_no (Y_lss HH10 rfl rfl rfl) (hlt)) (fun aa30 HH30 => ?_)
    clear HH10
    refine L_end (t_norm (hKK11 _ _ ?_))
    refine wp_seq_k fun KK31 hKK31 => ?_
    refine c_no HH30 rfl ?_
    refine wp_exit (t_exit (t_exit (b_exit (t_norm (hKK5 _ _ ?_)))))
    refine wp_seq_k fun KK32 hKK32 => ?_
    have hie : i = ps.length := by omega
    have hc0 := cat_le ps i
    refine wp_region_lit ?_
    refine LG_val (want0 rfl) rfl rfl HH30 (Y_mov HH30 rfl rfl) (fun aa33 HH33 => ?_)
    clear HH30
    refine LG_call (want0 rfl) rfl rfl rfl Try.func103 (by kernel_rfl) rfl HH33 (grow_ok _ (by omega) SS10) rfl ?_
    rintro e ww34 ⟨v24, rfl, SS34⟩
    refine ⟨_, rfl, fun aa34 HH34 => ?_⟩
    clear HH33
    clear SS10
    refine LG_val (want0 rfl) rfl rfl HH34 (Y_asg HH34 rfl rfl) (fun aa35 HH35 => ?_)
    clear HH34
    refine L_end (t_norm (hKK32 _ _ ?_))
    refine wp_seq_k fun KK36 hKK36 => ?_
    refine wp_seq_k fun KK37 hKK37 => ?_
    refine wp_region_lit ?_
    refine LG_val (want0 rfl) rfl rfl HH35 (Y_mov HH35 rfl rfl) (fun aa38 HH38 => ?_)
    clear HH35
    refine LG_val (want0 rfl) rfl rfl HH38 (Y_lenS HH38 rfl (by kernel_rfl) rfl) (fun aa39 HH39 => ?_)
    clear HH38
    refine LG_val (want0 rfl) rfl rfl HH39 (Y_mov HH39 rfl rfl) (fun aa40 HH40 => ?_)
    clear HH39
    refine L_end (t_norm (hKK37 _ _ ?_))
    refine wp_block ?_
    clear hie hc0
    refine c_loop (σ := Nat) (fun (i : Nat) a wx => ∃ ov : Value, Fr a 36 [(6, ov), (25, .slice pa ps.length pc), (26, VI ps.length), (27, VI i)] ∧ i ≤ ps.length ∧ Sat wx (Bys ov (cat ps i) :: l)) (fun i => ps.length - i) (0) ?_ ?_
    · exact ⟨_, HH40.sub rfl, Nat.zero_le _, SS34⟩
    clear HH40
    clear SS34
    rintro i aa41 ww41 ⟨ov, HH41, hi, SS41⟩
    refine wp_seq_k fun KK42 hKK42 => ?_
    refine wp_region_lit ?_
    by_cases hlt : (i : Int) < (ps.length : Int)
    ·
      refine LG_val (want0 rfl) rfl rfl HH41 (Y_yes (Y_lss HH41 rfl rfl rfl) (hlt)) (fun aa43 HH43 => ?_)
      clear HH41
      refine L_end (t_norm (hKK42 _ _ ?_))
      refine wp_seq_k fun KK44 hKK44 => ?_
      refine c_yes HH43 rfl ?_
      refine wp_skip (t_norm (hKK44 _ _ ?_))
      refine wp_seq_k fun KK45 hKK45 => ?_
      refine wp_block ?_
      refine wp_seq_k fun KK46 hKK46 => ?_
      obtain ⟨⟨pv, pb⟩, hpi⟩ : ∃ p, ps[i]? = some p := ⟨ps[i]'(by omega), List.getElem?_eq_getElem _⟩
      have hpm := List.mem_of_getElem? hpi
      have hrp := hp _ SS41.tail _ hpm
      obtain ⟨pa2, pc2, hpv, hpc, hpx⟩ := Rd.val hrp
      dsimp only at hpv
      subst hpv
      obtain ⟨b1, off1, cap1, e1, _, _, _, c1⟩ := Rd.at (hr _ SS41.tail) (by intro h; have := congrArg List.length h; simp at this; subst this; simp at hpi)
      cases e1
      have ci := c1 i _ (by rw [List.getElem?_map, hpi]; rfl)
      have hcm := cat_more hpi
      have hcl := cat_le ps (i + 1)
      rw [hcm, List.length_append] at hcl
      dsimp only at hcm hcl
      refine wp_region_lit ?_
      refine LG_val (want0 rfl) rfl rfl HH43 (Y_idxE (q := off1 + i) HH43 rfl ty_bytess rfl rfl rfl (by omega) (by omega) (by simp)) (fun aa47 HH47 => ?_)
      clear HH43
      refine LG_val (want0 rfl) rfl rfl HH47 (Y_load HH47 rfl (by kernel_rfl) rfl ci) (fun aa48 HH48 => ?_)
      clear HH47
      refine LG_val (want0 rfl) rfl rfl HH48 (Y_asg HH48 rfl rfl) (fun aa49 HH49 => ?_)
      clear HH48
      refine L_end (t_norm (hKK46 _ _ ?_))
      refine wp_region_lit ?_
      refine LG_val (want0 rfl) rfl rfl HH49 (Y_mov HH49 rfl rfl) (fun aa50 HH50 => ?_)
      clear HH49
      refine LG_val (want0 rfl) rfl rfl HH50 (Y_mov HH50 rfl rfl) (fun aa51 HH51 => ?_)
      clear HH50
      refine LG_do (want0 rfl) rfl rfl HH51 (M_appY HH51 rfl rfl rfl SS41 (hp _ SS41.tail _ hpm) rfl (by dsimp only; omega)) ?_
      rintro _ ww52 ⟨a13, c13, rfl, SS52⟩ aa52 HH52
      clear HH51
      clear SS41
      refine LG_val (want0 rfl) rfl rfl HH52 (Y_asg HH52 rfl rfl) (fun aa53 HH53 => ?_)
      clear HH52
      refine L_end (b_norm (t_norm (hKK45 _ _ ?_)))
      refine wp_region_lit ?_
      refine LG_val (want0 rfl) rfl rfl HH53 (Y_add HH53 rfl rfl rfl (IntWalk.i64_in _ (by omega))) (fun aa54 HH54 => ?_)
      clear HH53
      refine LG_val (want0 rfl) rfl rfl HH54 (Y_mov HH54 rfl rfl) (fun aa55 HH55 => ?_)
      clear HH54
      refine L_end (t_norm ?_)
      exact ⟨i + 1, ⟨_, HH55.sub rfl, by omega, by rw [hcm]; exact SS52⟩, by first | omega | (dsimp only; omega)⟩
    ·
      refine LG_val (want0 rfl) rfl rfl HH41 (Y_no (Y_lss HH41 rfl rfl rfl) (hlt)) (fun aa56 HH56 => ?_)
      clear HH41
      refine L_end (t_norm (hKK42 _ _ ?_))
      refine wp_seq_k fun KK57 hKK57 => ?_
      refine c_no HH56 rfl ?_
      refine wp_exit (t_exit (t_exit (b_exit (t_norm (hKK36 _ _ ?_)))))
      refine wp_seq_k fun KK58 hKK58 => ?_
      refine wp_region_lit ?_
      refine LG_val (want0 rfl) rfl rfl HH56 (Y_mov HH56 rfl rfl) (fun aa59 HH59 => ?_)
      clear HH56
      refine LG_val (want0 rfl) rfl rfl HH59 (Y_asg HH59 rfl rfl) (fun aa60 HH60 => ?_)
      clear HH59
      refine L_end (t_norm (hKK58 _ _ ?_))
      refine wp_ret (ret1 rfl HH60 rfl ?_)
      have hie : i = ps.length := by omega
      have hall : cat ps i = ps.flatMap (·.2) := by unfold cat; rw [List.take_of_length_le (by omega)]
      rw [hall] at SS41
      exact ⟨_, rfl, SS41⟩

set_option maxRecDepth 100000 in
theorem seal_ok {w : World} {l : List HProp} {v : Value} {bs : List (BitVec 8)} (hr : ∀ w', Sat w' l → RdY w' v bs) (hb : bs.length ≤ 140737488355000) (S : Sat w l) :
    Calls Try.prog 60 #[v] w fun e w' => ∃ v', e = .returned v' ∧ Sat w' (Bys v' (cseal bs) :: l) := by
  obtain ⟨pa, pc, rfl, hpl1, hpl2⟩ := Rd.val (hr _ S)
  refine enter (n := 15) Try.func60 rfl [(0, .slice pa bs.length pc)] rfl rfl fun aa0 HH0 => ?_
  refine wp_seq_k fun KK1 hKK1 => ?_
  refine wp_region_lit ?_
  refine LG_val (want0 rfl) rfl rfl HH0 (Y_asg HH0 rfl rfl) (fun aa2 HH2 => ?_)
  clear HH0
  refine L_end (t_norm (hKK1 _ _ ?_))
  refine wp_seq_k fun KK3 hKK3 => ?_
  refine wp_region_lit ?_
  refine LG_val (want0 rfl) rfl rfl HH2 (Y_mov HH2 rfl rfl) (fun aa4 HH4 => ?_)
  clear HH2
  refine LG_call (want0 rfl) rfl rfl rfl Try.func57 (by kernel_rfl) rfl HH4 (sum_ok (hr _ S)) rfl ?_
  rintro e ww5 ⟨rfl, hk⟩
  have SS5 := hk.sat S
  refine ⟨_, rfl, fun aa5 HH5 => ?_⟩
  clear HH4
  clear S
  refine LG_val (want0 rfl) rfl rfl HH5 (Y_asg HH5 rfl rfl) (fun aa6 HH6 => ?_)
  clear HH5
  refine L_end (t_norm (hKK3 _ _ ?_))
  refine wp_seq_k fun KK7 hKK7 => ?_
  refine wp_region_lit ?_
  refine LG_val (want0 rfl) rfl rfl HH6 (Y_mov HH6 rfl rfl) (fun aa8 HH8 => ?_)
  clear HH6
  refine LG_val (want0 rfl) rfl rfl HH8 (Y_mov HH8 rfl rfl) (fun aa9 HH9 => ?_)
  clear HH8
  refine LG_val (want0 rfl) rfl rfl HH9 (Y_shr (r := ((csum bs >>> 8).toNat : Int)) HH9 rfl rfl rfl (by omega) (shr16 _ _ 8 rfl (by omega))) (fun aa10 HH10 => ?_)
  clear HH9
  refine LG_val (want0 rfl) rfl rfl HH10 (Y_conv (k' := .u8) (r := (((csum bs >>> 8).setWidth 8).toNat : Int)) HH10 rfl (by kernel_rfl) (by kernel_rfl) rfl (low8 _)) (fun aa11 HH11 => ?_)
  clear HH10
  refine LG_val (want0 rfl) rfl rfl HH11 (Y_mov HH11 rfl rfl) (fun aa12 HH12 => ?_)
  clear HH11
  refine LG_val (want0 rfl) rfl rfl HH12 (Y_conv (k' := .u8) (r := (((csum bs).setWidth 8).toNat : Int)) HH12 rfl (by kernel_rfl) (by kernel_rfl) rfl (low8 _)) (fun aa13 HH13 => ?_)
  clear HH12
  refine LG_do (want0 rfl) rfl rfl HH13 (M_buildSlice HH13 rfl ty_bytes rfl rfl rfl (by simp [Value.cells]) rfl SS5) ?_
  rintro _ ww14 ⟨b12, rfl, SS14, _⟩ aa14 HH14
  clear HH13
  clear SS5
  refine LG_do (want0 rfl) rfl rfl HH14 (M_buildSlice HH14 rfl ty_bytess rfl rfl rfl (by simp [Value.cells]) rfl SS14) ?_
  rintro _ ww15 ⟨b13, rfl, SS15, _⟩ aa15 HH15
  clear HH14
  clear SS14
  refine LG_call (want0 rfl) rfl rfl rfl Try.func92 (by kernel_rfl) rfl HH15 (concat_ok [(.slice pa bs.length pc, bs), (.slice (some ⟨b12, 0, none⟩) 2 2, [((csum bs >>> 8).setWidth 8), ((csum bs).setWidth 8)])] (fun w' h => Sl.rd h) (fun w' h p hm => by simp only [List.mem_cons, List.not_mem_nil, or_false] at hm; rcases hm with rfl | rfl; exact hr w' h.tail.tail; exact Sl.rd h.tail) (by simp; omega) SS15.p1.p1) rfl ?_
  rintro e ww16 ⟨v14, rfl, SS16⟩
  refine ⟨_, rfl, fun aa16 HH16 => ?_⟩
  clear HH15
  clear SS15
  refine LG_val (want0 rfl) rfl rfl HH16 (Y_asg HH16 rfl rfl) (fun aa17 HH17 => ?_)
  clear HH16
  refine L_end (t_norm (hKK7 _ _ ?_))
  refine wp_ret (ret1 rfl HH17 rfl ?_)
  refine ⟨_, rfl, ?_⟩
  have e : cseal bs = [(Value.slice pa bs.length pc, bs), (Value.slice (some ⟨b12, 0, none⟩) 2 2, [((csum bs >>> 8).setWidth 8), ((csum bs).setWidth 8)])].flatMap (·.2) := by simp [cseal]
  rw [e]
  exact SS16.p2.p2.tail.tail

set_option maxRecDepth 100000 in
theorem rseal_ok {w : World} {l : List HProp} {v : Value} {bs : List (BitVec 8)} (hr : ∀ w', Sat w' l → RdY w' v bs) (hb : bs.length ≤ 140737488355000) (S : Sat w l) :
    Calls Try.prog 61 #[v] w fun e w' => ∃ v', e = .returned v' ∧ Sat w' (Bys v' (cseal bs) :: l) := by
  obtain ⟨pa, pc, rfl, hpl1, hpl2⟩ := Rd.val (hr _ S)
  refine enter (n := 15) Try.func61 rfl [(0, .slice pa bs.length pc)] rfl rfl fun aa0 HH0 => ?_
  refine wp_seq_k fun KK1 hKK1 => ?_
  refine wp_region_lit ?_
  refine LG_val (want0 rfl) rfl rfl HH0 (Y_asg HH0 rfl rfl) (fun aa2 HH2 => ?_)
  clear HH0
  refine L_end (t_norm (hKK1 _ _ ?_))
  refine wp_seq_k fun KK3 hKK3 => ?_
  refine wp_region_lit ?_
  refine LG_val (want0 rfl) rfl rfl HH2 (Y_mov HH2 rfl rfl) (fun aa4 HH4 => ?_)
  clear HH2
  refine LG_call (want0 rfl) rfl rfl rfl Try.func58 (by kernel_rfl) rfl HH4 (rsum_ok (hr _ S)) rfl ?_
  rintro e ww5 ⟨rfl, hk⟩
  have SS5 := hk.sat S
  refine ⟨_, rfl, fun aa5 HH5 => ?_⟩
  clear HH4
  clear S
  refine LG_val (want0 rfl) rfl rfl HH5 (Y_asg HH5 rfl rfl) (fun aa6 HH6 => ?_)
  clear HH5
  refine L_end (t_norm (hKK3 _ _ ?_))
  refine wp_seq_k fun KK7 hKK7 => ?_
  refine wp_region_lit ?_
  refine LG_val (want0 rfl) rfl rfl HH6 (Y_mov HH6 rfl rfl) (fun aa8 HH8 => ?_)
  clear HH6
  refine LG_do (want0 rfl) rfl rfl HH8 (M_appY0 HH8 rfl rfl rfl SS5 (hr _ SS5) rfl (by omega)) ?_
  rintro _ ww9 ⟨a7, c7, rfl, SS9⟩ aa9 HH9
  clear HH8
  clear SS5
  refine LG_val (want0 rfl) rfl rfl HH9 (Y_mov HH9 rfl rfl) (fun aa10 HH10 => ?_)
  clear HH9
  refine LG_val (want0 rfl) rfl rfl HH10 (Y_shr (r := ((csum bs >>> 8).toNat : Int)) HH10 rfl rfl rfl (by omega) (shr16 _ _ 8 rfl (by omega))) (fun aa11 HH11 => ?_)
  clear HH10
  refine LG_val (want0 rfl) rfl rfl HH11 (Y_conv (k' := .u8) (r := (((csum bs >>> 8).setWidth 8).toNat : Int)) HH11 rfl (by kernel_rfl) (by kernel_rfl) rfl (low8 _)) (fun aa12 HH12 => ?_)
  clear HH11
  refine LG_val (want0 rfl) rfl rfl HH12 (Y_mov HH12 rfl rfl) (fun aa13 HH13 => ?_)
  clear HH12
  refine LG_val (want0 rfl) rfl rfl HH13 (Y_conv (k' := .u8) (r := (((csum bs).setWidth 8).toNat : Int)) HH13 rfl (by kernel_rfl) (by kernel_rfl) rfl (low8 _)) (fun aa14 HH14 => ?_)
  clear HH13
  refine LG_do (want0 rfl) rfl rfl HH14 (M_buildSlice HH14 rfl ty_bytes rfl rfl rfl (by simp [Value.cells]) rfl SS9) ?_
  rintro _ ww15 ⟨b13, rfl, SS15, _⟩ aa15 HH15
  clear HH14
  clear SS9
  refine LG_do (want0 rfl) rfl rfl HH15 (M_appY (cs := [((csum bs >>> 8).setWidth 8), ((csum bs).setWidth 8)]) HH15 rfl rfl rfl SS15.p1 (Sl.rd SS15) rfl (by simp; omega)) ?_
  rintro _ ww16 ⟨a14, c14, rfl, SS16⟩ aa16 HH16
  clear HH15
  clear SS15
  refine LG_val (want0 rfl) rfl rfl HH16 (Y_asg HH16 rfl rfl) (fun aa17 HH17 => ?_)
  clear HH16
  refine L_end (t_norm (hKK7 _ _ ?_))
  refine wp_ret (ret1 rfl HH17 rfl ?_)
  exact ⟨_, rfl, SS16.p1.tail⟩
end Go.Proofs.Ytaekiecidbhjhaa
