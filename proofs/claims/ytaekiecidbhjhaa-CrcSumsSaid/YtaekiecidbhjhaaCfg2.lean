/- plan.HomeOf, plan.Words; chapletkeep.Cut; chapletplay.Config. Printed by wip/specs/cfg.py. -/
import Derived.Test.YtaekiecidbhjhaaCfg
import Derived.Test.YtaekiecidbhjhaaTys
namespace Go.Proofs.Ytaekiecidbhjhaa
open Go.RowKit

set_option maxRecDepth 100000 in
theorem rest_ok {w : World} (line : Int) (k : Nat) (hk : 1 ≤ k) (hk2 : k ≤ 1000) : Calls Try.prog 82 #[VI line, VI k] w fun e w' => e = .returned (VI (homeOf line k)) ∧ w = w' := by
  unfold homeOf
  refine enter (n := 10) Try.func82 rfl [(0, VI line), (1, VI k)] rfl rfl fun aa0 HH0 => ?_
  refine wp_seq_k fun KK1 hKK1 => ?_
  refine wp_region_lit ?_
  refine LG_val (want0 rfl) rfl rfl HH0 (Y_asg HH0 rfl rfl) (fun aa2 HH2 => ?_)
  clear HH0
  refine L_end (t_norm (hKK1 _ _ ?_))
  refine wp_seq_k fun KK3 hKK3 => ?_
  refine wp_seq_k fun KK4 hKK4 => ?_
  refine wp_region_lit ?_
  refine LG_val (want0 rfl) rfl rfl HH2 (Y_mov HH2 rfl rfl) (fun aa5 HH5 => ?_)
  clear HH2
  by_cases h0 : line < 0
  ·
    refine LG_val (want0 rfl) rfl rfl HH5 (Y_yes (Y_lss HH5 rfl rfl rfl) (h0)) (fun aa6 HH6 => ?_)
    clear HH5
    refine L_end (t_norm (hKK4 _ _ ?_))
    refine c_yes HH6 rfl ?_
    refine wp_seq_k fun KK7 hKK7 => ?_
    refine wp_region_lit ?_
    refine LG_val (want0 rfl) rfl rfl HH6 (Y_asg HH6 rfl rfl) (fun aa8 HH8 => ?_)
    clear HH6
    refine L_end (t_norm (hKK7 _ _ ?_))
    refine wp_ret (t_ret (ret1 rfl HH8 rfl ?_))
    rw [if_pos h0]; exact ⟨rfl, rfl⟩
  ·
    refine LG_val (want0 rfl) rfl rfl HH5 (Y_no (Y_lss HH5 rfl rfl rfl) (h0)) (fun aa9 HH9 => ?_)
    clear HH5
    refine L_end (t_norm (hKK4 _ _ ?_))
    refine c_no HH9 rfl ?_
    refine wp_skip (t_norm (hKK3 _ _ ?_))
    refine wp_seq_k fun KK10 hKK10 => ?_
    refine wp_region_lit ?_
    refine LG_val (want0 rfl) rfl rfl HH9 (Y_mov HH9 rfl rfl) (fun aa11 HH11 => ?_)
    clear HH9
    refine LG_val (want0 rfl) rfl rfl HH11 (Y_mov HH11 rfl rfl) (fun aa12 HH12 => ?_)
    clear HH11
    refine LG_val (want0 rfl) rfl rfl HH12 (Y_rem (r := line % (k : Int)) HH12 rfl rfl rfl (by omega) (Int.tmod_eq_emod_of_nonneg (by omega))) (fun aa13 HH13 => ?_)
    clear HH12
    refine LG_val (want0 rfl) rfl rfl HH13 (Y_asg HH13 rfl rfl) (fun aa14 HH14 => ?_)
    clear HH13
    refine L_end (t_norm (hKK10 _ _ ?_))
    refine wp_ret (ret1 rfl HH14 rfl ?_)
    rw [if_neg h0]; exact ⟨rfl, rfl⟩

set_option maxRecDepth 100000 in
theorem home_ok {w : World} {l : List HProp} (c : Cfg) (hc : c.small) (v : Value) (line : Int) (S : Sat w l) : Calls Try.prog 40 #[c.val v, VI line] w fun e w' => e = .returned (VI (homeOf line c.nodes)) ∧ Sat w' l := by
  refine enter (n := 9) Try.func40 rfl [(0, c.val v), (1, VI line)] rfl rfl fun aa0 HH0 => ?_
  refine wp_seq_k fun KK1 hKK1 => ?_
  refine wp_region_lit ?_
  refine LG_do (want0 rfl) rfl rfl HH0 (M_box HH0 rfl rfl rfl S) ?_
  rintro _ ww2 ⟨b2, rfl, SS2, _⟩ aa2 HH2
  clear HH0
  clear S
  refine LG_val (want0 rfl) rfl rfl HH2 (Y_asg HH2 rfl rfl) (fun aa3 HH3 => ?_)
  clear HH2
  refine L_end (t_norm (hKK1 _ _ ?_))
  refine wp_seq_k fun KK4 hKK4 => ?_
  refine wp_region_lit ?_
  refine LG_val (want0 rfl) rfl rfl HH3 (Y_mov HH3 rfl rfl) (fun aa5 HH5 => ?_)
  clear HH3
  refine LG_val (want0 rfl) rfl rfl HH5 (Y_fad (off := 0) (r := 0) HH5 rfl (by kernel_rfl) rfl rfl) (fun aa6 HH6 => ?_)
  clear HH5
  refine LG_val (want0 rfl) rfl rfl HH6 (Y_load HH6 rfl (by kernel_rfl) rfl (SS2.cell 0)) (fun aa7 HH7 => ?_)
  clear HH6
  refine LG_call (want0 rfl) rfl rfl rfl Try.func82 (by kernel_rfl) rfl HH7 (rest_ok line c.nodes hc.n0 (by have := hc.n1; omega)) rfl ?_
  rintro e ww8 ⟨rfl, rfl⟩
  refine ⟨_, rfl, fun aa8 HH8 => ?_⟩
  clear HH7
  refine LG_val (want0 rfl) rfl rfl HH8 (Y_asg HH8 rfl rfl) (fun aa9 HH9 => ?_)
  clear HH8
  refine L_end (t_norm (hKK4 _ _ ?_))
  refine wp_ret (ret1 rfl HH9 rfl ?_)
  exact ⟨rfl, SS2.tail⟩

set_option maxRecDepth 100000 in
theorem words_out {w : World} {l : List HProp} (c : Cfg) (v : Value) (line : Int) (hl : line < 0 ∨ (c.lines : Int) ≤ line) (S : Sat w l) : Calls Try.prog 43 #[c.val v, VI line] w fun e w' => e = .returned VNil ∧ Sat w' l := by
  refine enter (n := 33) Try.func43 rfl [(0, c.val v), (1, VI line)] rfl rfl fun aa0 HH0 => ?_
  refine wp_seq_k fun KK1 hKK1 => ?_
  refine wp_region_lit ?_
  refine LG_do (want0 rfl) rfl rfl HH0 (M_box HH0 rfl rfl rfl S) ?_
  rintro _ ww2 ⟨b2, rfl, SS2, _⟩ aa2 HH2
  clear HH0
  clear S
  refine LG_val (want0 rfl) rfl rfl HH2 (Y_asg HH2 rfl rfl) (fun aa3 HH3 => ?_)
  clear HH2
  refine L_end (t_norm (hKK1 _ _ ?_))
  refine wp_seq_k fun KK4 hKK4 => ?_
  refine wp_seq_k fun KK5 hKK5 => ?_
  refine wp_region_lit ?_
  refine LG_val (want0 rfl) rfl rfl HH3 (Y_mov HH3 rfl rfl) (fun aa6 HH6 => ?_)
  clear HH3
  by_cases h0 : line < 0
  ·
    refine LG_val (want0 rfl) rfl rfl HH6 (Y_yes (Y_lss HH6 rfl rfl rfl) (h0)) (fun aa7 HH7 => ?_)
    clear HH6
    refine LG_val (want0 rfl) rfl rfl HH7 (Y_mov HH7 rfl rfl) (fun aa8 HH8 => ?_)
    clear HH7
    refine LG_skip (HH8.unwant rfl rfl rfl rfl) rfl rfl HH8 (fun aa9 HH9 => ?_)
    clear HH8
    refine LG_skip (HH9.unwant rfl rfl rfl rfl) rfl rfl HH9 (fun aa10 HH10 => ?_)
    clear HH9
    refine LG_skip (HH10.unwant rfl rfl rfl rfl) rfl rfl HH10 (fun aa11 HH11 => ?_)
    clear HH10
    refine LG_skip (HH11.unwant rfl rfl rfl rfl) rfl rfl HH11 (fun aa12 HH12 => ?_)
    clear HH11
    refine LG_val (want0 rfl) rfl rfl HH12 (Y_pickT HH12 rfl rfl rfl) (fun aa13 HH13 => ?_)
    clear HH12
    refine L_end (t_norm (hKK5 _ _ ?_))
    refine c_yes HH13 rfl ?_
    refine wp_seq_k fun KK14 hKK14 => ?_
    refine wp_region_lit ?_
    refine LG_val (want0 rfl) rfl rfl HH13 (Y_asg HH13 rfl rfl) (fun aa15 HH15 => ?_)
    clear HH13
    refine L_end (t_norm (hKK14 _ _ ?_))
    refine wp_ret (t_ret (ret1 rfl HH15 rfl ?_))
    exact ⟨rfl, SS2.tail⟩
  ·
    refine LG_val (want0 rfl) rfl rfl HH6 (Y_no (Y_lss HH6 rfl rfl rfl) (h0)) (fun aa16 HH16 => ?_)
    clear HH6
    refine LG_val (want0 rfl) rfl rfl HH16 (Y_mov HH16 rfl rfl) (fun aa17 HH17 => ?_)
    clear HH16
    refine LG_val (HH17.want rfl rfl rfl) rfl rfl HH17 (Y_mov HH17 rfl rfl) (fun aa18 HH18 => ?_)
    clear HH17
    refine LG_val (HH18.want rfl rfl rfl) rfl rfl HH18 (Y_fad (off := 1) (r := 1) HH18 rfl (by kernel_rfl) rfl rfl) (fun aa19 HH19 => ?_)
    clear HH18
    refine LG_val (HH19.want rfl rfl rfl) rfl rfl HH19 (Y_load HH19 rfl (by kernel_rfl) rfl (SS2.cell 1)) (fun aa20 HH20 => ?_)
    clear HH19
    refine LG_val (HH20.want rfl rfl rfl) rfl rfl HH20 (Y_yes (Y_geq HH20 rfl rfl rfl) (by omega)) (fun aa21 HH21 => ?_)
    clear HH20
    refine LG_val (want0 rfl) rfl rfl HH21 (Y_pickF HH21 rfl rfl rfl) (fun aa22 HH22 => ?_)
    clear HH21
    refine L_end (t_norm (hKK5 _ _ ?_))
    refine c_yes HH22 rfl ?_
    refine wp_seq_k fun KK23 hKK23 => ?_
    refine wp_region_lit ?_
    refine LG_val (want0 rfl) rfl rfl HH22 (Y_asg HH22 rfl rfl) (fun aa24 HH24 => ?_)
    clear HH22
    refine L_end (t_norm (hKK23 _ _ ?_))
    refine wp_ret (t_ret (ret1 rfl HH24 rfl ?_))
    exact ⟨rfl, SS2.tail⟩

set_option maxRecDepth 100000 in
theorem words_in {w : World} {l : List HProp} (c : Cfg) (hc : c.small) (v0 : Value) (l0 : Nat) (hl : l0 < c.lines) (hv0 : ∀ w', Sat w' l → RdI w' v0 c.init) (S : Sat w l) : Calls Try.prog 43 #[c.val v0, VI l0] w fun e w' => ∃ v', e = .returned v' ∧ Sat w' (Ints v' (cwords c l0) :: l) := by
  obtain ⟨pa, pc, rfl, _, _⟩ := (hv0 _ S).val
  have hv := hv0
  have hi := hc.init
  refine enter (n := 33) Try.func43 rfl [(0, c.val (.slice pa c.init.length pc)), (1, VI (l0 : Int))] rfl rfl fun aa0 HH0 => ?_
  refine wp_seq_k fun KK1 hKK1 => ?_
  refine wp_region_lit ?_
  refine LG_do (want0 rfl) rfl rfl HH0 (M_box HH0 rfl rfl rfl S) ?_
  rintro _ ww2 ⟨b2, rfl, SS2, _⟩ aa2 HH2
  clear HH0
  clear S
  refine LG_val (want0 rfl) rfl rfl HH2 (Y_asg HH2 rfl rfl) (fun aa3 HH3 => ?_)
  clear HH2
  refine L_end (t_norm (hKK1 _ _ ?_))
  refine wp_seq_k fun KK4 hKK4 => ?_
  refine wp_seq_k fun KK5 hKK5 => ?_
  refine wp_region_lit ?_
  refine LG_val (want0 rfl) rfl rfl HH3 (Y_mov HH3 rfl rfl) (fun aa6 HH6 => ?_)
  clear HH3
  refine LG_val (want0 rfl) rfl rfl HH6 (Y_no (Y_lss HH6 rfl rfl rfl) (by omega)) (fun aa7 HH7 => ?_)
  clear HH6
  refine LG_val (want0 rfl) rfl rfl HH7 (Y_mov HH7 rfl rfl) (fun aa8 HH8 => ?_)
  clear HH7
  refine LG_val (HH8.want rfl rfl rfl) rfl rfl HH8 (Y_mov HH8 rfl rfl) (fun aa9 HH9 => ?_)
  clear HH8
  refine LG_val (HH9.want rfl rfl rfl) rfl rfl HH9 (Y_fad (off := 1) (r := 1) HH9 rfl (by kernel_rfl) rfl rfl) (fun aa10 HH10 => ?_)
  clear HH9
  refine LG_val (HH10.want rfl rfl rfl) rfl rfl HH10 (Y_load HH10 rfl (by kernel_rfl) rfl (SS2.cell 1)) (fun aa11 HH11 => ?_)
  clear HH10
  refine LG_val (HH11.want rfl rfl rfl) rfl rfl HH11 (Y_no (Y_geq HH11 rfl rfl rfl) (by omega)) (fun aa12 HH12 => ?_)
  clear HH11
  refine LG_val (want0 rfl) rfl rfl HH12 (Y_pickF HH12 rfl rfl rfl) (fun aa13 HH13 => ?_)
  clear HH12
  refine L_end (t_norm (hKK5 _ _ ?_))
  refine c_no HH13 rfl ?_
  refine wp_skip (t_norm (hKK4 _ _ ?_))
  refine wp_seq_k fun KK14 hKK14 => ?_
  refine wp_region_lit ?_
  refine LG_val (want0 rfl) rfl rfl HH13 (Y_fad (off := 2) (r := 2) HH13 rfl (by kernel_rfl) rfl rfl) (fun aa15 HH15 => ?_)
  clear HH13
  refine LG_val (want0 rfl) rfl rfl HH15 (Y_load HH15 rfl (by kernel_rfl) rfl (SS2.cell 2)) (fun aa16 HH16 => ?_)
  clear HH15
  refine LG_do (want0 rfl) rfl rfl HH16 (M_make (zv := VI 0) HH16 rfl ty_ints (by kernel_rfl) rfl rfl (by have := hc.w1; omega) SS2) ?_
  rintro _ ww17 ⟨b5, rfl, SS17⟩ aa17 HH17
  clear HH16
  clear SS2
  refine LG_val (want0 rfl) rfl rfl HH17 (Y_asg HH17 rfl rfl) (fun aa18 HH18 => ?_)
  clear HH17
  refine L_end (t_norm (hKK14 _ _ ?_))
  refine wp_seq_k fun KK19 hKK19 => ?_
  refine wp_region_lit ?_
  refine LG_val (want0 rfl) rfl rfl HH18 (Y_mov HH18 rfl rfl) (fun aa20 HH20 => ?_)
  clear HH18
  refine LG_val (want0 rfl) rfl rfl HH20 (Y_fad (off := 2) (r := 2) HH20 rfl (by kernel_rfl) rfl rfl) (fun aa21 HH21 => ?_)
  clear HH20
  refine LG_val (want0 rfl) rfl rfl HH21 (Y_load HH21 rfl (by kernel_rfl) rfl (SS17.p1.cell 2)) (fun aa22 HH22 => ?_)
  clear HH21
  refine LG_val (want0 rfl) rfl rfl HH22 (Y_mul (r := ((l0 * c.words : Nat) : Int)) HH22 rfl rfl rfl (mul_wrap _ _ (by have := hc.mul (l := l0) (by have := hc.l1; omega); omega))) (fun aa23 HH23 => ?_)
  clear HH22
  refine LG_val (want0 rfl) rfl rfl HH23 (Y_fad (off := 7) (r := 7) HH23 rfl (by kernel_rfl) rfl rfl) (fun aa24 HH24 => ?_)
  clear HH23
  refine LG_val (want0 rfl) rfl rfl HH24 (Y_load HH24 rfl (by kernel_rfl) rfl (SS17.p1.cell 7)) (fun aa25 HH25 => ?_)
  clear HH24
  refine LG_val (want0 rfl) rfl rfl HH25 (Y_lenS HH25 rfl (by kernel_rfl) rfl) (fun aa26 HH26 => ?_)
  clear HH25
  refine LG_val (want0 rfl) rfl rfl HH26 (Y_min (r := ((min (l0 * c.words) c.init.length : Nat) : Int)) HH26 rfl rfl rfl (by omega)) (fun aa27 HH27 => ?_)
  clear HH26
  refine LG_val (want0 rfl) rfl rfl HH27 (Y_asg HH27 rfl rfl) (fun aa28 HH28 => ?_)
  clear HH27
  refine L_end (t_norm (hKK19 _ _ ?_))
  refine wp_seq_k fun KK29 hKK29 => ?_
  refine wp_region_lit ?_
  refine LG_val (want0 rfl) rfl rfl HH28 (Y_mov HH28 rfl rfl) (fun aa30 HH30 => ?_)
  clear HH28
  refine LG_val (want0 rfl) rfl rfl HH30 (Y_fad (off := 7) (r := 7) HH30 rfl (by kernel_rfl) rfl rfl) (fun aa31 HH31 => ?_)
  clear HH30
  refine LG_val (want0 rfl) rfl rfl HH31 (Y_load HH31 rfl (by kernel_rfl) rfl (SS17.p1.cell 7)) (fun aa32 HH32 => ?_)
  clear HH31
  refine LG_val (want0 rfl) rfl rfl HH32 (Y_mov HH32 rfl rfl) (fun aa33 HH33 => ?_)
  clear HH32
  refine LG_val (want0 rfl) rfl rfl HH33 (Y_sliceFrom (lo := (min (l0 * c.words) c.init.length)) HH33 rfl ty_ints rfl rfl (by omega)) (fun aa34 HH34 => ?_)
  clear HH33
  refine LG_do (want0 rfl) rfl rfl HH34 (M_copy HH34 rfl ty_ints rfl rfl SS17 (RdI.behind (hv _ SS17.p1.tail.tail) rfl (by omega)) (fun q hq => one_ints _ q (List.mem_of_mem_drop hq))) ?_
  rintro _ ww35 ⟨rfl, SS35⟩ aa35 HH35
  clear HH34
  clear SS17
  refine L_end (t_norm (hKK29 _ _ ?_))
  refine wp_seq_k fun KK36 hKK36 => ?_
  refine wp_region_lit ?_
  refine LG_val (want0 rfl) rfl rfl HH35 (Y_mov HH35 rfl rfl) (fun aa37 HH37 => ?_)
  clear HH35
  refine LG_val (want0 rfl) rfl rfl HH37 (Y_asg HH37 rfl rfl) (fun aa38 HH38 => ?_)
  clear HH37
  refine L_end (t_norm (hKK36 _ _ ?_))
  refine wp_ret (ret1 rfl HH38 rfl ?_)
  have S0 := SS35.p1.tail
  rw [show (VI 0).cells.toList = [VI 0] from rfl, words_eq] at S0
  refine ⟨_, rfl, ?_⟩
  have e : c.words = (cwords c l0).length := (cwords_len c l0).symm
  unfold Ints
  rw [← e]
  exact S0

set_option maxRecDepth 100000 in
theorem cut_ok {w : World} {l : List HProp} {v : Value} {xs : List Int} (hr : RdI w v xs) (k : Nat) (hb : xs.length * 8 ≤ 140737488355328) (S : Sat w l) : Calls Try.prog 51 #[v, VI k] w fun e w' => ∃ v', e = .returned v' ∧ Sat w' (Ints v' (xs.take k) :: l) := by
  obtain ⟨pa, pc, rfl, hle, _⟩ := hr.val
  refine enter (n := 12) Try.func51 rfl [(0, .slice pa xs.length pc), (1, VI k)] rfl rfl fun aa0 HH0 => ?_
  refine wp_seq_k fun KK1 hKK1 => ?_
  refine wp_region_lit ?_
  refine LG_val (want0 rfl) rfl rfl HH0 (Y_asg HH0 rfl rfl) (fun aa2 HH2 => ?_)
  clear HH0
  refine L_end (t_norm (hKK1 _ _ ?_))
  refine wp_seq_k fun KK3 hKK3 => ?_
  refine wp_region_lit ?_
  refine LG_val (want0 rfl) rfl rfl HH2 (Y_mov HH2 rfl rfl) (fun aa4 HH4 => ?_)
  clear HH2
  refine LG_val (want0 rfl) rfl rfl HH4 (Y_mov HH4 rfl rfl) (fun aa5 HH5 => ?_)
  clear HH4
  refine LG_val (want0 rfl) rfl rfl HH5 (Y_lenS HH5 rfl (by kernel_rfl) rfl) (fun aa6 HH6 => ?_)
  clear HH5
  refine LG_val (want0 rfl) rfl rfl HH6 (Y_mov HH6 rfl rfl) (fun aa7 HH7 => ?_)
  clear HH6
  refine LG_val (want0 rfl) rfl rfl HH7 (Y_min (r := ((min xs.length k : Nat) : Int)) HH7 rfl rfl rfl (by omega)) (fun aa8 HH8 => ?_)
  clear HH7
  refine LG_val (want0 rfl) rfl rfl HH8 (Y_sliceTo (hi := (min xs.length k)) HH8 rfl ty_ints rfl rfl (by omega)) (fun aa9 HH9 => ?_)
  clear HH8
  refine LG_call (want0 rfl) rfl rfl rfl Try.func19 (by kernel_rfl) rfl HH9 (copy_ok (RdI.upto hr rfl (by omega)) (by rw [List.length_take]; omega) S) rfl ?_
  rintro e ww10 ⟨v0, rfl, SS10, _⟩
  refine ⟨_, rfl, fun aa10 HH10 => ?_⟩
  clear HH9
  clear S
  refine LG_val (want0 rfl) rfl rfl HH10 (Y_asg HH10 rfl rfl) (fun aa11 HH11 => ?_)
  clear HH10
  refine L_end (t_norm (hKK3 _ _ ?_))
  refine wp_ret (ret1 rfl HH11 rfl ?_)
  have e : xs.take (min xs.length k) = xs.take k := by rw [List.take_eq_take_iff]; omega
  rw [e] at SS10
  exact ⟨_, rfl, SS10⟩

set_option maxRecDepth 100000 in
theorem config_ok {w : World} {l : List HProp} (s : Stp) (v1 v2 v3 v4 v5 : Value) (hv : ∀ w', Sat w' l → RdI w' v1 s.init) (hb : s.init.length * 8 ≤ 140737488355328) (S : Sat w l) : Calls Try.prog 12 #[s.val v1 v2 v3 v4 v5] w fun e w' => ∃ v', e = .returned ((cfgOf s).val v') ∧ Sat w' (Ints v' (cfgOf s).init :: l) := by
  refine enter (n := 43) Try.func12 rfl [(0, s.val v1 v2 v3 v4 v5)] rfl rfl fun aa0 HH0 => ?_
  refine wp_seq_k fun KK1 hKK1 => ?_
  refine wp_region_lit ?_
  refine LG_do (want0 rfl) rfl rfl HH0 (M_box HH0 rfl rfl rfl S) ?_
  rintro _ ww2 ⟨b1, rfl, SS2, _⟩ aa2 HH2
  clear HH0
  clear S
  refine LG_do (want0 rfl) rfl rfl HH2 (M_alloc HH2 rfl st_api_Config.zero SS2) ?_
  rintro _ ww3 ⟨b2, rfl, SS3, _⟩ aa3 HH3
  clear HH2
  clear SS2
  refine L_end (t_norm (hKK1 _ _ ?_))
  refine c_cut (fun a wx => ∃ b1 b2 b3, Fr a 43 [(1, VPt b1 0), (2, VPt b2 0), (3, VPt b3 0)] ∧ Sat wx (cel b1 24 (s.cells v1 v2 v3 v4 v5) :: cel b2 26 (Cfg.cells ⟨0, 0, 0, 0, 0, 0, 0, []⟩ VNil) :: cel b3 26 ((⟨(cfgOf s).nodes, (cfgOf s).lines, (cfgOf s).words, (cfgOf s).sets, (cfgOf s).ways, (cfgOf s).out, (cfgOf s).in_, []⟩ : Cfg).cells VNil) :: l)) ?_ ?_
  ·
    -- region 1, drawn
    refine N_begin (fun w' => Sat w' _) (.val 0 (.val 1 (.val 4 (.val 5 (.val 8 (.val 9 (.val 12 (.val 13 (.val 16 (.val 17 (.val 20 (.val 21 (.val 24 (.val 25 (.two 2 29 (.val 3 (.two 6 29 (.val 7 (.two 10 29 (.val 11 (.two 14 29 (.val 15 (.two 18 29 (.val 19 (.two 22 29 (.val 23 (.two 26 29 (.val 27 (.val 28 (.one 29 (.one 30 .fin)))) (.one 26 (.val 27 (.val 28 (.one 30 .fin)))))) (.one 22 (.val 23 (.one 26 (.val 27 (.val 28 (.one 30 .fin)))))))) (.one 18 (.val 19 (.one 22 (.val 23 (.one 26 (.val 27 (.val 28 (.one 30 .fin)))))))))) (.one 14 (.val 15 (.one 18 (.val 19 (.one 22 (.val 23 (.one 26 (.val 27 (.val 28 (.one 30 .fin)))))))))))) (.one 10 (.val 11 (.one 14 (.val 15 (.one 18 (.val 19 (.one 22 (.val 23 (.one 26 (.val 27 (.val 28 (.one 30 .fin)))))))))))))) (.one 6 (.val 7 (.one 10 (.val 11 (.one 14 (.val 15 (.one 18 (.val 19 (.one 22 (.val 23 (.one 26 (.val 27 (.val 28 (.one 30 .fin)))))))))))))))) (.one 2 (.val 3 (.one 6 (.val 7 (.one 10 (.val 11 (.one 14 (.val 15 (.one 18 (.val 19 (.one 22 (.val 23 (.one 26 (.val 27 (.val 28 (.one 30 .fin))))))))))))))))))))))))))))))) (by kernel_rfl) (by kernel_rfl) (by kernel_rfl) (by kernel_rfl) (fun _ _ _ _ _ h => h) (SS3.drew) (fun ww4 SS4 _ => ?_)
    clear SS3
    refine N_val rfl (want0 rfl) rfl rfl HH3 (fun ww4 SS4 => Y_fad (off := 0) (r := 0) HH3 rfl (by kernel_rfl) rfl rfl) (fun aa5 HH5 => ?_)
    clear HH3
    refine N_val rfl (want0 rfl) rfl rfl HH5 (fun ww4 SS4 => Y_load HH5 rfl (by kernel_rfl) rfl (SS4.p1.cell 0)) (fun aa6 HH6 => ?_)
    clear HH5
    refine N_val rfl (want0 rfl) rfl rfl HH6 (fun ww4 SS4 => Y_fad (off := 1) (r := 1) HH6 rfl (by kernel_rfl) rfl rfl) (fun aa7 HH7 => ?_)
    clear HH6
    refine N_val rfl (want0 rfl) rfl rfl HH7 (fun ww4 SS4 => Y_load HH7 rfl (by kernel_rfl) rfl (SS4.p1.cell 1)) (fun aa8 HH8 => ?_)
    clear HH7
    refine N_val rfl (want0 rfl) rfl rfl HH8 (fun ww4 SS4 => Y_fad (off := 2) (r := 2) HH8 rfl (by kernel_rfl) rfl rfl) (fun aa9 HH9 => ?_)
    clear HH8
    refine N_val rfl (want0 rfl) rfl rfl HH9 (fun ww4 SS4 => Y_load HH9 rfl (by kernel_rfl) rfl (SS4.p1.cell 2)) (fun aa10 HH10 => ?_)
    clear HH9
    refine N_val rfl (want0 rfl) rfl rfl HH10 (fun ww4 SS4 => Y_fad (off := 3) (r := 3) HH10 rfl (by kernel_rfl) rfl rfl) (fun aa11 HH11 => ?_)
    clear HH10
    refine N_val rfl (want0 rfl) rfl rfl HH11 (fun ww4 SS4 => Y_load HH11 rfl (by kernel_rfl) rfl (SS4.p1.cell 3)) (fun aa12 HH12 => ?_)
    clear HH11
    refine N_val rfl (want0 rfl) rfl rfl HH12 (fun ww4 SS4 => Y_fad (off := 4) (r := 4) HH12 rfl (by kernel_rfl) rfl rfl) (fun aa13 HH13 => ?_)
    clear HH12
    refine N_val rfl (want0 rfl) rfl rfl HH13 (fun ww4 SS4 => Y_load HH13 rfl (by kernel_rfl) rfl (SS4.p1.cell 4)) (fun aa14 HH14 => ?_)
    clear HH13
    refine N_val rfl (want0 rfl) rfl rfl HH14 (fun ww4 SS4 => Y_fad (off := 5) (r := 5) HH14 rfl (by kernel_rfl) rfl rfl) (fun aa15 HH15 => ?_)
    clear HH14
    refine N_val rfl (want0 rfl) rfl rfl HH15 (fun ww4 SS4 => Y_load HH15 rfl (by kernel_rfl) rfl (SS4.p1.cell 5)) (fun aa16 HH16 => ?_)
    clear HH15
    refine N_val rfl (want0 rfl) rfl rfl HH16 (fun ww4 SS4 => Y_fad (off := 6) (r := 6) HH16 rfl (by kernel_rfl) rfl rfl) (fun aa17 HH17 => ?_)
    clear HH16
    refine N_val rfl (want0 rfl) rfl rfl HH17 (fun ww4 SS4 => Y_load HH17 rfl (by kernel_rfl) rfl (SS4.p1.cell 6)) (fun aa18 HH18 => ?_)
    clear HH17
    refine N_two ?_ ?_
    ·
      refine N_call rfl (want0 rfl) rfl rfl rfl Try.func17 (by kernel_rfl) rfl HH18 (within_ok s.nodes 4 (by omega)) rfl ?_
      rintro e ww19 ⟨rfl, rfl⟩
      refine ⟨_, rfl, SS4.p1.p1, fun aa19 HH19 => ?_⟩
      clear HH18
      refine N_val rfl (want0 rfl) rfl rfl HH19 (fun ww4 SS4 => Y_add (r := ((cfgOf s).nodes : Int)) HH19 rfl rfl rfl (upto_add s.nodes 4 (by omega) (by omega))) (fun aa20 HH20 => ?_)
      clear HH19
      refine N_two ?_ ?_
      ·
        refine N_call rfl (want0 rfl) rfl rfl rfl Try.func17 (by kernel_rfl) rfl HH20 (within_ok s.lines 4 (by omega)) rfl ?_
        rintro e ww21 ⟨rfl, rfl⟩
        refine ⟨_, rfl, SS4.p1.p1, fun aa21 HH21 => ?_⟩
        clear HH20
        refine N_val rfl (want0 rfl) rfl rfl HH21 (fun ww4 SS4 => Y_add (r := ((cfgOf s).lines : Int)) HH21 rfl rfl rfl (upto_add s.lines 4 (by omega) (by omega))) (fun aa22 HH22 => ?_)
        clear HH21
        refine N_two ?_ ?_
        ·
          refine N_call rfl (want0 rfl) rfl rfl rfl Try.func17 (by kernel_rfl) rfl HH22 (within_ok s.words 2 (by omega)) rfl ?_
          rintro e ww23 ⟨rfl, rfl⟩
          refine ⟨_, rfl, SS4.p1.p1, fun aa23 HH23 => ?_⟩
          clear HH22
          refine N_val rfl (want0 rfl) rfl rfl HH23 (fun ww4 SS4 => Y_add (r := ((cfgOf s).words : Int)) HH23 rfl rfl rfl (upto_add s.words 2 (by omega) (by omega))) (fun aa24 HH24 => ?_)
          clear HH23
          refine N_two ?_ ?_
          ·
            refine N_call rfl (want0 rfl) rfl rfl rfl Try.func17 (by kernel_rfl) rfl HH24 (within_ok s.sets 2 (by omega)) rfl ?_
            rintro e ww25 ⟨rfl, rfl⟩
            refine ⟨_, rfl, SS4.p1.p1, fun aa25 HH25 => ?_⟩
            clear HH24
            refine N_val rfl (want0 rfl) rfl rfl HH25 (fun ww4 SS4 => Y_add (r := ((cfgOf s).sets : Int)) HH25 rfl rfl rfl (upto_add s.sets 2 (by omega) (by omega))) (fun aa26 HH26 => ?_)
            clear HH25
            refine N_two ?_ ?_
            ·
              refine N_call rfl (want0 rfl) rfl rfl rfl Try.func17 (by kernel_rfl) rfl HH26 (within_ok s.ways 2 (by omega)) rfl ?_
              rintro e ww27 ⟨rfl, rfl⟩
              refine ⟨_, rfl, SS4.p1.p1, fun aa27 HH27 => ?_⟩
              clear HH26
              refine N_val rfl (want0 rfl) rfl rfl HH27 (fun ww4 SS4 => Y_add (r := ((cfgOf s).ways : Int)) HH27 rfl rfl rfl (upto_add s.ways 2 (by omega) (by omega))) (fun aa28 HH28 => ?_)
              clear HH27
              refine N_two ?_ ?_
              ·
                refine N_call rfl (want0 rfl) rfl rfl rfl Try.func17 (by kernel_rfl) rfl HH28 (within_ok s.out 3 (by omega)) rfl ?_
                rintro e ww29 ⟨rfl, rfl⟩
                refine ⟨_, rfl, SS4.p1.p1, fun aa29 HH29 => ?_⟩
                clear HH28
                refine N_val rfl (want0 rfl) rfl rfl HH29 (fun ww4 SS4 => Y_add (r := ((cfgOf s).out : Int)) HH29 rfl rfl rfl (upto_add s.out 3 (by omega) (by omega))) (fun aa30 HH30 => ?_)
                clear HH29
                refine N_two ?_ ?_
                ·
                  refine N_call rfl (want0 rfl) rfl rfl rfl Try.func17 (by kernel_rfl) rfl HH30 (within_ok s.in_ 3 (by omega)) rfl ?_
                  rintro e ww31 ⟨rfl, rfl⟩
                  refine ⟨_, rfl, SS4.p1.p1, fun aa31 HH31 => ?_⟩
                  clear HH30
                  refine N_val rfl (want0 rfl) rfl rfl HH31 (fun ww4 SS4 => Y_add (r := ((cfgOf s).in_ : Int)) HH31 rfl rfl rfl (upto_add s.in_ 3 (by omega) (by omega))) (fun aa32 HH32 => ?_)
                  clear HH31
                  refine N_val rfl (want0 rfl) rfl rfl HH32 (fun ww4 SS4 => Y_build (cs := (⟨(cfgOf s).nodes, (cfgOf s).lines, (cfgOf s).words, (cfgOf s).sets, (cfgOf s).ways, (cfgOf s).out, (cfgOf s).in_, []⟩ : Cfg).cells VNil) HH32 rfl st_api_Config rfl rfl) (fun aa33 HH33 => ?_)
                  clear HH32
                  refine N_do rfl (want0 rfl) rfl rfl HH33 (M_alloc HH33 rfl st_api_Config.zero SS4) ?_
                  rintro _ ww34 ⟨b3, rfl, SS34, _⟩
                  refine ⟨SS34.p2.p2.p2.tail, fun aa34 HH34 => ?_⟩
                  clear HH33
                  clear SS4
                  refine N_do0 rfl (want0 rfl) rfl HH34 (M_storeS HH34 rfl rfl rfl SS34 st_api_Config.size rfl rfl (one_cfg _ _ _ _)) ?_
                  rintro _ ww35 ⟨SS35, _⟩
                  refine ⟨SS35.p2.p2.p2.tail, fun aa35 HH35 => ?_⟩
                  clear HH34
                  clear SS34
                  refine N_end (t_norm ?_)
                  exact ⟨_, _, _, HH35.sub rfl, SS35.p1.p2⟩
                ·
                  refine N_do rfl (want0 rfl) rfl rfl HH30 (M_alloc HH30 rfl st_api_Config.zero SS4) ?_
                  rintro _ ww36 ⟨b3, rfl, SS36, _⟩
                  refine ⟨SS36.p2.p2.p2.tail, fun aa36 HH36 => ?_⟩
                  clear HH30
                  clear SS4
                  refine N_call rfl (want0 rfl) rfl rfl rfl Try.func17 (by kernel_rfl) rfl HH36 (within_ok s.in_ 3 (by omega)) rfl ?_
                  rintro e ww37 ⟨rfl, rfl⟩
                  refine ⟨_, rfl, SS36.p2.p2.p2.tail, fun aa37 HH37 => ?_⟩
                  clear HH36
                  refine N_val rfl (want0 rfl) rfl rfl HH37 (fun ww36 SS36 => Y_add (r := ((cfgOf s).in_ : Int)) HH37 rfl rfl rfl (upto_add s.in_ 3 (by omega) (by omega))) (fun aa38 HH38 => ?_)
                  clear HH37
                  refine N_val rfl (want0 rfl) rfl rfl HH38 (fun ww36 SS36 => Y_build (cs := (⟨(cfgOf s).nodes, (cfgOf s).lines, (cfgOf s).words, (cfgOf s).sets, (cfgOf s).ways, (cfgOf s).out, (cfgOf s).in_, []⟩ : Cfg).cells VNil) HH38 rfl st_api_Config rfl rfl) (fun aa39 HH39 => ?_)
                  clear HH38
                  refine N_do0 rfl (want0 rfl) rfl HH39 (M_storeS HH39 rfl rfl rfl SS36 st_api_Config.size rfl rfl (one_cfg _ _ _ _)) ?_
                  rintro _ ww40 ⟨SS40, _⟩
                  refine ⟨SS40.p2.p2.p2.tail, fun aa40 HH40 => ?_⟩
                  clear HH39
                  clear SS36
                  refine N_end (t_norm ?_)
                  exact ⟨_, _, _, HH40.sub rfl, SS40.p1.p2⟩
              ·
                refine N_do rfl (want0 rfl) rfl rfl HH28 (M_alloc HH28 rfl st_api_Config.zero SS4) ?_
                rintro _ ww41 ⟨b3, rfl, SS41, _⟩
                refine ⟨SS41.p2.p2.p2.tail, fun aa41 HH41 => ?_⟩
                clear HH28
                clear SS4
                refine N_call rfl (want0 rfl) rfl rfl rfl Try.func17 (by kernel_rfl) rfl HH41 (within_ok s.out 3 (by omega)) rfl ?_
                rintro e ww42 ⟨rfl, rfl⟩
                refine ⟨_, rfl, SS41.p2.p2.p2.tail, fun aa42 HH42 => ?_⟩
                clear HH41
                refine N_val rfl (want0 rfl) rfl rfl HH42 (fun ww41 SS41 => Y_add (r := ((cfgOf s).out : Int)) HH42 rfl rfl rfl (upto_add s.out 3 (by omega) (by omega))) (fun aa43 HH43 => ?_)
                clear HH42
                refine N_call rfl (want0 rfl) rfl rfl rfl Try.func17 (by kernel_rfl) rfl HH43 (within_ok s.in_ 3 (by omega)) rfl ?_
                rintro e ww44 ⟨rfl, rfl⟩
                refine ⟨_, rfl, SS41.p2.p2.p2.tail, fun aa44 HH44 => ?_⟩
                clear HH43
                refine N_val rfl (want0 rfl) rfl rfl HH44 (fun ww41 SS41 => Y_add (r := ((cfgOf s).in_ : Int)) HH44 rfl rfl rfl (upto_add s.in_ 3 (by omega) (by omega))) (fun aa45 HH45 => ?_)
                clear HH44
                refine N_val rfl (want0 rfl) rfl rfl HH45 (fun ww41 SS41 => Y_build (cs := (⟨(cfgOf s).nodes, (cfgOf s).lines, (cfgOf s).words, (cfgOf s).sets, (cfgOf s).ways, (cfgOf s).out, (cfgOf s).in_, []⟩ : Cfg).cells VNil) HH45 rfl st_api_Config rfl rfl) (fun aa46 HH46 => ?_)
                clear HH45
                refine N_do0 rfl (want0 rfl) rfl HH46 (M_storeS HH46 rfl rfl rfl SS41 st_api_Config.size rfl rfl (one_cfg _ _ _ _)) ?_
                rintro _ ww47 ⟨SS47, _⟩
                refine ⟨SS47.p2.p2.p2.tail, fun aa47 HH47 => ?_⟩
                clear HH46
                clear SS41
                refine N_end (t_norm ?_)
                exact ⟨_, _, _, HH47.sub rfl, SS47.p1.p2⟩
            ·
              refine N_do rfl (want0 rfl) rfl rfl HH26 (M_alloc HH26 rfl st_api_Config.zero SS4) ?_
              rintro _ ww48 ⟨b3, rfl, SS48, _⟩
              refine ⟨SS48.p2.p2.p2.tail, fun aa48 HH48 => ?_⟩
              clear HH26
              clear SS4
              refine N_call rfl (want0 rfl) rfl rfl rfl Try.func17 (by kernel_rfl) rfl HH48 (within_ok s.ways 2 (by omega)) rfl ?_
              rintro e ww49 ⟨rfl, rfl⟩
              refine ⟨_, rfl, SS48.p2.p2.p2.tail, fun aa49 HH49 => ?_⟩
              clear HH48
              refine N_val rfl (want0 rfl) rfl rfl HH49 (fun ww48 SS48 => Y_add (r := ((cfgOf s).ways : Int)) HH49 rfl rfl rfl (upto_add s.ways 2 (by omega) (by omega))) (fun aa50 HH50 => ?_)
              clear HH49
              refine N_call rfl (want0 rfl) rfl rfl rfl Try.func17 (by kernel_rfl) rfl HH50 (within_ok s.out 3 (by omega)) rfl ?_
              rintro e ww51 ⟨rfl, rfl⟩
              refine ⟨_, rfl, SS48.p2.p2.p2.tail, fun aa51 HH51 => ?_⟩
              clear HH50
              refine N_val rfl (want0 rfl) rfl rfl HH51 (fun ww48 SS48 => Y_add (r := ((cfgOf s).out : Int)) HH51 rfl rfl rfl (upto_add s.out 3 (by omega) (by omega))) (fun aa52 HH52 => ?_)
              clear HH51
              refine N_call rfl (want0 rfl) rfl rfl rfl Try.func17 (by kernel_rfl) rfl HH52 (within_ok s.in_ 3 (by omega)) rfl ?_
              rintro e ww53 ⟨rfl, rfl⟩
              refine ⟨_, rfl, SS48.p2.p2.p2.tail, fun aa53 HH53 => ?_⟩
              clear HH52
              refine N_val rfl (want0 rfl) rfl rfl HH53 (fun ww48 SS48 => Y_add (r := ((cfgOf s).in_ : Int)) HH53 rfl rfl rfl (upto_add s.in_ 3 (by omega) (by omega))) (fun aa54 HH54 => ?_)
              clear HH53
              refine N_val rfl (want0 rfl) rfl rfl HH54 (fun ww48 SS48 => Y_build (cs := (⟨(cfgOf s).nodes, (cfgOf s).lines, (cfgOf s).words, (cfgOf s).sets, (cfgOf s).ways, (cfgOf s).out, (cfgOf s).in_, []⟩ : Cfg).cells VNil) HH54 rfl st_api_Config rfl rfl) (fun aa55 HH55 => ?_)
              clear HH54
              refine N_do0 rfl (want0 rfl) rfl HH55 (M_storeS HH55 rfl rfl rfl SS48 st_api_Config.size rfl rfl (one_cfg _ _ _ _)) ?_
              rintro _ ww56 ⟨SS56, _⟩
              refine ⟨SS56.p2.p2.p2.tail, fun aa56 HH56 => ?_⟩
              clear HH55
              clear SS48
              refine N_end (t_norm ?_)
              exact ⟨_, _, _, HH56.sub rfl, SS56.p1.p2⟩
          ·
            refine N_do rfl (want0 rfl) rfl rfl HH24 (M_alloc HH24 rfl st_api_Config.zero SS4) ?_
            rintro _ ww57 ⟨b3, rfl, SS57, _⟩
            refine ⟨SS57.p2.p2.p2.tail, fun aa57 HH57 => ?_⟩
            clear HH24
            clear SS4
            refine N_call rfl (want0 rfl) rfl rfl rfl Try.func17 (by kernel_rfl) rfl HH57 (within_ok s.sets 2 (by omega)) rfl ?_
            rintro e ww58 ⟨rfl, rfl⟩
            refine ⟨_, rfl, SS57.p2.p2.p2.tail, fun aa58 HH58 => ?_⟩
            clear HH57
            refine N_val rfl (want0 rfl) rfl rfl HH58 (fun ww57 SS57 => Y_add (r := ((cfgOf s).sets : Int)) HH58 rfl rfl rfl (upto_add s.sets 2 (by omega) (by omega))) (fun aa59 HH59 => ?_)
            clear HH58
            refine N_call rfl (want0 rfl) rfl rfl rfl Try.func17 (by kernel_rfl) rfl HH59 (within_ok s.ways 2 (by omega)) rfl ?_
            rintro e ww60 ⟨rfl, rfl⟩
            refine ⟨_, rfl, SS57.p2.p2.p2.tail, fun aa60 HH60 => ?_⟩
            clear HH59
            refine N_val rfl (want0 rfl) rfl rfl HH60 (fun ww57 SS57 => Y_add (r := ((cfgOf s).ways : Int)) HH60 rfl rfl rfl (upto_add s.ways 2 (by omega) (by omega))) (fun aa61 HH61 => ?_)
            clear HH60
            refine N_call rfl (want0 rfl) rfl rfl rfl Try.func17 (by kernel_rfl) rfl HH61 (within_ok s.out 3 (by omega)) rfl ?_
            rintro e ww62 ⟨rfl, rfl⟩
            refine ⟨_, rfl, SS57.p2.p2.p2.tail, fun aa62 HH62 => ?_⟩
            clear HH61
            refine N_val rfl (want0 rfl) rfl rfl HH62 (fun ww57 SS57 => Y_add (r := ((cfgOf s).out : Int)) HH62 rfl rfl rfl (upto_add s.out 3 (by omega) (by omega))) (fun aa63 HH63 => ?_)
            clear HH62
            refine N_call rfl (want0 rfl) rfl rfl rfl Try.func17 (by kernel_rfl) rfl HH63 (within_ok s.in_ 3 (by omega)) rfl ?_
            rintro e ww64 ⟨rfl, rfl⟩
            refine ⟨_, rfl, SS57.p2.p2.p2.tail, fun aa64 HH64 => ?_⟩
            clear HH63
            refine N_val rfl (want0 rfl) rfl rfl HH64 (fun ww57 SS57 => Y_add (r := ((cfgOf s).in_ : Int)) HH64 rfl rfl rfl (upto_add s.in_ 3 (by omega) (by omega))) (fun aa65 HH65 => ?_)
            clear HH64
            refine N_val rfl (want0 rfl) rfl rfl HH65 (fun ww57 SS57 => Y_build (cs := (⟨(cfgOf s).nodes, (cfgOf s).lines, (cfgOf s).words, (cfgOf s).sets, (cfgOf s).ways, (cfgOf s).out, (cfgOf s).in_, []⟩ : Cfg).cells VNil) HH65 rfl st_api_Config rfl rfl) (fun aa66 HH66 => ?_)
            clear HH65
            refine N_do0 rfl (want0 rfl) rfl HH66 (M_storeS HH66 rfl rfl rfl SS57 st_api_Config.size rfl rfl (one_cfg _ _ _ _)) ?_
            rintro _ ww67 ⟨SS67, _⟩
            refine ⟨SS67.p2.p2.p2.tail, fun aa67 HH67 => ?_⟩
            clear HH66
            clear SS57
            refine N_end (t_norm ?_)
            exact ⟨_, _, _, HH67.sub rfl, SS67.p1.p2⟩
        ·
          refine N_do rfl (want0 rfl) rfl rfl HH22 (M_alloc HH22 rfl st_api_Config.zero SS4) ?_
          rintro _ ww68 ⟨b3, rfl, SS68, _⟩
          refine ⟨SS68.p2.p2.p2.tail, fun aa68 HH68 => ?_⟩
          clear HH22
          clear SS4
          refine N_call rfl (want0 rfl) rfl rfl rfl Try.func17 (by kernel_rfl) rfl HH68 (within_ok s.words 2 (by omega)) rfl ?_
          rintro e ww69 ⟨rfl, rfl⟩
          refine ⟨_, rfl, SS68.p2.p2.p2.tail, fun aa69 HH69 => ?_⟩
          clear HH68
          refine N_val rfl (want0 rfl) rfl rfl HH69 (fun ww68 SS68 => Y_add (r := ((cfgOf s).words : Int)) HH69 rfl rfl rfl (upto_add s.words 2 (by omega) (by omega))) (fun aa70 HH70 => ?_)
          clear HH69
          refine N_call rfl (want0 rfl) rfl rfl rfl Try.func17 (by kernel_rfl) rfl HH70 (within_ok s.sets 2 (by omega)) rfl ?_
          rintro e ww71 ⟨rfl, rfl⟩
          refine ⟨_, rfl, SS68.p2.p2.p2.tail, fun aa71 HH71 => ?_⟩
          clear HH70
          refine N_val rfl (want0 rfl) rfl rfl HH71 (fun ww68 SS68 => Y_add (r := ((cfgOf s).sets : Int)) HH71 rfl rfl rfl (upto_add s.sets 2 (by omega) (by omega))) (fun aa72 HH72 => ?_)
          clear HH71
          refine N_call rfl (want0 rfl) rfl rfl rfl Try.func17 (by kernel_rfl) rfl HH72 (within_ok s.ways 2 (by omega)) rfl ?_
          rintro e ww73 ⟨rfl, rfl⟩
          refine ⟨_, rfl, SS68.p2.p2.p2.tail, fun aa73 HH73 => ?_⟩
          clear HH72
          refine N_val rfl (want0 rfl) rfl rfl HH73 (fun ww68 SS68 => Y_add (r := ((cfgOf s).ways : Int)) HH73 rfl rfl rfl (upto_add s.ways 2 (by omega) (by omega))) (fun aa74 HH74 => ?_)
          clear HH73
          refine N_call rfl (want0 rfl) rfl rfl rfl Try.func17 (by kernel_rfl) rfl HH74 (within_ok s.out 3 (by omega)) rfl ?_
          rintro e ww75 ⟨rfl, rfl⟩
          refine ⟨_, rfl, SS68.p2.p2.p2.tail, fun aa75 HH75 => ?_⟩
          clear HH74
          refine N_val rfl (want0 rfl) rfl rfl HH75 (fun ww68 SS68 => Y_add (r := ((cfgOf s).out : Int)) HH75 rfl rfl rfl (upto_add s.out 3 (by omega) (by omega))) (fun aa76 HH76 => ?_)
          clear HH75
          refine N_call rfl (want0 rfl) rfl rfl rfl Try.func17 (by kernel_rfl) rfl HH76 (within_ok s.in_ 3 (by omega)) rfl ?_
          rintro e ww77 ⟨rfl, rfl⟩
          refine ⟨_, rfl, SS68.p2.p2.p2.tail, fun aa77 HH77 => ?_⟩
          clear HH76
          refine N_val rfl (want0 rfl) rfl rfl HH77 (fun ww68 SS68 => Y_add (r := ((cfgOf s).in_ : Int)) HH77 rfl rfl rfl (upto_add s.in_ 3 (by omega) (by omega))) (fun aa78 HH78 => ?_)
          clear HH77
          refine N_val rfl (want0 rfl) rfl rfl HH78 (fun ww68 SS68 => Y_build (cs := (⟨(cfgOf s).nodes, (cfgOf s).lines, (cfgOf s).words, (cfgOf s).sets, (cfgOf s).ways, (cfgOf s).out, (cfgOf s).in_, []⟩ : Cfg).cells VNil) HH78 rfl st_api_Config rfl rfl) (fun aa79 HH79 => ?_)
          clear HH78
          refine N_do0 rfl (want0 rfl) rfl HH79 (M_storeS HH79 rfl rfl rfl SS68 st_api_Config.size rfl rfl (one_cfg _ _ _ _)) ?_
          rintro _ ww80 ⟨SS80, _⟩
          refine ⟨SS80.p2.p2.p2.tail, fun aa80 HH80 => ?_⟩
          clear HH79
          clear SS68
          refine N_end (t_norm ?_)
          exact ⟨_, _, _, HH80.sub rfl, SS80.p1.p2⟩
      ·
        refine N_do rfl (want0 rfl) rfl rfl HH20 (M_alloc HH20 rfl st_api_Config.zero SS4) ?_
        rintro _ ww81 ⟨b3, rfl, SS81, _⟩
        refine ⟨SS81.p2.p2.p2.tail, fun aa81 HH81 => ?_⟩
        clear HH20
        clear SS4
        refine N_call rfl (want0 rfl) rfl rfl rfl Try.func17 (by kernel_rfl) rfl HH81 (within_ok s.lines 4 (by omega)) rfl ?_
        rintro e ww82 ⟨rfl, rfl⟩
        refine ⟨_, rfl, SS81.p2.p2.p2.tail, fun aa82 HH82 => ?_⟩
        clear HH81
        refine N_val rfl (want0 rfl) rfl rfl HH82 (fun ww81 SS81 => Y_add (r := ((cfgOf s).lines : Int)) HH82 rfl rfl rfl (upto_add s.lines 4 (by omega) (by omega))) (fun aa83 HH83 => ?_)
        clear HH82
        refine N_call rfl (want0 rfl) rfl rfl rfl Try.func17 (by kernel_rfl) rfl HH83 (within_ok s.words 2 (by omega)) rfl ?_
        rintro e ww84 ⟨rfl, rfl⟩
        refine ⟨_, rfl, SS81.p2.p2.p2.tail, fun aa84 HH84 => ?_⟩
        clear HH83
        refine N_val rfl (want0 rfl) rfl rfl HH84 (fun ww81 SS81 => Y_add (r := ((cfgOf s).words : Int)) HH84 rfl rfl rfl (upto_add s.words 2 (by omega) (by omega))) (fun aa85 HH85 => ?_)
        clear HH84
        refine N_call rfl (want0 rfl) rfl rfl rfl Try.func17 (by kernel_rfl) rfl HH85 (within_ok s.sets 2 (by omega)) rfl ?_
        rintro e ww86 ⟨rfl, rfl⟩
        refine ⟨_, rfl, SS81.p2.p2.p2.tail, fun aa86 HH86 => ?_⟩
        clear HH85
        refine N_val rfl (want0 rfl) rfl rfl HH86 (fun ww81 SS81 => Y_add (r := ((cfgOf s).sets : Int)) HH86 rfl rfl rfl (upto_add s.sets 2 (by omega) (by omega))) (fun aa87 HH87 => ?_)
        clear HH86
        refine N_call rfl (want0 rfl) rfl rfl rfl Try.func17 (by kernel_rfl) rfl HH87 (within_ok s.ways 2 (by omega)) rfl ?_
        rintro e ww88 ⟨rfl, rfl⟩
        refine ⟨_, rfl, SS81.p2.p2.p2.tail, fun aa88 HH88 => ?_⟩
        clear HH87
        refine N_val rfl (want0 rfl) rfl rfl HH88 (fun ww81 SS81 => Y_add (r := ((cfgOf s).ways : Int)) HH88 rfl rfl rfl (upto_add s.ways 2 (by omega) (by omega))) (fun aa89 HH89 => ?_)
        clear HH88
        refine N_call rfl (want0 rfl) rfl rfl rfl Try.func17 (by kernel_rfl) rfl HH89 (within_ok s.out 3 (by omega)) rfl ?_
        rintro e ww90 ⟨rfl, rfl⟩
        refine ⟨_, rfl, SS81.p2.p2.p2.tail, fun aa90 HH90 => ?_⟩
        clear HH89
        refine N_val rfl (want0 rfl) rfl rfl HH90 (fun ww81 SS81 => Y_add (r := ((cfgOf s).out : Int)) HH90 rfl rfl rfl (upto_add s.out 3 (by omega) (by omega))) (fun aa91 HH91 => ?_)
        clear HH90
        refine N_call rfl (want0 rfl) rfl rfl rfl Try.func17 (by kernel_rfl) rfl HH91 (within_ok s.in_ 3 (by omega)) rfl ?_
        rintro e ww92 ⟨rfl, rfl⟩
        refine ⟨_, rfl, SS81.p2.p2.p2.tail, fun aa92 HH92 => ?_⟩
        clear HH91
        refine N_val rfl (want0 rfl) rfl rfl HH92 (fun ww81 SS81 => Y_add (r := ((cfgOf s).in_ : Int)) HH92 rfl rfl rfl (upto_add s.in_ 3 (by omega) (by omega))) (fun aa93 HH93 => ?_)
        clear HH92
        refine N_val rfl (want0 rfl) rfl rfl HH93 (fun ww81 SS81 => Y_build (cs := (⟨(cfgOf s).nodes, (cfgOf s).lines, (cfgOf s).words, (cfgOf s).sets, (cfgOf s).ways, (cfgOf s).out, (cfgOf s).in_, []⟩ : Cfg).cells VNil) HH93 rfl st_api_Config rfl rfl) (fun aa94 HH94 => ?_)
        clear HH93
        refine N_do0 rfl (want0 rfl) rfl HH94 (M_storeS HH94 rfl rfl rfl SS81 st_api_Config.size rfl rfl (one_cfg _ _ _ _)) ?_
        rintro _ ww95 ⟨SS95, _⟩
        refine ⟨SS95.p2.p2.p2.tail, fun aa95 HH95 => ?_⟩
        clear HH94
        clear SS81
        refine N_end (t_norm ?_)
        exact ⟨_, _, _, HH95.sub rfl, SS95.p1.p2⟩
    ·
      refine N_do rfl (want0 rfl) rfl rfl HH18 (M_alloc HH18 rfl st_api_Config.zero SS4) ?_
      rintro _ ww96 ⟨b3, rfl, SS96, _⟩
      refine ⟨SS96.p2.p2.p2.tail, fun aa96 HH96 => ?_⟩
      clear HH18
      clear SS4
      refine N_call rfl (want0 rfl) rfl rfl rfl Try.func17 (by kernel_rfl) rfl HH96 (within_ok s.nodes 4 (by omega)) rfl ?_
      rintro e ww97 ⟨rfl, rfl⟩
      refine ⟨_, rfl, SS96.p2.p2.p2.tail, fun aa97 HH97 => ?_⟩
      clear HH96
      refine N_val rfl (want0 rfl) rfl rfl HH97 (fun ww96 SS96 => Y_add (r := ((cfgOf s).nodes : Int)) HH97 rfl rfl rfl (upto_add s.nodes 4 (by omega) (by omega))) (fun aa98 HH98 => ?_)
      clear HH97
      refine N_call rfl (want0 rfl) rfl rfl rfl Try.func17 (by kernel_rfl) rfl HH98 (within_ok s.lines 4 (by omega)) rfl ?_
      rintro e ww99 ⟨rfl, rfl⟩
      refine ⟨_, rfl, SS96.p2.p2.p2.tail, fun aa99 HH99 => ?_⟩
      clear HH98
      refine N_val rfl (want0 rfl) rfl rfl HH99 (fun ww96 SS96 => Y_add (r := ((cfgOf s).lines : Int)) HH99 rfl rfl rfl (upto_add s.lines 4 (by omega) (by omega))) (fun aa100 HH100 => ?_)
      clear HH99
      refine N_call rfl (want0 rfl) rfl rfl rfl Try.func17 (by kernel_rfl) rfl HH100 (within_ok s.words 2 (by omega)) rfl ?_
      rintro e ww101 ⟨rfl, rfl⟩
      refine ⟨_, rfl, SS96.p2.p2.p2.tail, fun aa101 HH101 => ?_⟩
      clear HH100
      refine N_val rfl (want0 rfl) rfl rfl HH101 (fun ww96 SS96 => Y_add (r := ((cfgOf s).words : Int)) HH101 rfl rfl rfl (upto_add s.words 2 (by omega) (by omega))) (fun aa102 HH102 => ?_)
      clear HH101
      refine N_call rfl (want0 rfl) rfl rfl rfl Try.func17 (by kernel_rfl) rfl HH102 (within_ok s.sets 2 (by omega)) rfl ?_
      rintro e ww103 ⟨rfl, rfl⟩
      refine ⟨_, rfl, SS96.p2.p2.p2.tail, fun aa103 HH103 => ?_⟩
      clear HH102
      refine N_val rfl (want0 rfl) rfl rfl HH103 (fun ww96 SS96 => Y_add (r := ((cfgOf s).sets : Int)) HH103 rfl rfl rfl (upto_add s.sets 2 (by omega) (by omega))) (fun aa104 HH104 => ?_)
      clear HH103
      refine N_call rfl (want0 rfl) rfl rfl rfl Try.func17 (by kernel_rfl) rfl HH104 (within_ok s.ways 2 (by omega)) rfl ?_
      rintro e ww105 ⟨rfl, rfl⟩
      refine ⟨_, rfl, SS96.p2.p2.p2.tail, fun aa105 HH105 => ?_⟩
      clear HH104
      refine N_val rfl (want0 rfl) rfl rfl HH105 (fun ww96 SS96 => Y_add (r := ((cfgOf s).ways : Int)) HH105 rfl rfl rfl (upto_add s.ways 2 (by omega) (by omega))) (fun aa106 HH106 => ?_)
      clear HH105
      refine N_call rfl (want0 rfl) rfl rfl rfl Try.func17 (by kernel_rfl) rfl HH106 (within_ok s.out 3 (by omega)) rfl ?_
      rintro e ww107 ⟨rfl, rfl⟩
      refine ⟨_, rfl, SS96.p2.p2.p2.tail, fun aa107 HH107 => ?_⟩
      clear HH106
      refine N_val rfl (want0 rfl) rfl rfl HH107 (fun ww96 SS96 => Y_add (r := ((cfgOf s).out : Int)) HH107 rfl rfl rfl (upto_add s.out 3 (by omega) (by omega))) (fun aa108 HH108 => ?_)
      clear HH107
      refine N_call rfl (want0 rfl) rfl rfl rfl Try.func17 (by kernel_rfl) rfl HH108 (within_ok s.in_ 3 (by omega)) rfl ?_
      rintro e ww109 ⟨rfl, rfl⟩
      refine ⟨_, rfl, SS96.p2.p2.p2.tail, fun aa109 HH109 => ?_⟩
      clear HH108
      refine N_val rfl (want0 rfl) rfl rfl HH109 (fun ww96 SS96 => Y_add (r := ((cfgOf s).in_ : Int)) HH109 rfl rfl rfl (upto_add s.in_ 3 (by omega) (by omega))) (fun aa110 HH110 => ?_)
      clear HH109
      refine N_val rfl (want0 rfl) rfl rfl HH110 (fun ww96 SS96 => Y_build (cs := (⟨(cfgOf s).nodes, (cfgOf s).lines, (cfgOf s).words, (cfgOf s).sets, (cfgOf s).ways, (cfgOf s).out, (cfgOf s).in_, []⟩ : Cfg).cells VNil) HH110 rfl st_api_Config rfl rfl) (fun aa111 HH111 => ?_)
      clear HH110
      refine N_do0 rfl (want0 rfl) rfl HH111 (M_storeS HH111 rfl rfl rfl SS96 st_api_Config.size rfl rfl (one_cfg _ _ _ _)) ?_
      rintro _ ww112 ⟨SS112, _⟩
      refine ⟨SS112.p2.p2.p2.tail, fun aa112 HH112 => ?_⟩
      clear HH111
      clear SS96
      refine N_end (t_norm ?_)
      exact ⟨_, _, _, HH112.sub rfl, SS112.p1.p2⟩
  clear HH3
  clear SS3
  rintro aa113 ww113 ⟨b1, b2, b3, HH113, SS113⟩
  refine wp_seq_k fun KK114 hKK114 => ?_
  refine wp_region_lit ?_
  refine LG_val (want0 rfl) rfl rfl HH113 (Y_fad (off := 7) (r := 7) HH113 rfl (by kernel_rfl) rfl rfl) (fun aa115 HH115 => ?_)
  clear HH113
  refine LG_val (want0 rfl) rfl rfl HH115 (Y_load HH115 rfl (by kernel_rfl) rfl (SS113.cell 7)) (fun aa116 HH116 => ?_)
  clear HH115
  refine LG_val (want0 rfl) rfl rfl HH116 (Y_fad (off := 1) (r := 1) HH116 rfl (by kernel_rfl) rfl rfl) (fun aa117 HH117 => ?_)
  clear HH116
  refine LG_val (want0 rfl) rfl rfl HH117 (Y_load HH117 rfl (by kernel_rfl) rfl (SS113.p2.cell 1)) (fun aa118 HH118 => ?_)
  clear HH117
  refine LG_val (want0 rfl) rfl rfl HH118 (Y_fad (off := 2) (r := 2) HH118 rfl (by kernel_rfl) rfl rfl) (fun aa119 HH119 => ?_)
  clear HH118
  refine LG_val (want0 rfl) rfl rfl HH119 (Y_load HH119 rfl (by kernel_rfl) rfl (SS113.p2.cell 2)) (fun aa120 HH120 => ?_)
  clear HH119
  refine LG_val (want0 rfl) rfl rfl HH120 (Y_mul (r := (((cfgOf s).lines * (cfgOf s).words : Nat) : Int)) HH120 rfl rfl rfl (mul_wrap _ _ (Nat.le_trans (cfgOf_small s).lw (by omega)))) (fun aa121 HH121 => ?_)
  clear HH120
  refine LG_call (want0 rfl) rfl rfl rfl Try.func51 (by kernel_rfl) rfl HH121 (cut_ok (hv _ SS113.p2.p2.p2.tail.tail.tail) _ (by omega) SS113) rfl ?_
  rintro e ww122 ⟨v9, rfl, SS122⟩
  obtain ⟨pa, pc, rfl, _, _⟩ := Ints.val SS122
  refine ⟨_, rfl, fun aa122 HH122 => ?_⟩
  clear HH121
  clear SS113
  refine LG_val (want0 rfl) rfl rfl HH122 (Y_fad (off := 7) (r := 7) HH122 rfl (by kernel_rfl) rfl rfl) (fun aa123 HH123 => ?_)
  clear HH122
  refine LG_do0 (want0 rfl) rfl HH123 (M_store HH123 rfl (by kernel_rfl) rfl rfl rfl rfl SS122.p3 rfl rfl) ?_
  rintro _ ww124 ⟨SS124, _⟩ aa124 HH124
  clear HH123
  clear SS122
  refine L_end (t_norm (hKK114 _ _ ?_))
  refine wp_seq_k fun KK125 hKK125 => ?_
  refine wp_region_lit ?_
  refine LG_val (want0 rfl) rfl rfl HH124 (Y_loadS HH124 rfl rfl SS124 st_api_Config.und st_api_Config.size) (fun aa126 HH126 => ?_)
  clear HH124
  refine LG_do0 (want0 rfl) rfl HH126 (M_storeS HH126 rfl rfl rfl SS124.p3 st_api_Config.size rfl rfl (one_cfg (cfgOf s) _ _ _)) ?_
  rintro _ ww127 ⟨SS127, _⟩ aa127 HH127
  clear HH126
  clear SS124
  refine L_end (t_norm (hKK125 _ _ ?_))
  refine wp_ret (retS rfl HH127 rfl SS127 st_api_Config.und st_api_Config.size ?_)
  exact ⟨_, rfl, SS127.p1.p1.p3.p3.p3.tail.p2.tail.p1.tail⟩
end Go.Proofs.Ytaekiecidbhjhaa
