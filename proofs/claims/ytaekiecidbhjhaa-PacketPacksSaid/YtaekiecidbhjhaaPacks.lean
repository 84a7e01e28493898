/- packet and its document: small functions. Printed by wip/specs/pack.py. -/
import Derived.Test.YtaekiecidbhjhaaPackw
namespace Go.Proofs.Ytaekiecidbhjhaa
open Go.RowKit

set_option maxRecDepth 100000 in
theorem below_ok {w : World} (x lo hi : Int) : Calls Try.prog 98 #[VI x, VI lo, VI hi] w fun e w' => e = .returned (VB (decide (lo ≤ x ∧ x < hi))) ∧ w = w' := by
  refine enter (n := 15) Try.func98 rfl [(0, VI x), (1, VI lo), (2, VI hi)] rfl rfl fun aa0 HH0 => ?_
  refine wp_seq_k fun KK1 hKK1 => ?_
  refine wp_region_lit ?_
  refine LG_val (want0 rfl) rfl rfl HH0 (Y_asg HH0 rfl rfl) (fun aa2 HH2 => ?_)
  clear HH0
  refine L_end (t_norm (hKK1 _ _ ?_))
  refine wp_seq_k fun KK3 hKK3 => ?_
  refine wp_region_lit ?_
  refine LG_val (want0 rfl) rfl rfl HH2 (Y_mov HH2 rfl rfl) (fun aa4 HH4 => ?_)
  clear HH2
  refine LG_val (want0 rfl) rfl rfl HH4 (Y_mov HH4 rfl rfl) (fun aa5 HH5 => ?_)
  clear HH4
  by_cases q1 : lo ≤ x
  ·
    refine LG_val (want0 rfl) rfl rfl HH5 (Y_yes (Y_geq HH5 rfl rfl rfl) (q1)) (fun aa6 HH6 => ?_)
    clear HH5
    refine LG_val (want0 rfl) rfl rfl HH6 (Y_mov HH6 rfl rfl) (fun aa7 HH7 => ?_)
    clear HH6
    refine LG_val (HH7.want rfl rfl rfl) rfl rfl HH7 (Y_mov HH7 rfl rfl) (fun aa8 HH8 => ?_)
    clear HH7
    refine LG_val (HH8.want rfl rfl rfl) rfl rfl HH8 (Y_mov HH8 rfl rfl) (fun aa9 HH9 => ?_)
    clear HH8
    by_cases q2 : x < hi
    ·
      refine LG_val (HH9.want rfl rfl rfl) rfl rfl HH9 (Y_yes (Y_lss HH9 rfl rfl rfl) (q2)) (fun aa10 HH10 => ?_)
      clear HH9
      refine LG_val (want0 rfl) rfl rfl HH10 (Y_pickT HH10 rfl rfl rfl) (fun aa11 HH11 => ?_)
      clear HH10
      refine LG_val (want0 rfl) rfl rfl HH11 (Y_asg HH11 rfl rfl) (fun aa12 HH12 => ?_)
      clear HH11
      refine L_end (t_norm (hKK3 _ _ ?_))
      refine wp_ret (ret1 rfl HH12 rfl ?_)
      exact ⟨by rw [decide_eq_true (⟨q1, q2⟩ : lo ≤ x ∧ x < hi)], rfl⟩
    ·
      refine LG_val (HH9.want rfl rfl rfl) rfl rfl HH9 (Y_no (Y_lss HH9 rfl rfl rfl) (q2)) (fun aa13 HH13 => ?_)
      clear HH9
      refine LG_val (want0 rfl) rfl rfl HH13 (Y_pickT HH13 rfl rfl rfl) (fun aa14 HH14 => ?_)
      clear HH13
      refine LG_val (want0 rfl) rfl rfl HH14 (Y_asg HH14 rfl rfl) (fun aa15 HH15 => ?_)
      clear HH14
      refine L_end (t_norm (hKK3 _ _ ?_))
      refine wp_ret (ret1 rfl HH15 rfl ?_)
      exact ⟨by rw [decide_eq_false (fun h : lo ≤ x ∧ x < hi => q2 h.2)], rfl⟩
  ·
    refine LG_val (want0 rfl) rfl rfl HH5 (Y_no (Y_geq HH5 rfl rfl rfl) (q1)) (fun aa16 HH16 => ?_)
    clear HH5
    refine LG_val (want0 rfl) rfl rfl HH16 (Y_mov HH16 rfl rfl) (fun aa17 HH17 => ?_)
    clear HH16
    refine LG_skip (HH17.unwant rfl rfl rfl rfl) rfl rfl HH17 (fun aa18 HH18 => ?_)
    clear HH17
    refine LG_skip (HH18.unwant rfl rfl rfl rfl) rfl rfl HH18 (fun aa19 HH19 => ?_)
    clear HH18
    refine LG_skip (HH19.unwant rfl rfl rfl rfl) rfl rfl HH19 (fun aa20 HH20 => ?_)
    clear HH19
    refine LG_val (want0 rfl) rfl rfl HH20 (Y_pickF HH20 rfl rfl rfl) (fun aa21 HH21 => ?_)
    clear HH20
    refine LG_val (want0 rfl) rfl rfl HH21 (Y_asg HH21 rfl rfl) (fun aa22 HH22 => ?_)
    clear HH21
    refine L_end (t_norm (hKK3 _ _ ?_))
    refine wp_ret (ret1 rfl HH22 rfl ?_)
    exact ⟨by rw [decide_eq_false (fun h : lo ≤ x ∧ x < hi => q1 h.1)], rfl⟩

set_option maxRecDepth 100000 in
theorem flag_t {w : World} : Calls Try.prog 95 #[VB true] w fun e w' => e = .returned (V8 (fbyte true)) ∧ w = w' := by
  refine enter (n := 4) Try.func95 rfl [(0, VB true)] rfl rfl fun aa0 HH0 => ?_
  refine wp_seq_k fun KK1 hKK1 => ?_
  refine wp_region_lit ?_
  refine LG_val (want0 rfl) rfl rfl HH0 (Y_asg HH0 rfl rfl) (fun aa2 HH2 => ?_)
  clear HH0
  refine L_end (t_norm (hKK1 _ _ ?_))
  refine wp_seq_k fun KK3 hKK3 => ?_
  refine wp_seq_k fun KK4 hKK4 => ?_
  refine wp_region_lit ?_
  refine LG_val (want0 rfl) rfl rfl HH2 (Y_mov HH2 rfl rfl) (fun aa5 HH5 => ?_)
  clear HH2
  refine L_end (t_norm (hKK4 _ _ ?_))
  refine c_yes HH5 rfl ?_
  refine wp_seq_k fun KK6 hKK6 => ?_
  refine wp_region_lit ?_
  refine LG_val (want0 rfl) rfl rfl HH5 (Y_asg HH5 rfl rfl) (fun aa7 HH7 => ?_)
  clear HH5
  refine L_end (t_norm (hKK6 _ _ ?_))
  refine wp_ret (t_ret (ret1 rfl HH7 rfl ?_))
  exact ⟨rfl, rfl⟩

set_option maxRecDepth 100000 in
theorem flag_f {w : World} : Calls Try.prog 95 #[VB false] w fun e w' => e = .returned (V8 (fbyte false)) ∧ w = w' := by
  refine enter (n := 4) Try.func95 rfl [(0, VB false)] rfl rfl fun aa0 HH0 => ?_
  refine wp_seq_k fun KK1 hKK1 => ?_
  refine wp_region_lit ?_
  refine LG_val (want0 rfl) rfl rfl HH0 (Y_asg HH0 rfl rfl) (fun aa2 HH2 => ?_)
  clear HH0
  refine L_end (t_norm (hKK1 _ _ ?_))
  refine wp_seq_k fun KK3 hKK3 => ?_
  refine wp_seq_k fun KK4 hKK4 => ?_
  refine wp_region_lit ?_
  refine LG_val (want0 rfl) rfl rfl HH2 (Y_mov HH2 rfl rfl) (fun aa5 HH5 => ?_)
  clear HH2
  refine L_end (t_norm (hKK4 _ _ ?_))
  refine c_no HH5 rfl ?_
  refine wp_skip (t_norm (hKK3 _ _ ?_))
  refine wp_seq_k fun KK6 hKK6 => ?_
  refine wp_region_lit ?_
  refine LG_val (want0 rfl) rfl rfl HH5 (Y_asg HH5 rfl rfl) (fun aa7 HH7 => ?_)
  clear HH5
  refine L_end (t_norm (hKK6 _ _ ?_))
  refine wp_ret (ret1 rfl HH7 rfl ?_)
  exact ⟨rfl, rfl⟩

theorem flag_ok {w : World} (b : Bool) : Calls Try.prog 95 #[VB b] w fun e w' => e = .returned (V8 (fbyte b)) ∧ w = w' := by
  cases b
  · exact flag_f
  · exact flag_t

set_option maxRecDepth 100000 in
theorem check_ok {w : World} {l : List HProp} (p : Pkt) (va : Option Addr) (vc : Nat) (S : Sat w l) : Calls Try.prog 71 #[p.val (.slice va p.data.length vc)] w fun e w' => e = .returned (VI (if p.right then 0 else 1)) ∧ Sat w' l := by
  refine enter (n := 49) Try.func71 rfl [(0, p.val (.slice va p.data.length vc))] rfl rfl fun aa0 HH0 => ?_
  refine wp_seq_k fun KK1 hKK1 => ?_
  refine wp_region_lit ?_
  refine LG_do (want0 rfl) rfl rfl HH0 (M_box HH0 rfl rfl rfl S) ?_
  rintro _ ww2 ⟨b1, rfl, SS2, _⟩ aa2 HH2
  clear HH0
  clear S
  refine LG_val (want0 rfl) rfl rfl HH2 (Y_asg HH2 rfl rfl) (fun aa3 HH3 => ?_)
  clear HH2
  refine L_end (t_norm (hKK1 _ _ ?_))
  refine c_cut (fun a wx => Fr a 49 [(1, VPt b1 0), (3, VB (decide ((0 ≤ p.src ∧ p.src < 6) ∧ (0 ≤ p.dst ∧ p.dst < 6) ∧ (0 ≤ p.id ∧ p.id < 4096))))] ∧ Sat wx (cel b1 43 (p.cells (.slice va p.data.length vc)) :: l)) ?_ ?_
  ·
    refine wp_region_lit ?_
    refine LG_val (want0 rfl) rfl rfl HH3 (Y_fad (off := 1) (r := 1) HH3 rfl (by kernel_rfl) rfl rfl) (fun aa4 HH4 => ?_)
    clear HH3
    refine LG_val (want0 rfl) rfl rfl HH4 (Y_load HH4 rfl (by kernel_rfl) rfl (SS2.cell 1)) (fun aa5 HH5 => ?_)
    clear HH4
    by_cases s1 : 0 ≤ p.src ∧ p.src < 6
    ·
      refine LG_call (want0 rfl) rfl rfl rfl Try.func98 (by kernel_rfl) rfl HH5 (below_ok (p.src) (0) (6)) rfl ?_
      rintro e ww6 ⟨rfl, rfl⟩
      rw [decide_eq_true s1]
      refine ⟨_, rfl, fun aa6 HH6 => ?_⟩
      clear HH5
      refine LG_val (want0 rfl) rfl rfl HH6 (Y_mov HH6 rfl rfl) (fun aa7 HH7 => ?_)
      clear HH6
      refine LG_val (HH7.want rfl rfl rfl) rfl rfl HH7 (Y_fad (off := 2) (r := 2) HH7 rfl (by kernel_rfl) rfl rfl) (fun aa8 HH8 => ?_)
      clear HH7
      refine LG_val (HH8.want rfl rfl rfl) rfl rfl HH8 (Y_load HH8 rfl (by kernel_rfl) rfl (SS2.cell 2)) (fun aa9 HH9 => ?_)
      clear HH8
      by_cases s2 : 0 ≤ p.dst ∧ p.dst < 6
      ·
        refine LG_call (HH9.want rfl rfl rfl) rfl rfl rfl Try.func98 (by kernel_rfl) rfl HH9 (below_ok (p.dst) (0) (6)) rfl ?_
        rintro e ww10 ⟨rfl, rfl⟩
        rw [decide_eq_true s2]
        refine ⟨_, rfl, fun aa10 HH10 => ?_⟩
        clear HH9
        refine LG_val (want0 rfl) rfl rfl HH10 (Y_pickT HH10 rfl rfl rfl) (fun aa11 HH11 => ?_)
        clear HH10
        refine LG_val (want0 rfl) rfl rfl HH11 (Y_mov HH11 rfl rfl) (fun aa12 HH12 => ?_)
        clear HH11
        refine LG_val (HH12.want rfl rfl rfl) rfl rfl HH12 (Y_fad (off := 3) (r := 3) HH12 rfl (by kernel_rfl) rfl rfl) (fun aa13 HH13 => ?_)
        clear HH12
        refine LG_val (HH13.want rfl rfl rfl) rfl rfl HH13 (Y_load HH13 rfl (by kernel_rfl) rfl (SS2.cell 3)) (fun aa14 HH14 => ?_)
        clear HH13
        by_cases s3 : 0 ≤ p.id ∧ p.id < 4096
        ·
          refine LG_call (HH14.want rfl rfl rfl) rfl rfl rfl Try.func98 (by kernel_rfl) rfl HH14 (below_ok (p.id) (0) (4096)) rfl ?_
          rintro e ww15 ⟨rfl, rfl⟩
          rw [decide_eq_true s3]
          refine ⟨_, rfl, fun aa15 HH15 => ?_⟩
          clear HH14
          refine LG_val (want0 rfl) rfl rfl HH15 (Y_pickT HH15 rfl rfl rfl) (fun aa16 HH16 => ?_)
          clear HH15
          refine LG_val (want0 rfl) rfl rfl HH16 (Y_asg HH16 rfl rfl) (fun aa17 HH17 => ?_)
          clear HH16
          refine L_end (t_norm ?_)
          have e : decide ((0 ≤ p.src ∧ p.src < 6) ∧ (0 ≤ p.dst ∧ p.dst < 6) ∧ (0 ≤ p.id ∧ p.id < 4096)) = true := decide_eq_true ⟨s1, s2, s3⟩
          exact ⟨by rw [e]; exact HH17.sub rfl, SS2⟩
        ·
          refine LG_call (HH14.want rfl rfl rfl) rfl rfl rfl Try.func98 (by kernel_rfl) rfl HH14 (below_ok (p.id) (0) (4096)) rfl ?_
          rintro e ww18 ⟨rfl, rfl⟩
          rw [decide_eq_false s3]
          refine ⟨_, rfl, fun aa18 HH18 => ?_⟩
          clear HH14
          refine LG_val (want0 rfl) rfl rfl HH18 (Y_pickT HH18 rfl rfl rfl) (fun aa19 HH19 => ?_)
          clear HH18
          refine LG_val (want0 rfl) rfl rfl HH19 (Y_asg HH19 rfl rfl) (fun aa20 HH20 => ?_)
          clear HH19
          refine L_end (t_norm ?_)
          have e : decide ((0 ≤ p.src ∧ p.src < 6) ∧ (0 ≤ p.dst ∧ p.dst < 6) ∧ (0 ≤ p.id ∧ p.id < 4096)) = false := decide_eq_false (fun h => s3 h.2.2)
          exact ⟨by rw [e]; exact HH20.sub rfl, SS2⟩
      ·
        refine LG_call (HH9.want rfl rfl rfl) rfl rfl rfl Try.func98 (by kernel_rfl) rfl HH9 (below_ok (p.dst) (0) (6)) rfl ?_
        rintro e ww21 ⟨rfl, rfl⟩
        rw [decide_eq_false s2]
        refine ⟨_, rfl, fun aa21 HH21 => ?_⟩
        clear HH9
        refine LG_val (want0 rfl) rfl rfl HH21 (Y_pickT HH21 rfl rfl rfl) (fun aa22 HH22 => ?_)
        clear HH21
        refine LG_val (want0 rfl) rfl rfl HH22 (Y_mov HH22 rfl rfl) (fun aa23 HH23 => ?_)
        clear HH22
        refine LG_skip (HH23.unwant rfl rfl rfl rfl) rfl rfl HH23 (fun aa24 HH24 => ?_)
        clear HH23
        refine LG_skip (HH24.unwant rfl rfl rfl rfl) rfl rfl HH24 (fun aa25 HH25 => ?_)
        clear HH24
        refine LG_skip (HH25.unwant rfl rfl rfl rfl) rfl rfl HH25 (fun aa26 HH26 => ?_)
        clear HH25
        refine LG_val (want0 rfl) rfl rfl HH26 (Y_pickF HH26 rfl rfl rfl) (fun aa27 HH27 => ?_)
        clear HH26
        refine LG_val (want0 rfl) rfl rfl HH27 (Y_asg HH27 rfl rfl) (fun aa28 HH28 => ?_)
        clear HH27
        refine L_end (t_norm ?_)
        have e : decide ((0 ≤ p.src ∧ p.src < 6) ∧ (0 ≤ p.dst ∧ p.dst < 6) ∧ (0 ≤ p.id ∧ p.id < 4096)) = false := decide_eq_false (fun h => s2 h.2.1)
        exact ⟨by rw [e]; exact HH28.sub rfl, SS2⟩
    ·
      refine LG_call (want0 rfl) rfl rfl rfl Try.func98 (by kernel_rfl) rfl HH5 (below_ok (p.src) (0) (6)) rfl ?_
      rintro e ww29 ⟨rfl, rfl⟩
      rw [decide_eq_false s1]
      refine ⟨_, rfl, fun aa29 HH29 => ?_⟩
      clear HH5
      refine LG_val (want0 rfl) rfl rfl HH29 (Y_mov HH29 rfl rfl) (fun aa30 HH30 => ?_)
      clear HH29
      refine LG_skip (HH30.unwant rfl rfl rfl rfl) rfl rfl HH30 (fun aa31 HH31 => ?_)
      clear HH30
      refine LG_skip (HH31.unwant rfl rfl rfl rfl) rfl rfl HH31 (fun aa32 HH32 => ?_)
      clear HH31
      refine LG_skip (HH32.unwant rfl rfl rfl rfl) rfl rfl HH32 (fun aa33 HH33 => ?_)
      clear HH32
      refine LG_val (want0 rfl) rfl rfl HH33 (Y_pickF HH33 rfl rfl rfl) (fun aa34 HH34 => ?_)
      clear HH33
      refine LG_val (want0 rfl) rfl rfl HH34 (Y_mov HH34 rfl rfl) (fun aa35 HH35 => ?_)
      clear HH34
      refine LG_skip (HH35.unwant rfl rfl rfl rfl) rfl rfl HH35 (fun aa36 HH36 => ?_)
      clear HH35
      refine LG_skip (HH36.unwant rfl rfl rfl rfl) rfl rfl HH36 (fun aa37 HH37 => ?_)
      clear HH36
      refine LG_skip (HH37.unwant rfl rfl rfl rfl) rfl rfl HH37 (fun aa38 HH38 => ?_)
      clear HH37
      refine LG_val (want0 rfl) rfl rfl HH38 (Y_pickF HH38 rfl rfl rfl) (fun aa39 HH39 => ?_)
      clear HH38
      refine LG_val (want0 rfl) rfl rfl HH39 (Y_asg HH39 rfl rfl) (fun aa40 HH40 => ?_)
      clear HH39
      refine L_end (t_norm ?_)
      have e : decide ((0 ≤ p.src ∧ p.src < 6) ∧ (0 ≤ p.dst ∧ p.dst < 6) ∧ (0 ≤ p.id ∧ p.id < 4096)) = false := decide_eq_false (fun h => s1 h.1)
      exact ⟨by rw [e]; exact HH40.sub rfl, SS2⟩
  clear HH3
  clear SS2
  rintro aa41 ww41 ⟨HH41, SS41⟩
  refine c_cut (fun a wx => Fr a 49 [(1, VPt b1 0), (3, VB (decide ((0 ≤ p.src ∧ p.src < 6) ∧ (0 ≤ p.dst ∧ p.dst < 6) ∧ (0 ≤ p.id ∧ p.id < 4096)))), (4, VB (decide ((1 ≤ p.kind ∧ p.kind < 10) ∧ (0 ≤ p.line ∧ p.line < 8) ∧ (-1 ≤ p.ptr ∧ p.ptr < 6))))] ∧ Sat wx (cel b1 43 (p.cells (.slice va p.data.length vc)) :: l)) ?_ ?_
  ·
    refine wp_region_lit ?_
    refine LG_val (want0 rfl) rfl rfl HH41 (Y_fad (off := 0) (r := 0) HH41 rfl (by kernel_rfl) rfl rfl) (fun aa42 HH42 => ?_)
    clear HH41
    refine LG_val (want0 rfl) rfl rfl HH42 (Y_load HH42 rfl (by kernel_rfl) rfl (SS41.cell 0)) (fun aa43 HH43 => ?_)
    clear HH42
    by_cases s4 : 1 ≤ p.kind ∧ p.kind < 10
    ·
      refine LG_call (want0 rfl) rfl rfl rfl Try.func98 (by kernel_rfl) rfl HH43 (below_ok (p.kind) (1) (10)) rfl ?_
      rintro e ww44 ⟨rfl, rfl⟩
      rw [decide_eq_true s4]
      refine ⟨_, rfl, fun aa44 HH44 => ?_⟩
      clear HH43
      refine LG_val (want0 rfl) rfl rfl HH44 (Y_mov HH44 rfl rfl) (fun aa45 HH45 => ?_)
      clear HH44
      refine LG_val (HH45.want rfl rfl rfl) rfl rfl HH45 (Y_fad (off := 4) (r := 4) HH45 rfl (by kernel_rfl) rfl rfl) (fun aa46 HH46 => ?_)
      clear HH45
      refine LG_val (HH46.want rfl rfl rfl) rfl rfl HH46 (Y_load HH46 rfl (by kernel_rfl) rfl (SS41.cell 4)) (fun aa47 HH47 => ?_)
      clear HH46
      by_cases s5 : 0 ≤ p.line ∧ p.line < 8
      ·
        refine LG_call (HH47.want rfl rfl rfl) rfl rfl rfl Try.func98 (by kernel_rfl) rfl HH47 (below_ok (p.line) (0) (8)) rfl ?_
        rintro e ww48 ⟨rfl, rfl⟩
        rw [decide_eq_true s5]
        refine ⟨_, rfl, fun aa48 HH48 => ?_⟩
        clear HH47
        refine LG_val (want0 rfl) rfl rfl HH48 (Y_pickT HH48 rfl rfl rfl) (fun aa49 HH49 => ?_)
        clear HH48
        refine LG_val (want0 rfl) rfl rfl HH49 (Y_mov HH49 rfl rfl) (fun aa50 HH50 => ?_)
        clear HH49
        refine LG_val (HH50.want rfl rfl rfl) rfl rfl HH50 (Y_fad (off := 5) (r := 5) HH50 rfl (by kernel_rfl) rfl rfl) (fun aa51 HH51 => ?_)
        clear HH50
        refine LG_val (HH51.want rfl rfl rfl) rfl rfl HH51 (Y_load HH51 rfl (by kernel_rfl) rfl (SS41.cell 5)) (fun aa52 HH52 => ?_)
        clear HH51
        by_cases s6 : -1 ≤ p.ptr ∧ p.ptr < 6
        ·
          refine LG_call (HH52.want rfl rfl rfl) rfl rfl rfl Try.func98 (by kernel_rfl) rfl HH52 (below_ok (p.ptr) (-1) (6)) rfl ?_
          rintro e ww53 ⟨rfl, rfl⟩
          rw [decide_eq_true s6]
          refine ⟨_, rfl, fun aa53 HH53 => ?_⟩
          clear HH52
          refine LG_val (want0 rfl) rfl rfl HH53 (Y_pickT HH53 rfl rfl rfl) (fun aa54 HH54 => ?_)
          clear HH53
          refine LG_val (want0 rfl) rfl rfl HH54 (Y_asg HH54 rfl rfl) (fun aa55 HH55 => ?_)
          clear HH54
          refine L_end (t_norm ?_)
          have e : decide ((1 ≤ p.kind ∧ p.kind < 10) ∧ (0 ≤ p.line ∧ p.line < 8) ∧ (-1 ≤ p.ptr ∧ p.ptr < 6)) = true := decide_eq_true ⟨s4, s5, s6⟩
          exact ⟨by rw [e]; exact HH55.sub rfl, SS41⟩
        ·
          refine LG_call (HH52.want rfl rfl rfl) rfl rfl rfl Try.func98 (by kernel_rfl) rfl HH52 (below_ok (p.ptr) (-1) (6)) rfl ?_
          rintro e ww56 ⟨rfl, rfl⟩
          rw [decide_eq_false s6]
          refine ⟨_, rfl, fun aa56 HH56 => ?_⟩
          clear HH52
          refine LG_val (want0 rfl) rfl rfl HH56 (Y_pickT HH56 rfl rfl rfl) (fun aa57 HH57 => ?_)
          clear HH56
          refine LG_val (want0 rfl) rfl rfl HH57 (Y_asg HH57 rfl rfl) (fun aa58 HH58 => ?_)
          clear HH57
          refine L_end (t_norm ?_)
          have e : decide ((1 ≤ p.kind ∧ p.kind < 10) ∧ (0 ≤ p.line ∧ p.line < 8) ∧ (-1 ≤ p.ptr ∧ p.ptr < 6)) = false := decide_eq_false (fun h => s6 h.2.2)
          exact ⟨by rw [e]; exact HH58.sub rfl, SS41⟩
      ·
        refine LG_call (HH47.want rfl rfl rfl) rfl rfl rfl Try.func98 (by kernel_rfl) rfl HH47 (below_ok (p.line) (0) (8)) rfl ?_
        rintro e ww59 ⟨rfl, rfl⟩
        rw [decide_eq_false s5]
        refine ⟨_, rfl, fun aa59 HH59 => ?_⟩
        clear HH47
        refine LG_val (want0 rfl) rfl rfl HH59 (Y_pickT HH59 rfl rfl rfl) (fun aa60 HH60 => ?_)
        clear HH59
        refine LG_val (want0 rfl) rfl rfl HH60 (Y_mov HH60 rfl rfl) (fun aa61 HH61 => ?_)
        clear HH60
        refine LG_skip (HH61.unwant rfl rfl rfl rfl) rfl rfl HH61 (fun aa62 HH62 => ?_)
        clear HH61
        refine LG_skip (HH62.unwant rfl rfl rfl rfl) rfl rfl HH62 (fun aa63 HH63 => ?_)
        clear HH62
        refine LG_skip (HH63.unwant rfl rfl rfl rfl) rfl rfl HH63 (fun aa64 HH64 => ?_)
        clear HH63
        refine LG_val (want0 rfl) rfl rfl HH64 (Y_pickF HH64 rfl rfl rfl) (fun aa65 HH65 => ?_)
        clear HH64
        refine LG_val (want0 rfl) rfl rfl HH65 (Y_asg HH65 rfl rfl) (fun aa66 HH66 => ?_)
        clear HH65
        refine L_end (t_norm ?_)
        have e : decide ((1 ≤ p.kind ∧ p.kind < 10) ∧ (0 ≤ p.line ∧ p.line < 8) ∧ (-1 ≤ p.ptr ∧ p.ptr < 6)) = false := decide_eq_false (fun h => s5 h.2.1)
        exact ⟨by rw [e]; exact HH66.sub rfl, SS41⟩
    ·
      refine LG_call (want0 rfl) rfl rfl rfl Try.func98 (by kernel_rfl) rfl HH43 (below_ok (p.kind) (1) (10)) rfl ?_
      rintro e ww67 ⟨rfl, rfl⟩
      rw [decide_eq_false s4]
      refine ⟨_, rfl, fun aa67 HH67 => ?_⟩
      clear HH43
      refine LG_val (want0 rfl) rfl rfl HH67 (Y_mov HH67 rfl rfl) (fun aa68 HH68 => ?_)
      clear HH67
      refine LG_skip (HH68.unwant rfl rfl rfl rfl) rfl rfl HH68 (fun aa69 HH69 => ?_)
      clear HH68
      refine LG_skip (HH69.unwant rfl rfl rfl rfl) rfl rfl HH69 (fun aa70 HH70 => ?_)
      clear HH69
      refine LG_skip (HH70.unwant rfl rfl rfl rfl) rfl rfl HH70 (fun aa71 HH71 => ?_)
      clear HH70
      refine LG_val (want0 rfl) rfl rfl HH71 (Y_pickF HH71 rfl rfl rfl) (fun aa72 HH72 => ?_)
      clear HH71
      refine LG_val (want0 rfl) rfl rfl HH72 (Y_mov HH72 rfl rfl) (fun aa73 HH73 => ?_)
      clear HH72
      refine LG_skip (HH73.unwant rfl rfl rfl rfl) rfl rfl HH73 (fun aa74 HH74 => ?_)
      clear HH73
      refine LG_skip (HH74.unwant rfl rfl rfl rfl) rfl rfl HH74 (fun aa75 HH75 => ?_)
      clear HH74
      refine LG_skip (HH75.unwant rfl rfl rfl rfl) rfl rfl HH75 (fun aa76 HH76 => ?_)
      clear HH75
      refine LG_val (want0 rfl) rfl rfl HH76 (Y_pickF HH76 rfl rfl rfl) (fun aa77 HH77 => ?_)
      clear HH76
      refine LG_val (want0 rfl) rfl rfl HH77 (Y_asg HH77 rfl rfl) (fun aa78 HH78 => ?_)
      clear HH77
      refine L_end (t_norm ?_)
      have e : decide ((1 ≤ p.kind ∧ p.kind < 10) ∧ (0 ≤ p.line ∧ p.line < 8) ∧ (-1 ≤ p.ptr ∧ p.ptr < 6)) = false := decide_eq_false (fun h => s4 h.1)
      exact ⟨by rw [e]; exact HH78.sub rfl, SS41⟩
  clear HH41
  clear SS41
  rintro aa79 ww79 ⟨HH79, SS79⟩
  refine wp_seq_k fun KK80 hKK80 => ?_
  refine wp_seq_k fun KK81 hKK81 => ?_
  rcases tri ((0 ≤ p.src ∧ p.src < 6) ∧ (0 ≤ p.dst ∧ p.dst < 6) ∧ (0 ≤ p.id ∧ p.id < 4096)) ((1 ≤ p.kind ∧ p.kind < 10) ∧ (0 ≤ p.line ∧ p.line < 8) ∧ (-1 ≤ p.ptr ∧ p.ptr < 6)) with hA | ⟨hA, hB⟩ | ⟨hA, hB⟩
  ·
    rw [decide_eq_false hA] at HH79
    refine wp_region_lit ?_
    refine LG_val (want0 rfl) rfl rfl HH79 (Y_mov HH79 rfl rfl) (fun aa82 HH82 => ?_)
    clear HH79
    refine LG_val (want0 rfl) rfl rfl HH82 (Y_not HH82 rfl rfl) (fun aa83 HH83 => ?_)
    clear HH82
    refine LG_val (want0 rfl) rfl rfl HH83 (Y_mov HH83 rfl rfl) (fun aa84 HH84 => ?_)
    clear HH83
    refine LG_skip (HH84.unwant rfl rfl rfl rfl) rfl rfl HH84 (fun aa85 HH85 => ?_)
    clear HH84
    refine LG_skip (HH85.unwant rfl rfl rfl rfl) rfl rfl HH85 (fun aa86 HH86 => ?_)
    clear HH85
    refine LG_val (want0 rfl) rfl rfl HH86 (Y_pickT HH86 rfl rfl rfl) (fun aa87 HH87 => ?_)
    clear HH86
    refine LG_val (want0 rfl) rfl rfl HH87 (Y_mov HH87 rfl rfl) (fun aa88 HH88 => ?_)
    clear HH87
    refine LG_skip (HH88.unwant rfl rfl rfl rfl) rfl rfl HH88 (fun aa89 HH89 => ?_)
    clear HH88
    refine LG_skip (HH89.unwant rfl rfl rfl rfl) rfl rfl HH89 (fun aa90 HH90 => ?_)
    clear HH89
    refine LG_skip (HH90.unwant rfl rfl rfl rfl) rfl rfl HH90 (fun aa91 HH91 => ?_)
    clear HH90
    refine LG_skip (HH91.unwant rfl rfl rfl rfl) rfl rfl HH91 (fun aa92 HH92 => ?_)
    clear HH91
    refine LG_val (want0 rfl) rfl rfl HH92 (Y_pickT HH92 rfl rfl rfl) (fun aa93 HH93 => ?_)
    clear HH92
    refine LG_val (want0 rfl) rfl rfl HH93 (Y_mov HH93 rfl rfl) (fun aa94 HH94 => ?_)
    clear HH93
    refine LG_skip (HH94.unwant rfl rfl rfl rfl) rfl rfl HH94 (fun aa95 HH95 => ?_)
    clear HH94
    refine LG_skip (HH95.unwant rfl rfl rfl rfl) rfl rfl HH95 (fun aa96 HH96 => ?_)
    clear HH95
    refine LG_skip (HH96.unwant rfl rfl rfl rfl) rfl rfl HH96 (fun aa97 HH97 => ?_)
    clear HH96
    refine LG_skip (HH97.unwant rfl rfl rfl rfl) rfl rfl HH97 (fun aa98 HH98 => ?_)
    clear HH97
    refine LG_val (want0 rfl) rfl rfl HH98 (Y_pickT HH98 rfl rfl rfl) (fun aa99 HH99 => ?_)
    clear HH98
    refine L_end (t_norm (hKK81 _ _ ?_))
    refine c_yes HH99 rfl ?_
    refine wp_seq_k fun KK100 hKK100 => ?_
    refine wp_region_lit ?_
    refine LG_val (want0 rfl) rfl rfl HH99 (Y_asg HH99 rfl rfl) (fun aa101 HH101 => ?_)
    clear HH99
    refine L_end (t_norm (hKK100 _ _ ?_))
    refine wp_ret (t_ret (ret1 rfl HH101 rfl ?_))
    have hr : ¬ p.right := by unfold Pkt.right; omega
    exact ⟨by rw [if_neg hr], SS79.tail⟩
  ·
    rw [decide_eq_true hA, decide_eq_false hB] at HH79
    refine wp_region_lit ?_
    refine LG_val (want0 rfl) rfl rfl HH79 (Y_mov HH79 rfl rfl) (fun aa102 HH102 => ?_)
    clear HH79
    refine LG_val (want0 rfl) rfl rfl HH102 (Y_not HH102 rfl rfl) (fun aa103 HH103 => ?_)
    clear HH102
    refine LG_val (want0 rfl) rfl rfl HH103 (Y_mov HH103 rfl rfl) (fun aa104 HH104 => ?_)
    clear HH103
    refine LG_val (HH104.want rfl rfl rfl) rfl rfl HH104 (Y_mov HH104 rfl rfl) (fun aa105 HH105 => ?_)
    clear HH104
    refine LG_val (HH105.want rfl rfl rfl) rfl rfl HH105 (Y_not HH105 rfl rfl) (fun aa106 HH106 => ?_)
    clear HH105
    refine LG_val (want0 rfl) rfl rfl HH106 (Y_pickF HH106 rfl rfl rfl) (fun aa107 HH107 => ?_)
    clear HH106
    refine LG_val (want0 rfl) rfl rfl HH107 (Y_mov HH107 rfl rfl) (fun aa108 HH108 => ?_)
    clear HH107
    refine LG_skip (HH108.unwant rfl rfl rfl rfl) rfl rfl HH108 (fun aa109 HH109 => ?_)
    clear HH108
    refine LG_skip (HH109.unwant rfl rfl rfl rfl) rfl rfl HH109 (fun aa110 HH110 => ?_)
    clear HH109
    refine LG_skip (HH110.unwant rfl rfl rfl rfl) rfl rfl HH110 (fun aa111 HH111 => ?_)
    clear HH110
    refine LG_skip (HH111.unwant rfl rfl rfl rfl) rfl rfl HH111 (fun aa112 HH112 => ?_)
    clear HH111
    refine LG_val (want0 rfl) rfl rfl HH112 (Y_pickT HH112 rfl rfl rfl) (fun aa113 HH113 => ?_)
    clear HH112
    refine LG_val (want0 rfl) rfl rfl HH113 (Y_mov HH113 rfl rfl) (fun aa114 HH114 => ?_)
    clear HH113
    refine LG_skip (HH114.unwant rfl rfl rfl rfl) rfl rfl HH114 (fun aa115 HH115 => ?_)
    clear HH114
    refine LG_skip (HH115.unwant rfl rfl rfl rfl) rfl rfl HH115 (fun aa116 HH116 => ?_)
    clear HH115
    refine LG_skip (HH116.unwant rfl rfl rfl rfl) rfl rfl HH116 (fun aa117 HH117 => ?_)
    clear HH116
    refine LG_skip (HH117.unwant rfl rfl rfl rfl) rfl rfl HH117 (fun aa118 HH118 => ?_)
    clear HH117
    refine LG_val (want0 rfl) rfl rfl HH118 (Y_pickT HH118 rfl rfl rfl) (fun aa119 HH119 => ?_)
    clear HH118
    refine L_end (t_norm (hKK81 _ _ ?_))
    refine c_yes HH119 rfl ?_
    refine wp_seq_k fun KK120 hKK120 => ?_
    refine wp_region_lit ?_
    refine LG_val (want0 rfl) rfl rfl HH119 (Y_asg HH119 rfl rfl) (fun aa121 HH121 => ?_)
    clear HH119
    refine L_end (t_norm (hKK120 _ _ ?_))
    refine wp_ret (t_ret (ret1 rfl HH121 rfl ?_))
    have hr : ¬ p.right := by unfold Pkt.right; omega
    exact ⟨by rw [if_neg hr], SS79.tail⟩
  ·
    rw [decide_eq_true hA, decide_eq_true hB] at HH79
    refine wp_region_lit ?_
    refine LG_val (want0 rfl) rfl rfl HH79 (Y_mov HH79 rfl rfl) (fun aa122 HH122 => ?_)
    clear HH79
    refine LG_val (want0 rfl) rfl rfl HH122 (Y_not HH122 rfl rfl) (fun aa123 HH123 => ?_)
    clear HH122
    refine LG_val (want0 rfl) rfl rfl HH123 (Y_mov HH123 rfl rfl) (fun aa124 HH124 => ?_)
    clear HH123
    refine LG_val (HH124.want rfl rfl rfl) rfl rfl HH124 (Y_mov HH124 rfl rfl) (fun aa125 HH125 => ?_)
    clear HH124
    refine LG_val (HH125.want rfl rfl rfl) rfl rfl HH125 (Y_not HH125 rfl rfl) (fun aa126 HH126 => ?_)
    clear HH125
    refine LG_val (want0 rfl) rfl rfl HH126 (Y_pickF HH126 rfl rfl rfl) (fun aa127 HH127 => ?_)
    clear HH126
    refine LG_val (want0 rfl) rfl rfl HH127 (Y_mov HH127 rfl rfl) (fun aa128 HH128 => ?_)
    clear HH127
    refine LG_val (HH128.want rfl rfl rfl) rfl rfl HH128 (Y_fad (off := 6) (r := 6) HH128 rfl (by kernel_rfl) rfl rfl) (fun aa129 HH129 => ?_)
    clear HH128
    refine LG_val (HH129.want rfl rfl rfl) rfl rfl HH129 (Y_load HH129 rfl (by kernel_rfl) rfl (SS79.cell 6)) (fun aa130 HH130 => ?_)
    clear HH129
    by_cases s7 : 0 ≤ p.state ∧ p.state < 3
    ·
      refine LG_call (HH130.want rfl rfl rfl) rfl rfl rfl Try.func98 (by kernel_rfl) rfl HH130 (below_ok (p.state) (0) (3)) rfl ?_
      rintro e ww131 ⟨rfl, rfl⟩
      rw [decide_eq_true s7]
      refine ⟨_, rfl, fun aa131 HH131 => ?_⟩
      clear HH130
      refine LG_val (HH131.want rfl rfl rfl) rfl rfl HH131 (Y_not HH131 rfl rfl) (fun aa132 HH132 => ?_)
      clear HH131
      refine LG_val (want0 rfl) rfl rfl HH132 (Y_pickF HH132 rfl rfl rfl) (fun aa133 HH133 => ?_)
      clear HH132
      refine LG_val (want0 rfl) rfl rfl HH133 (Y_mov HH133 rfl rfl) (fun aa134 HH134 => ?_)
      clear HH133
      refine LG_val (HH134.want rfl rfl rfl) rfl rfl HH134 (Y_fad (off := 8) (r := 8) HH134 rfl (by kernel_rfl) rfl rfl) (fun aa135 HH135 => ?_)
      clear HH134
      refine LG_val (HH135.want rfl rfl rfl) rfl rfl HH135 (Y_load HH135 rfl (by kernel_rfl) rfl (SS79.cell 8)) (fun aa136 HH136 => ?_)
      clear HH135
      refine LG_val (HH136.want rfl rfl rfl) rfl rfl HH136 (Y_lenS HH136 rfl (by kernel_rfl) rfl) (fun aa137 HH137 => ?_)
      clear HH136
      by_cases q8 : (4 : Int) < (p.data.length : Int)
      ·
        refine LG_val (HH137.want rfl rfl rfl) rfl rfl HH137 (Y_yes (Y_gtr HH137 rfl rfl rfl) (q8)) (fun aa138 HH138 => ?_)
        clear HH137
        refine LG_val (want0 rfl) rfl rfl HH138 (Y_pickF HH138 rfl rfl rfl) (fun aa139 HH139 => ?_)
        clear HH138
        refine L_end (t_norm (hKK81 _ _ ?_))
        refine c_yes HH139 rfl ?_
        refine wp_seq_k fun KK140 hKK140 => ?_
        refine wp_region_lit ?_
        refine LG_val (want0 rfl) rfl rfl HH139 (Y_asg HH139 rfl rfl) (fun aa141 HH141 => ?_)
        clear HH139
        refine L_end (t_norm (hKK140 _ _ ?_))
        refine wp_ret (t_ret (ret1 rfl HH141 rfl ?_))
        have hr : ¬ p.right := by unfold Pkt.right; omega
        exact ⟨by rw [if_neg hr], SS79.tail⟩
      ·
        refine LG_val (HH137.want rfl rfl rfl) rfl rfl HH137 (Y_no (Y_gtr HH137 rfl rfl rfl) (q8)) (fun aa142 HH142 => ?_)
        clear HH137
        refine LG_val (want0 rfl) rfl rfl HH142 (Y_pickF HH142 rfl rfl rfl) (fun aa143 HH143 => ?_)
        clear HH142
        refine L_end (t_norm (hKK81 _ _ ?_))
        refine c_no HH143 rfl ?_
        refine wp_skip (t_norm (hKK80 _ _ ?_))
        refine wp_seq_k fun KK144 hKK144 => ?_
        refine wp_region_lit ?_
        refine LG_val (want0 rfl) rfl rfl HH143 (Y_asg HH143 rfl rfl) (fun aa145 HH145 => ?_)
        clear HH143
        refine L_end (t_norm (hKK144 _ _ ?_))
        refine wp_ret (ret1 rfl HH145 rfl ?_)
        have hr : p.right := by unfold Pkt.right; omega
        exact ⟨by rw [if_pos hr], SS79.tail⟩
    ·
      refine LG_call (HH130.want rfl rfl rfl) rfl rfl rfl Try.func98 (by kernel_rfl) rfl HH130 (below_ok (p.state) (0) (3)) rfl ?_
      rintro e ww146 ⟨rfl, rfl⟩
      rw [decide_eq_false s7]
      refine ⟨_, rfl, fun aa146 HH146 => ?_⟩
      clear HH130
      refine LG_val (HH146.want rfl rfl rfl) rfl rfl HH146 (Y_not HH146 rfl rfl) (fun aa147 HH147 => ?_)
      clear HH146
      refine LG_val (want0 rfl) rfl rfl HH147 (Y_pickF HH147 rfl rfl rfl) (fun aa148 HH148 => ?_)
      clear HH147
      refine LG_val (want0 rfl) rfl rfl HH148 (Y_mov HH148 rfl rfl) (fun aa149 HH149 => ?_)
      clear HH148
      refine LG_skip (HH149.unwant rfl rfl rfl rfl) rfl rfl HH149 (fun aa150 HH150 => ?_)
      clear HH149
      refine LG_skip (HH150.unwant rfl rfl rfl rfl) rfl rfl HH150 (fun aa151 HH151 => ?_)
      clear HH150
      refine LG_skip (HH151.unwant rfl rfl rfl rfl) rfl rfl HH151 (fun aa152 HH152 => ?_)
      clear HH151
      refine LG_skip (HH152.unwant rfl rfl rfl rfl) rfl rfl HH152 (fun aa153 HH153 => ?_)
      clear HH152
      refine LG_val (want0 rfl) rfl rfl HH153 (Y_pickT HH153 rfl rfl rfl) (fun aa154 HH154 => ?_)
      clear HH153
      refine L_end (t_norm (hKK81 _ _ ?_))
      refine c_yes HH154 rfl ?_
      refine wp_seq_k fun KK155 hKK155 => ?_
      refine wp_region_lit ?_
      refine LG_val (want0 rfl) rfl rfl HH154 (Y_asg HH154 rfl rfl) (fun aa156 HH156 => ?_)
      clear HH154
      refine L_end (t_norm (hKK155 _ _ ?_))
      refine wp_ret (t_ret (ret1 rfl HH156 rfl ?_))
      have hr : ¬ p.right := by unfold Pkt.right; omega
      exact ⟨by rw [if_neg hr], SS79.tail⟩

set_option maxRecDepth 100000 in
theorem right_ok {w : World} {l : List HProp} (p : Pkt) (va : Option Addr) (vc : Nat) (S : Sat w l) : Calls Try.prog 97 #[p.val (.slice va p.data.length vc)] w fun e w' => e = .returned (VB (decide p.right)) ∧ Sat w' l := by
  refine enter (n := 77) Try.func97 rfl [(0, p.val (.slice va p.data.length vc))] rfl rfl fun aa0 HH0 => ?_
  refine wp_seq_k fun KK1 hKK1 => ?_
  refine wp_region_lit ?_
  refine LG_do (want0 rfl) rfl rfl HH0 (M_box HH0 rfl rfl rfl S) ?_
  rintro _ ww2 ⟨b1, rfl, SS2, _⟩ aa2 HH2
  clear HH0
  clear S
  refine LG_val (want0 rfl) rfl rfl HH2 (Y_asg HH2 rfl rfl) (fun aa3 HH3 => ?_)
  clear HH2
  refine L_end (t_norm (hKK1 _ _ ?_))
  refine wp_seq_k fun KK4 hKK4 => ?_
  refine wp_region_lit ?_
  refine LG_val (want0 rfl) rfl rfl HH3 (Y_fad (off := 0) (r := 0) HH3 rfl (by kernel_rfl) rfl rfl) (fun aa5 HH5 => ?_)
  clear HH3
  refine LG_val (want0 rfl) rfl rfl HH5 (Y_load HH5 rfl (by kernel_rfl) rfl (SS2.cell 0)) (fun aa6 HH6 => ?_)
  clear HH5
  by_cases u0 : 1 ≤ p.kind
  ·
    refine LG_val (want0 rfl) rfl rfl HH6 (Y_yes (Y_geq HH6 rfl rfl rfl) (u0)) (fun aa7 HH7 => ?_)
    clear HH6
    refine LG_val (want0 rfl) rfl rfl HH7 (Y_mov HH7 rfl rfl) (fun aa8 HH8 => ?_)
    clear HH7
    refine LG_val (HH8.want rfl rfl rfl) rfl rfl HH8 (Y_fad (off := 0) (r := 0) HH8 rfl (by kernel_rfl) rfl rfl) (fun aa9 HH9 => ?_)
    clear HH8
    refine LG_val (HH9.want rfl rfl rfl) rfl rfl HH9 (Y_load HH9 rfl (by kernel_rfl) rfl (SS2.cell 0)) (fun aa10 HH10 => ?_)
    clear HH9
    by_cases v0 : p.kind ≤ 9
    ·
      refine LG_val (HH10.want rfl rfl rfl) rfl rfl HH10 (Y_yes (Y_leq HH10 rfl rfl rfl) (v0)) (fun aa11 HH11 => ?_)
      clear HH10
      refine LG_val (want0 rfl) rfl rfl HH11 (Y_pickT HH11 rfl rfl rfl) (fun aa12 HH12 => ?_)
      clear HH11
      refine LG_val (want0 rfl) rfl rfl HH12 (Y_mov HH12 rfl rfl) (fun aa13 HH13 => ?_)
      clear HH12
      refine LG_val (HH13.want rfl rfl rfl) rfl rfl HH13 (Y_fad (off := 1) (r := 1) HH13 rfl (by kernel_rfl) rfl rfl) (fun aa14 HH14 => ?_)
      clear HH13
      refine LG_val (HH14.want rfl rfl rfl) rfl rfl HH14 (Y_load HH14 rfl (by kernel_rfl) rfl (SS2.cell 1)) (fun aa15 HH15 => ?_)
      clear HH14
      by_cases u1 : 0 ≤ p.src
      ·
        refine LG_val (HH15.want rfl rfl rfl) rfl rfl HH15 (Y_yes (Y_geq HH15 rfl rfl rfl) (u1)) (fun aa16 HH16 => ?_)
        clear HH15
        refine LG_val (want0 rfl) rfl rfl HH16 (Y_pickT HH16 rfl rfl rfl) (fun aa17 HH17 => ?_)
        clear HH16
        refine LG_val (want0 rfl) rfl rfl HH17 (Y_mov HH17 rfl rfl) (fun aa18 HH18 => ?_)
        clear HH17
        refine LG_val (HH18.want rfl rfl rfl) rfl rfl HH18 (Y_fad (off := 1) (r := 1) HH18 rfl (by kernel_rfl) rfl rfl) (fun aa19 HH19 => ?_)
        clear HH18
        refine LG_val (HH19.want rfl rfl rfl) rfl rfl HH19 (Y_load HH19 rfl (by kernel_rfl) rfl (SS2.cell 1)) (fun aa20 HH20 => ?_)
        clear HH19
        by_cases v1 : p.src < 6
        ·
          refine LG_val (HH20.want rfl rfl rfl) rfl rfl HH20 (Y_yes (Y_lss HH20 rfl rfl rfl) (v1)) (fun aa21 HH21 => ?_)
          clear HH20
          refine LG_val (want0 rfl) rfl rfl HH21 (Y_pickT HH21 rfl rfl rfl) (fun aa22 HH22 => ?_)
          clear HH21
          refine LG_val (want0 rfl) rfl rfl HH22 (Y_mov HH22 rfl rfl) (fun aa23 HH23 => ?_)
          clear HH22
          refine LG_val (HH23.want rfl rfl rfl) rfl rfl HH23 (Y_fad (off := 2) (r := 2) HH23 rfl (by kernel_rfl) rfl rfl) (fun aa24 HH24 => ?_)
          clear HH23
          refine LG_val (HH24.want rfl rfl rfl) rfl rfl HH24 (Y_load HH24 rfl (by kernel_rfl) rfl (SS2.cell 2)) (fun aa25 HH25 => ?_)
          clear HH24
          by_cases u2 : 0 ≤ p.dst
          ·
            refine LG_val (HH25.want rfl rfl rfl) rfl rfl HH25 (Y_yes (Y_geq HH25 rfl rfl rfl) (u2)) (fun aa26 HH26 => ?_)
            clear HH25
            refine LG_val (want0 rfl) rfl rfl HH26 (Y_pickT HH26 rfl rfl rfl) (fun aa27 HH27 => ?_)
            clear HH26
            refine LG_val (want0 rfl) rfl rfl HH27 (Y_mov HH27 rfl rfl) (fun aa28 HH28 => ?_)
            clear HH27
            refine LG_val (HH28.want rfl rfl rfl) rfl rfl HH28 (Y_fad (off := 2) (r := 2) HH28 rfl (by kernel_rfl) rfl rfl) (fun aa29 HH29 => ?_)
            clear HH28
            refine LG_val (HH29.want rfl rfl rfl) rfl rfl HH29 (Y_load HH29 rfl (by kernel_rfl) rfl (SS2.cell 2)) (fun aa30 HH30 => ?_)
            clear HH29
            by_cases v2 : p.dst < 6
            ·
              refine LG_val (HH30.want rfl rfl rfl) rfl rfl HH30 (Y_yes (Y_lss HH30 rfl rfl rfl) (v2)) (fun aa31 HH31 => ?_)
              clear HH30
              refine LG_val (want0 rfl) rfl rfl HH31 (Y_pickT HH31 rfl rfl rfl) (fun aa32 HH32 => ?_)
              clear HH31
              refine LG_val (want0 rfl) rfl rfl HH32 (Y_mov HH32 rfl rfl) (fun aa33 HH33 => ?_)
              clear HH32
              refine LG_val (HH33.want rfl rfl rfl) rfl rfl HH33 (Y_fad (off := 3) (r := 3) HH33 rfl (by kernel_rfl) rfl rfl) (fun aa34 HH34 => ?_)
              clear HH33
              refine LG_val (HH34.want rfl rfl rfl) rfl rfl HH34 (Y_load HH34 rfl (by kernel_rfl) rfl (SS2.cell 3)) (fun aa35 HH35 => ?_)
              clear HH34
              by_cases u3 : 0 ≤ p.id
              ·
                refine LG_val (HH35.want rfl rfl rfl) rfl rfl HH35 (Y_yes (Y_geq HH35 rfl rfl rfl) (u3)) (fun aa36 HH36 => ?_)
                clear HH35
                refine LG_val (want0 rfl) rfl rfl HH36 (Y_pickT HH36 rfl rfl rfl) (fun aa37 HH37 => ?_)
                clear HH36
                refine LG_val (want0 rfl) rfl rfl HH37 (Y_mov HH37 rfl rfl) (fun aa38 HH38 => ?_)
                clear HH37
                refine LG_val (HH38.want rfl rfl rfl) rfl rfl HH38 (Y_fad (off := 3) (r := 3) HH38 rfl (by kernel_rfl) rfl rfl) (fun aa39 HH39 => ?_)
                clear HH38
                refine LG_val (HH39.want rfl rfl rfl) rfl rfl HH39 (Y_load HH39 rfl (by kernel_rfl) rfl (SS2.cell 3)) (fun aa40 HH40 => ?_)
                clear HH39
                by_cases v3 : p.id < 4096
                ·
                  refine LG_val (HH40.want rfl rfl rfl) rfl rfl HH40 (Y_yes (Y_lss HH40 rfl rfl rfl) (v3)) (fun aa41 HH41 => ?_)
                  clear HH40
                  refine LG_val (want0 rfl) rfl rfl HH41 (Y_pickT HH41 rfl rfl rfl) (fun aa42 HH42 => ?_)
                  clear HH41
                  refine LG_val (want0 rfl) rfl rfl HH42 (Y_mov HH42 rfl rfl) (fun aa43 HH43 => ?_)
                  clear HH42
                  refine LG_val (HH43.want rfl rfl rfl) rfl rfl HH43 (Y_fad (off := 4) (r := 4) HH43 rfl (by kernel_rfl) rfl rfl) (fun aa44 HH44 => ?_)
                  clear HH43
                  refine LG_val (HH44.want rfl rfl rfl) rfl rfl HH44 (Y_load HH44 rfl (by kernel_rfl) rfl (SS2.cell 4)) (fun aa45 HH45 => ?_)
                  clear HH44
                  by_cases u4 : 0 ≤ p.line
                  ·
                    refine LG_val (HH45.want rfl rfl rfl) rfl rfl HH45 (Y_yes (Y_geq HH45 rfl rfl rfl) (u4)) (fun aa46 HH46 => ?_)
                    clear HH45
                    refine LG_val (want0 rfl) rfl rfl HH46 (Y_pickT HH46 rfl rfl rfl) (fun aa47 HH47 => ?_)
                    clear HH46
                    refine LG_val (want0 rfl) rfl rfl HH47 (Y_mov HH47 rfl rfl) (fun aa48 HH48 => ?_)
                    clear HH47
                    refine LG_val (HH48.want rfl rfl rfl) rfl rfl HH48 (Y_fad (off := 4) (r := 4) HH48 rfl (by kernel_rfl) rfl rfl) (fun aa49 HH49 => ?_)
                    clear HH48
                    refine LG_val (HH49.want rfl rfl rfl) rfl rfl HH49 (Y_load HH49 rfl (by kernel_rfl) rfl (SS2.cell 4)) (fun aa50 HH50 => ?_)
                    clear HH49
                    by_cases v4 : p.line < 8
                    ·
                      refine LG_val (HH50.want rfl rfl rfl) rfl rfl HH50 (Y_yes (Y_lss HH50 rfl rfl rfl) (v4)) (fun aa51 HH51 => ?_)
                      clear HH50
                      refine LG_val (want0 rfl) rfl rfl HH51 (Y_pickT HH51 rfl rfl rfl) (fun aa52 HH52 => ?_)
                      clear HH51
                      refine LG_val (want0 rfl) rfl rfl HH52 (Y_mov HH52 rfl rfl) (fun aa53 HH53 => ?_)
                      clear HH52
                      refine LG_val (HH53.want rfl rfl rfl) rfl rfl HH53 (Y_fad (off := 5) (r := 5) HH53 rfl (by kernel_rfl) rfl rfl) (fun aa54 HH54 => ?_)
                      clear HH53
                      refine LG_val (HH54.want rfl rfl rfl) rfl rfl HH54 (Y_load HH54 rfl (by kernel_rfl) rfl (SS2.cell 5)) (fun aa55 HH55 => ?_)
                      clear HH54
                      by_cases u5 : -1 ≤ p.ptr
                      ·
                        refine LG_val (HH55.want rfl rfl rfl) rfl rfl HH55 (Y_yes (Y_geq HH55 rfl rfl rfl) (u5)) (fun aa56 HH56 => ?_)
                        clear HH55
                        refine LG_val (want0 rfl) rfl rfl HH56 (Y_pickT HH56 rfl rfl rfl) (fun aa57 HH57 => ?_)
                        clear HH56
                        refine LG_val (want0 rfl) rfl rfl HH57 (Y_mov HH57 rfl rfl) (fun aa58 HH58 => ?_)
                        clear HH57
                        refine LG_val (HH58.want rfl rfl rfl) rfl rfl HH58 (Y_fad (off := 5) (r := 5) HH58 rfl (by kernel_rfl) rfl rfl) (fun aa59 HH59 => ?_)
                        clear HH58
                        refine LG_val (HH59.want rfl rfl rfl) rfl rfl HH59 (Y_load HH59 rfl (by kernel_rfl) rfl (SS2.cell 5)) (fun aa60 HH60 => ?_)
                        clear HH59
                        by_cases v5 : p.ptr < 6
                        ·
                          refine LG_val (HH60.want rfl rfl rfl) rfl rfl HH60 (Y_yes (Y_lss HH60 rfl rfl rfl) (v5)) (fun aa61 HH61 => ?_)
                          clear HH60
                          refine LG_val (want0 rfl) rfl rfl HH61 (Y_pickT HH61 rfl rfl rfl) (fun aa62 HH62 => ?_)
                          clear HH61
                          refine LG_val (want0 rfl) rfl rfl HH62 (Y_mov HH62 rfl rfl) (fun aa63 HH63 => ?_)
                          clear HH62
                          refine LG_val (HH63.want rfl rfl rfl) rfl rfl HH63 (Y_fad (off := 6) (r := 6) HH63 rfl (by kernel_rfl) rfl rfl) (fun aa64 HH64 => ?_)
                          clear HH63
                          refine LG_val (HH64.want rfl rfl rfl) rfl rfl HH64 (Y_load HH64 rfl (by kernel_rfl) rfl (SS2.cell 6)) (fun aa65 HH65 => ?_)
                          clear HH64
                          by_cases u6 : 0 ≤ p.state
                          ·
                            refine LG_val (HH65.want rfl rfl rfl) rfl rfl HH65 (Y_yes (Y_geq HH65 rfl rfl rfl) (u6)) (fun aa66 HH66 => ?_)
                            clear HH65
                            refine LG_val (want0 rfl) rfl rfl HH66 (Y_pickT HH66 rfl rfl rfl) (fun aa67 HH67 => ?_)
                            clear HH66
                            refine LG_val (want0 rfl) rfl rfl HH67 (Y_mov HH67 rfl rfl) (fun aa68 HH68 => ?_)
                            clear HH67
                            refine LG_val (HH68.want rfl rfl rfl) rfl rfl HH68 (Y_fad (off := 6) (r := 6) HH68 rfl (by kernel_rfl) rfl rfl) (fun aa69 HH69 => ?_)
                            clear HH68
                            refine LG_val (HH69.want rfl rfl rfl) rfl rfl HH69 (Y_load HH69 rfl (by kernel_rfl) rfl (SS2.cell 6)) (fun aa70 HH70 => ?_)
                            clear HH69
                            by_cases v6 : p.state ≤ 2
                            ·
                              refine LG_val (HH70.want rfl rfl rfl) rfl rfl HH70 (Y_yes (Y_leq HH70 rfl rfl rfl) (v6)) (fun aa71 HH71 => ?_)
                              clear HH70
                              refine LG_val (want0 rfl) rfl rfl HH71 (Y_pickT HH71 rfl rfl rfl) (fun aa72 HH72 => ?_)
                              clear HH71
                              refine LG_val (want0 rfl) rfl rfl HH72 (Y_mov HH72 rfl rfl) (fun aa73 HH73 => ?_)
                              clear HH72
                              refine LG_val (HH73.want rfl rfl rfl) rfl rfl HH73 (Y_fad (off := 8) (r := 8) HH73 rfl (by kernel_rfl) rfl rfl) (fun aa74 HH74 => ?_)
                              clear HH73
                              refine LG_val (HH74.want rfl rfl rfl) rfl rfl HH74 (Y_load HH74 rfl (by kernel_rfl) rfl (SS2.cell 8)) (fun aa75 HH75 => ?_)
                              clear HH74
                              refine LG_val (HH75.want rfl rfl rfl) rfl rfl HH75 (Y_lenS HH75 rfl (by kernel_rfl) rfl) (fun aa76 HH76 => ?_)
                              clear HH75
                              by_cases u9 : (p.data.length : Int) ≤ 4
                              ·
                                refine LG_val (HH76.want rfl rfl rfl) rfl rfl HH76 (Y_yes (Y_leq HH76 rfl rfl rfl) (u9)) (fun aa77 HH77 => ?_)
                                clear HH76
                                refine LG_val (want0 rfl) rfl rfl HH77 (Y_pickT HH77 rfl rfl rfl) (fun aa78 HH78 => ?_)
                                clear HH77
                                refine LG_val (want0 rfl) rfl rfl HH78 (Y_asg HH78 rfl rfl) (fun aa79 HH79 => ?_)
                                clear HH78
                                refine L_end (t_norm (hKK4 _ _ ?_))
                                refine wp_ret (ret1 rfl HH79 rfl ?_)
                                have hr : p.right := by unfold Pkt.right; omega
                                exact ⟨by rw [decide_eq_true hr], SS2.tail⟩
                              ·
                                refine LG_val (HH76.want rfl rfl rfl) rfl rfl HH76 (Y_no (Y_leq HH76 rfl rfl rfl) (u9)) (fun aa80 HH80 => ?_)
                                clear HH76
                                refine LG_val (want0 rfl) rfl rfl HH80 (Y_pickT HH80 rfl rfl rfl) (fun aa81 HH81 => ?_)
                                clear HH80
                                refine LG_val (want0 rfl) rfl rfl HH81 (Y_asg HH81 rfl rfl) (fun aa82 HH82 => ?_)
                                clear HH81
                                refine L_end (t_norm (hKK4 _ _ ?_))
                                refine wp_ret (ret1 rfl HH82 rfl ?_)
                                have hr : ¬ p.right := by unfold Pkt.right; omega
                                exact ⟨by rw [decide_eq_false hr], SS2.tail⟩
                            ·
                              refine LG_val (HH70.want rfl rfl rfl) rfl rfl HH70 (Y_no (Y_leq HH70 rfl rfl rfl) (v6)) (fun aa83 HH83 => ?_)
                              clear HH70
                              refine LG_val (want0 rfl) rfl rfl HH83 (Y_pickT HH83 rfl rfl rfl) (fun aa84 HH84 => ?_)
                              clear HH83
                              refine LG_val (want0 rfl) rfl rfl HH84 (Y_mov HH84 rfl rfl) (fun aa85 HH85 => ?_)
                              clear HH84
                              refine LG_skip (HH85.unwant rfl rfl rfl rfl) rfl rfl HH85 (fun aa86 HH86 => ?_)
                              clear HH85
                              refine LG_skip (HH86.unwant rfl rfl rfl rfl) rfl rfl HH86 (fun aa87 HH87 => ?_)
                              clear HH86
                              refine LG_skip (HH87.unwant rfl rfl rfl rfl) rfl rfl HH87 (fun aa88 HH88 => ?_)
                              clear HH87
                              refine LG_skip (HH88.unwant rfl rfl rfl rfl) rfl rfl HH88 (fun aa89 HH89 => ?_)
                              clear HH88
                              refine LG_val (want0 rfl) rfl rfl HH89 (Y_pickF HH89 rfl rfl rfl) (fun aa90 HH90 => ?_)
                              clear HH89
                              refine LG_val (want0 rfl) rfl rfl HH90 (Y_asg HH90 rfl rfl) (fun aa91 HH91 => ?_)
                              clear HH90
                              refine L_end (t_norm (hKK4 _ _ ?_))
                              refine wp_ret (ret1 rfl HH91 rfl ?_)
                              have hr : ¬ p.right := by unfold Pkt.right; omega
                              exact ⟨by rw [decide_eq_false hr], SS2.tail⟩
                          ·
                            refine LG_val (HH65.want rfl rfl rfl) rfl rfl HH65 (Y_no (Y_geq HH65 rfl rfl rfl) (u6)) (fun aa92 HH92 => ?_)
                            clear HH65
                            refine LG_val (want0 rfl) rfl rfl HH92 (Y_pickT HH92 rfl rfl rfl) (fun aa93 HH93 => ?_)
                            clear HH92
                            refine LG_val (want0 rfl) rfl rfl HH93 (Y_mov HH93 rfl rfl) (fun aa94 HH94 => ?_)
                            clear HH93
                            refine LG_skip (HH94.unwant rfl rfl rfl rfl) rfl rfl HH94 (fun aa95 HH95 => ?_)
                            clear HH94
                            refine LG_skip (HH95.unwant rfl rfl rfl rfl) rfl rfl HH95 (fun aa96 HH96 => ?_)
                            clear HH95
                            refine LG_skip (HH96.unwant rfl rfl rfl rfl) rfl rfl HH96 (fun aa97 HH97 => ?_)
                            clear HH96
                            refine LG_val (want0 rfl) rfl rfl HH97 (Y_pickF HH97 rfl rfl rfl) (fun aa98 HH98 => ?_)
                            clear HH97
                            refine LG_val (want0 rfl) rfl rfl HH98 (Y_mov HH98 rfl rfl) (fun aa99 HH99 => ?_)
                            clear HH98
                            refine LG_skip (HH99.unwant rfl rfl rfl rfl) rfl rfl HH99 (fun aa100 HH100 => ?_)
                            clear HH99
                            refine LG_skip (HH100.unwant rfl rfl rfl rfl) rfl rfl HH100 (fun aa101 HH101 => ?_)
                            clear HH100
                            refine LG_skip (HH101.unwant rfl rfl rfl rfl) rfl rfl HH101 (fun aa102 HH102 => ?_)
                            clear HH101
                            refine LG_skip (HH102.unwant rfl rfl rfl rfl) rfl rfl HH102 (fun aa103 HH103 => ?_)
                            clear HH102
                            refine LG_val (want0 rfl) rfl rfl HH103 (Y_pickF HH103 rfl rfl rfl) (fun aa104 HH104 => ?_)
                            clear HH103
                            refine LG_val (want0 rfl) rfl rfl HH104 (Y_asg HH104 rfl rfl) (fun aa105 HH105 => ?_)
                            clear HH104
                            refine L_end (t_norm (hKK4 _ _ ?_))
                            refine wp_ret (ret1 rfl HH105 rfl ?_)
                            have hr : ¬ p.right := by unfold Pkt.right; omega
                            exact ⟨by rw [decide_eq_false hr], SS2.tail⟩
                        ·
                          refine LG_val (HH60.want rfl rfl rfl) rfl rfl HH60 (Y_no (Y_lss HH60 rfl rfl rfl) (v5)) (fun aa106 HH106 => ?_)
                          clear HH60
                          refine LG_val (want0 rfl) rfl rfl HH106 (Y_pickT HH106 rfl rfl rfl) (fun aa107 HH107 => ?_)
                          clear HH106
                          refine LG_val (want0 rfl) rfl rfl HH107 (Y_mov HH107 rfl rfl) (fun aa108 HH108 => ?_)
                          clear HH107
                          refine LG_skip (HH108.unwant rfl rfl rfl rfl) rfl rfl HH108 (fun aa109 HH109 => ?_)
                          clear HH108
                          refine LG_skip (HH109.unwant rfl rfl rfl rfl) rfl rfl HH109 (fun aa110 HH110 => ?_)
                          clear HH109
                          refine LG_skip (HH110.unwant rfl rfl rfl rfl) rfl rfl HH110 (fun aa111 HH111 => ?_)
                          clear HH110
                          refine LG_val (want0 rfl) rfl rfl HH111 (Y_pickF HH111 rfl rfl rfl) (fun aa112 HH112 => ?_)
                          clear HH111
                          refine LG_val (want0 rfl) rfl rfl HH112 (Y_mov HH112 rfl rfl) (fun aa113 HH113 => ?_)
                          clear HH112
                          refine LG_skip (HH113.unwant rfl rfl rfl rfl) rfl rfl HH113 (fun aa114 HH114 => ?_)
                          clear HH113
                          refine LG_skip (HH114.unwant rfl rfl rfl rfl) rfl rfl HH114 (fun aa115 HH115 => ?_)
                          clear HH114
                          refine LG_skip (HH115.unwant rfl rfl rfl rfl) rfl rfl HH115 (fun aa116 HH116 => ?_)
                          clear HH115
                          refine LG_val (want0 rfl) rfl rfl HH116 (Y_pickF HH116 rfl rfl rfl) (fun aa117 HH117 => ?_)
                          clear HH116
                          refine LG_val (want0 rfl) rfl rfl HH117 (Y_mov HH117 rfl rfl) (fun aa118 HH118 => ?_)
                          clear HH117
                          refine LG_skip (HH118.unwant rfl rfl rfl rfl) rfl rfl HH118 (fun aa119 HH119 => ?_)
                          clear HH118
                          refine LG_skip (HH119.unwant rfl rfl rfl rfl) rfl rfl HH119 (fun aa120 HH120 => ?_)
                          clear HH119
                          refine LG_skip (HH120.unwant rfl rfl rfl rfl) rfl rfl HH120 (fun aa121 HH121 => ?_)
                          clear HH120
                          refine LG_skip (HH121.unwant rfl rfl rfl rfl) rfl rfl HH121 (fun aa122 HH122 => ?_)
                          clear HH121
                          refine LG_val (want0 rfl) rfl rfl HH122 (Y_pickF HH122 rfl rfl rfl) (fun aa123 HH123 => ?_)
                          clear HH122
                          refine LG_val (want0 rfl) rfl rfl HH123 (Y_asg HH123 rfl rfl) (fun aa124 HH124 => ?_)
                          clear HH123
                          refine L_end (t_norm (hKK4 _ _ ?_))
                          refine wp_ret (ret1 rfl HH124 rfl ?_)
                          have hr : ¬ p.right := by unfold Pkt.right; omega
                          exact ⟨by rw [decide_eq_false hr], SS2.tail⟩
                      ·
                        refine LG_val (HH55.want rfl rfl rfl) rfl rfl HH55 (Y_no (Y_geq HH55 rfl rfl rfl) (u5)) (fun aa125 HH125 => ?_)
                        clear HH55
                        refine LG_val (want0 rfl) rfl rfl HH125 (Y_pickT HH125 rfl rfl rfl) (fun aa126 HH126 => ?_)
                        clear HH125
                        refine LG_val (want0 rfl) rfl rfl HH126 (Y_mov HH126 rfl rfl) (fun aa127 HH127 => ?_)
                        clear HH126
                        refine LG_skip (HH127.unwant rfl rfl rfl rfl) rfl rfl HH127 (fun aa128 HH128 => ?_)
                        clear HH127
                        refine LG_skip (HH128.unwant rfl rfl rfl rfl) rfl rfl HH128 (fun aa129 HH129 => ?_)
                        clear HH128
                        refine LG_skip (HH129.unwant rfl rfl rfl rfl) rfl rfl HH129 (fun aa130 HH130 => ?_)
                        clear HH129
                        refine LG_val (want0 rfl) rfl rfl HH130 (Y_pickF HH130 rfl rfl rfl) (fun aa131 HH131 => ?_)
                        clear HH130
                        refine LG_val (want0 rfl) rfl rfl HH131 (Y_mov HH131 rfl rfl) (fun aa132 HH132 => ?_)
                        clear HH131
                        refine LG_skip (HH132.unwant rfl rfl rfl rfl) rfl rfl HH132 (fun aa133 HH133 => ?_)
                        clear HH132
                        refine LG_skip (HH133.unwant rfl rfl rfl rfl) rfl rfl HH133 (fun aa134 HH134 => ?_)
                        clear HH133
                        refine LG_skip (HH134.unwant rfl rfl rfl rfl) rfl rfl HH134 (fun aa135 HH135 => ?_)
                        clear HH134
                        refine LG_val (want0 rfl) rfl rfl HH135 (Y_pickF HH135 rfl rfl rfl) (fun aa136 HH136 => ?_)
                        clear HH135
                        refine LG_val (want0 rfl) rfl rfl HH136 (Y_mov HH136 rfl rfl) (fun aa137 HH137 => ?_)
                        clear HH136
                        refine LG_skip (HH137.unwant rfl rfl rfl rfl) rfl rfl HH137 (fun aa138 HH138 => ?_)
                        clear HH137
                        refine LG_skip (HH138.unwant rfl rfl rfl rfl) rfl rfl HH138 (fun aa139 HH139 => ?_)
                        clear HH138
                        refine LG_skip (HH139.unwant rfl rfl rfl rfl) rfl rfl HH139 (fun aa140 HH140 => ?_)
                        clear HH139
                        refine LG_val (want0 rfl) rfl rfl HH140 (Y_pickF HH140 rfl rfl rfl) (fun aa141 HH141 => ?_)
                        clear HH140
                        refine LG_val (want0 rfl) rfl rfl HH141 (Y_mov HH141 rfl rfl) (fun aa142 HH142 => ?_)
                        clear HH141
                        refine LG_skip (HH142.unwant rfl rfl rfl rfl) rfl rfl HH142 (fun aa143 HH143 => ?_)
                        clear HH142
                        refine LG_skip (HH143.unwant rfl rfl rfl rfl) rfl rfl HH143 (fun aa144 HH144 => ?_)
                        clear HH143
                        refine LG_skip (HH144.unwant rfl rfl rfl rfl) rfl rfl HH144 (fun aa145 HH145 => ?_)
                        clear HH144
                        refine LG_skip (HH145.unwant rfl rfl rfl rfl) rfl rfl HH145 (fun aa146 HH146 => ?_)
                        clear HH145
                        refine LG_val (want0 rfl) rfl rfl HH146 (Y_pickF HH146 rfl rfl rfl) (fun aa147 HH147 => ?_)
                        clear HH146
                        refine LG_val (want0 rfl) rfl rfl HH147 (Y_asg HH147 rfl rfl) (fun aa148 HH148 => ?_)
                        clear HH147
                        refine L_end (t_norm (hKK4 _ _ ?_))
                        refine wp_ret (ret1 rfl HH148 rfl ?_)
                        have hr : ¬ p.right := by unfold Pkt.right; omega
                        exact ⟨by rw [decide_eq_false hr], SS2.tail⟩
                    ·
                      refine LG_val (HH50.want rfl rfl rfl) rfl rfl HH50 (Y_no (Y_lss HH50 rfl rfl rfl) (v4)) (fun aa149 HH149 => ?_)
                      clear HH50
                      refine LG_val (want0 rfl) rfl rfl HH149 (Y_pickT HH149 rfl rfl rfl) (fun aa150 HH150 => ?_)
                      clear HH149
                      refine LG_val (want0 rfl) rfl rfl HH150 (Y_mov HH150 rfl rfl) (fun aa151 HH151 => ?_)
                      clear HH150
                      refine LG_skip (HH151.unwant rfl rfl rfl rfl) rfl rfl HH151 (fun aa152 HH152 => ?_)
                      clear HH151
                      refine LG_skip (HH152.unwant rfl rfl rfl rfl) rfl rfl HH152 (fun aa153 HH153 => ?_)
                      clear HH152
                      refine LG_skip (HH153.unwant rfl rfl rfl rfl) rfl rfl HH153 (fun aa154 HH154 => ?_)
                      clear HH153
                      refine LG_val (want0 rfl) rfl rfl HH154 (Y_pickF HH154 rfl rfl rfl) (fun aa155 HH155 => ?_)
                      clear HH154
                      refine LG_val (want0 rfl) rfl rfl HH155 (Y_mov HH155 rfl rfl) (fun aa156 HH156 => ?_)
                      clear HH155
                      refine LG_skip (HH156.unwant rfl rfl rfl rfl) rfl rfl HH156 (fun aa157 HH157 => ?_)
                      clear HH156
                      refine LG_skip (HH157.unwant rfl rfl rfl rfl) rfl rfl HH157 (fun aa158 HH158 => ?_)
                      clear HH157
                      refine LG_skip (HH158.unwant rfl rfl rfl rfl) rfl rfl HH158 (fun aa159 HH159 => ?_)
                      clear HH158
                      refine LG_val (want0 rfl) rfl rfl HH159 (Y_pickF HH159 rfl rfl rfl) (fun aa160 HH160 => ?_)
                      clear HH159
                      refine LG_val (want0 rfl) rfl rfl HH160 (Y_mov HH160 rfl rfl) (fun aa161 HH161 => ?_)
                      clear HH160
                      refine LG_skip (HH161.unwant rfl rfl rfl rfl) rfl rfl HH161 (fun aa162 HH162 => ?_)
                      clear HH161
                      refine LG_skip (HH162.unwant rfl rfl rfl rfl) rfl rfl HH162 (fun aa163 HH163 => ?_)
                      clear HH162
                      refine LG_skip (HH163.unwant rfl rfl rfl rfl) rfl rfl HH163 (fun aa164 HH164 => ?_)
                      clear HH163
                      refine LG_val (want0 rfl) rfl rfl HH164 (Y_pickF HH164 rfl rfl rfl) (fun aa165 HH165 => ?_)
                      clear HH164
                      refine LG_val (want0 rfl) rfl rfl HH165 (Y_mov HH165 rfl rfl) (fun aa166 HH166 => ?_)
                      clear HH165
                      refine LG_skip (HH166.unwant rfl rfl rfl rfl) rfl rfl HH166 (fun aa167 HH167 => ?_)
                      clear HH166
                      refine LG_skip (HH167.unwant rfl rfl rfl rfl) rfl rfl HH167 (fun aa168 HH168 => ?_)
                      clear HH167
                      refine LG_skip (HH168.unwant rfl rfl rfl rfl) rfl rfl HH168 (fun aa169 HH169 => ?_)
                      clear HH168
                      refine LG_val (want0 rfl) rfl rfl HH169 (Y_pickF HH169 rfl rfl rfl) (fun aa170 HH170 => ?_)
                      clear HH169
                      refine LG_val (want0 rfl) rfl rfl HH170 (Y_mov HH170 rfl rfl) (fun aa171 HH171 => ?_)
                      clear HH170
                      refine LG_skip (HH171.unwant rfl rfl rfl rfl) rfl rfl HH171 (fun aa172 HH172 => ?_)
                      clear HH171
                      refine LG_skip (HH172.unwant rfl rfl rfl rfl) rfl rfl HH172 (fun aa173 HH173 => ?_)
                      clear HH172
                      refine LG_skip (HH173.unwant rfl rfl rfl rfl) rfl rfl HH173 (fun aa174 HH174 => ?_)
                      clear HH173
                      refine LG_skip (HH174.unwant rfl rfl rfl rfl) rfl rfl HH174 (fun aa175 HH175 => ?_)
                      clear HH174
                      refine LG_val (want0 rfl) rfl rfl HH175 (Y_pickF HH175 rfl rfl rfl) (fun aa176 HH176 => ?_)
                      clear HH175
                      refine LG_val (want0 rfl) rfl rfl HH176 (Y_asg HH176 rfl rfl) (fun aa177 HH177 => ?_)
                      clear HH176
                      refine L_end (t_norm (hKK4 _ _ ?_))
                      refine wp_ret (ret1 rfl HH177 rfl ?_)
                      have hr : ¬ p.right := by unfold Pkt.right; omega
                      exact ⟨by rw [decide_eq_false hr], SS2.tail⟩
                  ·
                    refine LG_val (HH45.want rfl rfl rfl) rfl rfl HH45 (Y_no (Y_geq HH45 rfl rfl rfl) (u4)) (fun aa178 HH178 => ?_)
                    clear HH45
                    refine LG_val (want0 rfl) rfl rfl HH178 (Y_pickT HH178 rfl rfl rfl) (fun aa179 HH179 => ?_)
                    clear HH178
                    refine LG_val (want0 rfl) rfl rfl HH179 (Y_mov HH179 rfl rfl) (fun aa180 HH180 => ?_)
                    clear HH179
                    refine LG_skip (HH180.unwant rfl rfl rfl rfl) rfl rfl HH180 (fun aa181 HH181 => ?_)
                    clear HH180
                    refine LG_skip (HH181.unwant rfl rfl rfl rfl) rfl rfl HH181 (fun aa182 HH182 => ?_)
                    clear HH181
                    refine LG_skip (HH182.unwant rfl rfl rfl rfl) rfl rfl HH182 (fun aa183 HH183 => ?_)
                    clear HH182
                    refine LG_val (want0 rfl) rfl rfl HH183 (Y_pickF HH183 rfl rfl rfl) (fun aa184 HH184 => ?_)
                    clear HH183
                    refine LG_val (want0 rfl) rfl rfl HH184 (Y_mov HH184 rfl rfl) (fun aa185 HH185 => ?_)
                    clear HH184
                    refine LG_skip (HH185.unwant rfl rfl rfl rfl) rfl rfl HH185 (fun aa186 HH186 => ?_)
                    clear HH185
                    refine LG_skip (HH186.unwant rfl rfl rfl rfl) rfl rfl HH186 (fun aa187 HH187 => ?_)
                    clear HH186
                    refine LG_skip (HH187.unwant rfl rfl rfl rfl) rfl rfl HH187 (fun aa188 HH188 => ?_)
                    clear HH187
                    refine LG_val (want0 rfl) rfl rfl HH188 (Y_pickF HH188 rfl rfl rfl) (fun aa189 HH189 => ?_)
                    clear HH188
                    refine LG_val (want0 rfl) rfl rfl HH189 (Y_mov HH189 rfl rfl) (fun aa190 HH190 => ?_)
                    clear HH189
                    refine LG_skip (HH190.unwant rfl rfl rfl rfl) rfl rfl HH190 (fun aa191 HH191 => ?_)
                    clear HH190
                    refine LG_skip (HH191.unwant rfl rfl rfl rfl) rfl rfl HH191 (fun aa192 HH192 => ?_)
                    clear HH191
                    refine LG_skip (HH192.unwant rfl rfl rfl rfl) rfl rfl HH192 (fun aa193 HH193 => ?_)
                    clear HH192
                    refine LG_val (want0 rfl) rfl rfl HH193 (Y_pickF HH193 rfl rfl rfl) (fun aa194 HH194 => ?_)
                    clear HH193
                    refine LG_val (want0 rfl) rfl rfl HH194 (Y_mov HH194 rfl rfl) (fun aa195 HH195 => ?_)
                    clear HH194
                    refine LG_skip (HH195.unwant rfl rfl rfl rfl) rfl rfl HH195 (fun aa196 HH196 => ?_)
                    clear HH195
                    refine LG_skip (HH196.unwant rfl rfl rfl rfl) rfl rfl HH196 (fun aa197 HH197 => ?_)
                    clear HH196
                    refine LG_skip (HH197.unwant rfl rfl rfl rfl) rfl rfl HH197 (fun aa198 HH198 => ?_)
                    clear HH197
                    refine LG_val (want0 rfl) rfl rfl HH198 (Y_pickF HH198 rfl rfl rfl) (fun aa199 HH199 => ?_)
                    clear HH198
                    refine LG_val (want0 rfl) rfl rfl HH199 (Y_mov HH199 rfl rfl) (fun aa200 HH200 => ?_)
                    clear HH199
                    refine LG_skip (HH200.unwant rfl rfl rfl rfl) rfl rfl HH200 (fun aa201 HH201 => ?_)
                    clear HH200
                    refine LG_skip (HH201.unwant rfl rfl rfl rfl) rfl rfl HH201 (fun aa202 HH202 => ?_)
                    clear HH201
                    refine LG_skip (HH202.unwant rfl rfl rfl rfl) rfl rfl HH202 (fun aa203 HH203 => ?_)
                    clear HH202
                    refine LG_val (want0 rfl) rfl rfl HH203 (Y_pickF HH203 rfl rfl rfl) (fun aa204 HH204 => ?_)
                    clear HH203
                    refine LG_val (want0 rfl) rfl rfl HH204 (Y_mov HH204 rfl rfl) (fun aa205 HH205 => ?_)
                    clear HH204
                    refine LG_skip (HH205.unwant rfl rfl rfl rfl) rfl rfl HH205 (fun aa206 HH206 => ?_)
                    clear HH205
                    refine LG_skip (HH206.unwant rfl rfl rfl rfl) rfl rfl HH206 (fun aa207 HH207 => ?_)
                    clear HH206
                    refine LG_skip (HH207.unwant rfl rfl rfl rfl) rfl rfl HH207 (fun aa208 HH208 => ?_)
                    clear HH207
                    refine LG_skip (HH208.unwant rfl rfl rfl rfl) rfl rfl HH208 (fun aa209 HH209 => ?_)
                    clear HH208
                    refine LG_val (want0 rfl) rfl rfl HH209 (Y_pickF HH209 rfl rfl rfl) (fun aa210 HH210 => ?_)
                    clear HH209
                    refine LG_val (want0 rfl) rfl rfl HH210 (Y_asg HH210 rfl rfl) (fun aa211 HH211 => ?_)
                    clear HH210
                    refine L_end (t_norm (hKK4 _ _ ?_))
                    refine wp_ret (ret1 rfl HH211 rfl ?_)
                    have hr : ¬ p.right := by unfold Pkt.right; omega
                    exact ⟨by rw [decide_eq_false hr], SS2.tail⟩
                ·
                  refine LG_val (HH40.want rfl rfl rfl) rfl rfl HH40 (Y_no (Y_lss HH40 rfl rfl rfl) (v3)) (fun aa212 HH212 => ?_)
                  clear HH40
                  refine LG_val (want0 rfl) rfl rfl HH212 (Y_pickT HH212 rfl rfl rfl) (fun aa213 HH213 => ?_)
                  clear HH212
                  refine LG_val (want0 rfl) rfl rfl HH213 (Y_mov HH213 rfl rfl) (fun aa214 HH214 => ?_)
                  clear HH213
                  refine LG_skip (HH214.unwant rfl rfl rfl rfl) rfl rfl HH214 (fun aa215 HH215 => ?_)
                  clear HH214
                  refine LG_skip (HH215.unwant rfl rfl rfl rfl) rfl rfl HH215 (fun aa216 HH216 => ?_)
                  clear HH215
                  refine LG_skip (HH216.unwant rfl rfl rfl rfl) rfl rfl HH216 (fun aa217 HH217 => ?_)
                  clear HH216
                  refine LG_val (want0 rfl) rfl rfl HH217 (Y_pickF HH217 rfl rfl rfl) (fun aa218 HH218 => ?_)
                  clear HH217
                  refine LG_val (want0 rfl) rfl rfl HH218 (Y_mov HH218 rfl rfl) (fun aa219 HH219 => ?_)
                  clear HH218
                  refine LG_skip (HH219.unwant rfl rfl rfl rfl) rfl rfl HH219 (fun aa220 HH220 => ?_)
                  clear HH219
                  refine LG_skip (HH220.unwant rfl rfl rfl rfl) rfl rfl HH220 (fun aa221 HH221 => ?_)
                  clear HH220
                  refine LG_skip (HH221.unwant rfl rfl rfl rfl) rfl rfl HH221 (fun aa222 HH222 => ?_)
                  clear HH221
                  refine LG_val (want0 rfl) rfl rfl HH222 (Y_pickF HH222 rfl rfl rfl) (fun aa223 HH223 => ?_)
                  clear HH222
                  refine LG_val (want0 rfl) rfl rfl HH223 (Y_mov HH223 rfl rfl) (fun aa224 HH224 => ?_)
                  clear HH223
                  refine LG_skip (HH224.unwant rfl rfl rfl rfl) rfl rfl HH224 (fun aa225 HH225 => ?_)
                  clear HH224
                  refine LG_skip (HH225.unwant rfl rfl rfl rfl) rfl rfl HH225 (fun aa226 HH226 => ?_)
                  clear HH225
                  refine LG_skip (HH226.unwant rfl rfl rfl rfl) rfl rfl HH226 (fun aa227 HH227 => ?_)
                  clear HH226
                  refine LG_val (want0 rfl) rfl rfl HH227 (Y_pickF HH227 rfl rfl rfl) (fun aa228 HH228 => ?_)
                  clear HH227
                  refine LG_val (want0 rfl) rfl rfl HH228 (Y_mov HH228 rfl rfl) (fun aa229 HH229 => ?_)
                  clear HH228
                  refine LG_skip (HH229.unwant rfl rfl rfl rfl) rfl rfl HH229 (fun aa230 HH230 => ?_)
                  clear HH229
                  refine LG_skip (HH230.unwant rfl rfl rfl rfl) rfl rfl HH230 (fun aa231 HH231 => ?_)
                  clear HH230
                  refine LG_skip (HH231.unwant rfl rfl rfl rfl) rfl rfl HH231 (fun aa232 HH232 => ?_)
                  clear HH231
                  refine LG_val (want0 rfl) rfl rfl HH232 (Y_pickF HH232 rfl rfl rfl) (fun aa233 HH233 => ?_)
                  clear HH232
                  refine LG_val (want0 rfl) rfl rfl HH233 (Y_mov HH233 rfl rfl) (fun aa234 HH234 => ?_)
                  clear HH233
                  refine LG_skip (HH234.unwant rfl rfl rfl rfl) rfl rfl HH234 (fun aa235 HH235 => ?_)
                  clear HH234
                  refine LG_skip (HH235.unwant rfl rfl rfl rfl) rfl rfl HH235 (fun aa236 HH236 => ?_)
                  clear HH235
                  refine LG_skip (HH236.unwant rfl rfl rfl rfl) rfl rfl HH236 (fun aa237 HH237 => ?_)
                  clear HH236
                  refine LG_val (want0 rfl) rfl rfl HH237 (Y_pickF HH237 rfl rfl rfl) (fun aa238 HH238 => ?_)
                  clear HH237
                  refine LG_val (want0 rfl) rfl rfl HH238 (Y_mov HH238 rfl rfl) (fun aa239 HH239 => ?_)
                  clear HH238
                  refine LG_skip (HH239.unwant rfl rfl rfl rfl) rfl rfl HH239 (fun aa240 HH240 => ?_)
                  clear HH239
                  refine LG_skip (HH240.unwant rfl rfl rfl rfl) rfl rfl HH240 (fun aa241 HH241 => ?_)
                  clear HH240
                  refine LG_skip (HH241.unwant rfl rfl rfl rfl) rfl rfl HH241 (fun aa242 HH242 => ?_)
                  clear HH241
                  refine LG_val (want0 rfl) rfl rfl HH242 (Y_pickF HH242 rfl rfl rfl) (fun aa243 HH243 => ?_)
                  clear HH242
                  refine LG_val (want0 rfl) rfl rfl HH243 (Y_mov HH243 rfl rfl) (fun aa244 HH244 => ?_)
                  clear HH243
                  refine LG_skip (HH244.unwant rfl rfl rfl rfl) rfl rfl HH244 (fun aa245 HH245 => ?_)
                  clear HH244
                  refine LG_skip (HH245.unwant rfl rfl rfl rfl) rfl rfl HH245 (fun aa246 HH246 => ?_)
                  clear HH245
                  refine LG_skip (HH246.unwant rfl rfl rfl rfl) rfl rfl HH246 (fun aa247 HH247 => ?_)
                  clear HH246
                  refine LG_skip (HH247.unwant rfl rfl rfl rfl) rfl rfl HH247 (fun aa248 HH248 => ?_)
                  clear HH247
                  refine LG_val (want0 rfl) rfl rfl HH248 (Y_pickF HH248 rfl rfl rfl) (fun aa249 HH249 => ?_)
                  clear HH248
                  refine LG_val (want0 rfl) rfl rfl HH249 (Y_asg HH249 rfl rfl) (fun aa250 HH250 => ?_)
                  clear HH249
                  refine L_end (t_norm (hKK4 _ _ ?_))
                  refine wp_ret (ret1 rfl HH250 rfl ?_)
                  have hr : ¬ p.right := by unfold Pkt.right; omega
                  exact ⟨by rw [decide_eq_false hr], SS2.tail⟩
              ·
                refine LG_val (HH35.want rfl rfl rfl) rfl rfl HH35 (Y_no (Y_geq HH35 rfl rfl rfl) (u3)) (fun aa251 HH251 => ?_)
                clear HH35
                refine LG_val (want0 rfl) rfl rfl HH251 (Y_pickT HH251 rfl rfl rfl) (fun aa252 HH252 => ?_)
                clear HH251
                refine LG_val (want0 rfl) rfl rfl HH252 (Y_mov HH252 rfl rfl) (fun aa253 HH253 => ?_)
                clear HH252
                refine LG_skip (HH253.unwant rfl rfl rfl rfl) rfl rfl HH253 (fun aa254 HH254 => ?_)
                clear HH253
                refine LG_skip (HH254.unwant rfl rfl rfl rfl) rfl rfl HH254 (fun aa255 HH255 => ?_)
                clear HH254
                refine LG_skip (HH255.unwant rfl rfl rfl rfl) rfl rfl HH255 (fun aa256 HH256 => ?_)
                clear HH255
                refine LG_val (want0 rfl) rfl rfl HH256 (Y_pickF HH256 rfl rfl rfl) (fun aa257 HH257 => ?_)
                clear HH256
                refine LG_val (want0 rfl) rfl rfl HH257 (Y_mov HH257 rfl rfl) (fun aa258 HH258 => ?_)
                clear HH257
                refine LG_skip (HH258.unwant rfl rfl rfl rfl) rfl rfl HH258 (fun aa259 HH259 => ?_)
                clear HH258
                refine LG_skip (HH259.unwant rfl rfl rfl rfl) rfl rfl HH259 (fun aa260 HH260 => ?_)
                clear HH259
                refine LG_skip (HH260.unwant rfl rfl rfl rfl) rfl rfl HH260 (fun aa261 HH261 => ?_)
                clear HH260
                refine LG_val (want0 rfl) rfl rfl HH261 (Y_pickF HH261 rfl rfl rfl) (fun aa262 HH262 => ?_)
                clear HH261
                refine LG_val (want0 rfl) rfl rfl HH262 (Y_mov HH262 rfl rfl) (fun aa263 HH263 => ?_)
                clear HH262
                refine LG_skip (HH263.unwant rfl rfl rfl rfl) rfl rfl HH263 (fun aa264 HH264 => ?_)
                clear HH263
                refine LG_skip (HH264.unwant rfl rfl rfl rfl) rfl rfl HH264 (fun aa265 HH265 => ?_)
                clear HH264
                refine LG_skip (HH265.unwant rfl rfl rfl rfl) rfl rfl HH265 (fun aa266 HH266 => ?_)
                clear HH265
                refine LG_val (want0 rfl) rfl rfl HH266 (Y_pickF HH266 rfl rfl rfl) (fun aa267 HH267 => ?_)
                clear HH266
                refine LG_val (want0 rfl) rfl rfl HH267 (Y_mov HH267 rfl rfl) (fun aa268 HH268 => ?_)
                clear HH267
                refine LG_skip (HH268.unwant rfl rfl rfl rfl) rfl rfl HH268 (fun aa269 HH269 => ?_)
                clear HH268
                refine LG_skip (HH269.unwant rfl rfl rfl rfl) rfl rfl HH269 (fun aa270 HH270 => ?_)
                clear HH269
                refine LG_skip (HH270.unwant rfl rfl rfl rfl) rfl rfl HH270 (fun aa271 HH271 => ?_)
                clear HH270
                refine LG_val (want0 rfl) rfl rfl HH271 (Y_pickF HH271 rfl rfl rfl) (fun aa272 HH272 => ?_)
                clear HH271
                refine LG_val (want0 rfl) rfl rfl HH272 (Y_mov HH272 rfl rfl) (fun aa273 HH273 => ?_)
                clear HH272
                refine LG_skip (HH273.unwant rfl rfl rfl rfl) rfl rfl HH273 (fun aa274 HH274 => ?_)
                clear HH273
                refine LG_skip (HH274.unwant rfl rfl rfl rfl) rfl rfl HH274 (fun aa275 HH275 => ?_)
                clear HH274
                refine LG_skip (HH275.unwant rfl rfl rfl rfl) rfl rfl HH275 (fun aa276 HH276 => ?_)
                clear HH275
                refine LG_val (want0 rfl) rfl rfl HH276 (Y_pickF HH276 rfl rfl rfl) (fun aa277 HH277 => ?_)
                clear HH276
                refine LG_val (want0 rfl) rfl rfl HH277 (Y_mov HH277 rfl rfl) (fun aa278 HH278 => ?_)
                clear HH277
                refine LG_skip (HH278.unwant rfl rfl rfl rfl) rfl rfl HH278 (fun aa279 HH279 => ?_)
                clear HH278
                refine LG_skip (HH279.unwant rfl rfl rfl rfl) rfl rfl HH279 (fun aa280 HH280 => ?_)
                clear HH279
                refine LG_skip (HH280.unwant rfl rfl rfl rfl) rfl rfl HH280 (fun aa281 HH281 => ?_)
                clear HH280
                refine LG_val (want0 rfl) rfl rfl HH281 (Y_pickF HH281 rfl rfl rfl) (fun aa282 HH282 => ?_)
                clear HH281
                refine LG_val (want0 rfl) rfl rfl HH282 (Y_mov HH282 rfl rfl) (fun aa283 HH283 => ?_)
                clear HH282
                refine LG_skip (HH283.unwant rfl rfl rfl rfl) rfl rfl HH283 (fun aa284 HH284 => ?_)
                clear HH283
                refine LG_skip (HH284.unwant rfl rfl rfl rfl) rfl rfl HH284 (fun aa285 HH285 => ?_)
                clear HH284
                refine LG_skip (HH285.unwant rfl rfl rfl rfl) rfl rfl HH285 (fun aa286 HH286 => ?_)
                clear HH285
                refine LG_val (want0 rfl) rfl rfl HH286 (Y_pickF HH286 rfl rfl rfl) (fun aa287 HH287 => ?_)
                clear HH286
                refine LG_val (want0 rfl) rfl rfl HH287 (Y_mov HH287 rfl rfl) (fun aa288 HH288 => ?_)
                clear HH287
                refine LG_skip (HH288.unwant rfl rfl rfl rfl) rfl rfl HH288 (fun aa289 HH289 => ?_)
                clear HH288
                refine LG_skip (HH289.unwant rfl rfl rfl rfl) rfl rfl HH289 (fun aa290 HH290 => ?_)
                clear HH289
                refine LG_skip (HH290.unwant rfl rfl rfl rfl) rfl rfl HH290 (fun aa291 HH291 => ?_)
                clear HH290
                refine LG_skip (HH291.unwant rfl rfl rfl rfl) rfl rfl HH291 (fun aa292 HH292 => ?_)
                clear HH291
                refine LG_val (want0 rfl) rfl rfl HH292 (Y_pickF HH292 rfl rfl rfl) (fun aa293 HH293 => ?_)
                clear HH292
                refine LG_val (want0 rfl) rfl rfl HH293 (Y_asg HH293 rfl rfl) (fun aa294 HH294 => ?_)
                clear HH293
                refine L_end (t_norm (hKK4 _ _ ?_))
                refine wp_ret (ret1 rfl HH294 rfl ?_)
                have hr : ¬ p.right := by unfold Pkt.right; omega
                exact ⟨by rw [decide_eq_false hr], SS2.tail⟩
            ·
              refine LG_val (HH30.want rfl rfl rfl) rfl rfl HH30 (Y_no (Y_lss HH30 rfl rfl rfl) (v2)) (fun aa295 HH295 => ?_)
              clear HH30
              refine LG_val (want0 rfl) rfl rfl HH295 (Y_pickT HH295 rfl rfl rfl) (fun aa296 HH296 => ?_)
              clear HH295
              refine LG_val (want0 rfl) rfl rfl HH296 (Y_mov HH296 rfl rfl) (fun aa297 HH297 => ?_)
              clear HH296
              refine LG_skip (HH297.unwant rfl rfl rfl rfl) rfl rfl HH297 (fun aa298 HH298 => ?_)
              clear HH297
              refine LG_skip (HH298.unwant rfl rfl rfl rfl) rfl rfl HH298 (fun aa299 HH299 => ?_)
              clear HH298
              refine LG_skip (HH299.unwant rfl rfl rfl rfl) rfl rfl HH299 (fun aa300 HH300 => ?_)
              clear HH299
              refine LG_val (want0 rfl) rfl rfl HH300 (Y_pickF HH300 rfl rfl rfl) (fun aa301 HH301 => ?_)
              clear HH300
              refine LG_val (want0 rfl) rfl rfl HH301 (Y_mov HH301 rfl rfl) (fun aa302 HH302 => ?_)
              clear HH301
              refine LG_skip (HH302.unwant rfl rfl rfl rfl) rfl rfl HH302 (fun aa303 HH303 => ?_)
              clear HH302
              refine LG_skip (HH303.unwant rfl rfl rfl rfl) rfl rfl HH303 (fun aa304 HH304 => ?_)
              clear HH303
              refine LG_skip (HH304.unwant rfl rfl rfl rfl) rfl rfl HH304 (fun aa305 HH305 => ?_)
              clear HH304
              refine LG_val (want0 rfl) rfl rfl HH305 (Y_pickF HH305 rfl rfl rfl) (fun aa306 HH306 => ?_)
              clear HH305
              refine LG_val (want0 rfl) rfl rfl HH306 (Y_mov HH306 rfl rfl) (fun aa307 HH307 => ?_)
              clear HH306
              refine LG_skip (HH307.unwant rfl rfl rfl rfl) rfl rfl HH307 (fun aa308 HH308 => ?_)
              clear HH307
              refine LG_skip (HH308.unwant rfl rfl rfl rfl) rfl rfl HH308 (fun aa309 HH309 => ?_)
              clear HH308
              refine LG_skip (HH309.unwant rfl rfl rfl rfl) rfl rfl HH309 (fun aa310 HH310 => ?_)
              clear HH309
              refine LG_val (want0 rfl) rfl rfl HH310 (Y_pickF HH310 rfl rfl rfl) (fun aa311 HH311 => ?_)
              clear HH310
              refine LG_val (want0 rfl) rfl rfl HH311 (Y_mov HH311 rfl rfl) (fun aa312 HH312 => ?_)
              clear HH311
              refine LG_skip (HH312.unwant rfl rfl rfl rfl) rfl rfl HH312 (fun aa313 HH313 => ?_)
              clear HH312
              refine LG_skip (HH313.unwant rfl rfl rfl rfl) rfl rfl HH313 (fun aa314 HH314 => ?_)
              clear HH313
              refine LG_skip (HH314.unwant rfl rfl rfl rfl) rfl rfl HH314 (fun aa315 HH315 => ?_)
              clear HH314
              refine LG_val (want0 rfl) rfl rfl HH315 (Y_pickF HH315 rfl rfl rfl) (fun aa316 HH316 => ?_)
              clear HH315
              refine LG_val (want0 rfl) rfl rfl HH316 (Y_mov HH316 rfl rfl) (fun aa317 HH317 => ?_)
              clear HH316
              refine LG_skip (HH317.unwant rfl rfl rfl rfl) rfl rfl HH317 (fun aa318 HH318 => ?_)
              clear HH317
              refine LG_skip (HH318.unwant rfl rfl rfl rfl) rfl rfl HH318 (fun aa319 HH319 => ?_)
              clear HH318
              refine LG_skip (HH319.unwant rfl rfl rfl rfl) rfl rfl HH319 (fun aa320 HH320 => ?_)
              clear HH319
              refine LG_val (want0 rfl) rfl rfl HH320 (Y_pickF HH320 rfl rfl rfl) (fun aa321 HH321 => ?_)
              clear HH320
              refine LG_val (want0 rfl) rfl rfl HH321 (Y_mov HH321 rfl rfl) (fun aa322 HH322 => ?_)
              clear HH321
              refine LG_skip (HH322.unwant rfl rfl rfl rfl) rfl rfl HH322 (fun aa323 HH323 => ?_)
              clear HH322
              refine LG_skip (HH323.unwant rfl rfl rfl rfl) rfl rfl HH323 (fun aa324 HH324 => ?_)
              clear HH323
              refine LG_skip (HH324.unwant rfl rfl rfl rfl) rfl rfl HH324 (fun aa325 HH325 => ?_)
              clear HH324
              refine LG_val (want0 rfl) rfl rfl HH325 (Y_pickF HH325 rfl rfl rfl) (fun aa326 HH326 => ?_)
              clear HH325
              refine LG_val (want0 rfl) rfl rfl HH326 (Y_mov HH326 rfl rfl) (fun aa327 HH327 => ?_)
              clear HH326
              refine LG_skip (HH327.unwant rfl rfl rfl rfl) rfl rfl HH327 (fun aa328 HH328 => ?_)
              clear HH327
              refine LG_skip (HH328.unwant rfl rfl rfl rfl) rfl rfl HH328 (fun aa329 HH329 => ?_)
              clear HH328
              refine LG_skip (HH329.unwant rfl rfl rfl rfl) rfl rfl HH329 (fun aa330 HH330 => ?_)
              clear HH329
              refine LG_val (want0 rfl) rfl rfl HH330 (Y_pickF HH330 rfl rfl rfl) (fun aa331 HH331 => ?_)
              clear HH330
              refine LG_val (want0 rfl) rfl rfl HH331 (Y_mov HH331 rfl rfl) (fun aa332 HH332 => ?_)
              clear HH331
              refine LG_skip (HH332.unwant rfl rfl rfl rfl) rfl rfl HH332 (fun aa333 HH333 => ?_)
              clear HH332
              refine LG_skip (HH333.unwant rfl rfl rfl rfl) rfl rfl HH333 (fun aa334 HH334 => ?_)
              clear HH333
              refine LG_skip (HH334.unwant rfl rfl rfl rfl) rfl rfl HH334 (fun aa335 HH335 => ?_)
              clear HH334
              refine LG_val (want0 rfl) rfl rfl HH335 (Y_pickF HH335 rfl rfl rfl) (fun aa336 HH336 => ?_)
              clear HH335
              refine LG_val (want0 rfl) rfl rfl HH336 (Y_mov HH336 rfl rfl) (fun aa337 HH337 => ?_)
              clear HH336
              refine LG_skip (HH337.unwant rfl rfl rfl rfl) rfl rfl HH337 (fun aa338 HH338 => ?_)
              clear HH337
              refine LG_skip (HH338.unwant rfl rfl rfl rfl) rfl rfl HH338 (fun aa339 HH339 => ?_)
              clear HH338
              refine LG_skip (HH339.unwant rfl rfl rfl rfl) rfl rfl HH339 (fun aa340 HH340 => ?_)
              clear HH339
              refine LG_skip (HH340.unwant rfl rfl rfl rfl) rfl rfl HH340 (fun aa341 HH341 => ?_)
              clear HH340
              refine LG_val (want0 rfl) rfl rfl HH341 (Y_pickF HH341 rfl rfl rfl) (fun aa342 HH342 => ?_)
              clear HH341
              refine LG_val (want0 rfl) rfl rfl HH342 (Y_asg HH342 rfl rfl) (fun aa343 HH343 => ?_)
              clear HH342
              refine L_end (t_norm (hKK4 _ _ ?_))
              refine wp_ret (ret1 rfl HH343 rfl ?_)
              have hr : ¬ p.right := by unfold Pkt.right; omega
              exact ⟨by rw [decide_eq_false hr], SS2.tail⟩
          ·
            refine LG_val (HH25.want rfl rfl rfl) rfl rfl HH25 (Y_no (Y_geq HH25 rfl rfl rfl) (u2)) (fun aa344 HH344 => ?_)
            clear HH25
            refine LG_val (want0 rfl) rfl rfl HH344 (Y_pickT HH344 rfl rfl rfl) (fun aa345 HH345 => ?_)
            clear HH344
            refine LG_val (want0 rfl) rfl rfl HH345 (Y_mov HH345 rfl rfl) (fun aa346 HH346 => ?_)
            clear HH345
            refine LG_skip (HH346.unwant rfl rfl rfl rfl) rfl rfl HH346 (fun aa347 HH347 => ?_)
            clear HH346
            refine LG_skip (HH347.unwant rfl rfl rfl rfl) rfl rfl HH347 (fun aa348 HH348 => ?_)
            clear HH347
            refine LG_skip (HH348.unwant rfl rfl rfl rfl) rfl rfl HH348 (fun aa349 HH349 => ?_)
            clear HH348
            refine LG_val (want0 rfl) rfl rfl HH349 (Y_pickF HH349 rfl rfl rfl) (fun aa350 HH350 => ?_)
            clear HH349
            refine LG_val (want0 rfl) rfl rfl HH350 (Y_mov HH350 rfl rfl) (fun aa351 HH351 => ?_)
            clear HH350
            refine LG_skip (HH351.unwant rfl rfl rfl rfl) rfl rfl HH351 (fun aa352 HH352 => ?_)
            clear HH351
            refine LG_skip (HH352.unwant rfl rfl rfl rfl) rfl rfl HH352 (fun aa353 HH353 => ?_)
            clear HH352
            refine LG_skip (HH353.unwant rfl rfl rfl rfl) rfl rfl HH353 (fun aa354 HH354 => ?_)
            clear HH353
            refine LG_val (want0 rfl) rfl rfl HH354 (Y_pickF HH354 rfl rfl rfl) (fun aa355 HH355 => ?_)
            clear HH354
            refine LG_val (want0 rfl) rfl rfl HH355 (Y_mov HH355 rfl rfl) (fun aa356 HH356 => ?_)
            clear HH355
            refine LG_skip (HH356.unwant rfl rfl rfl rfl) rfl rfl HH356 (fun aa357 HH357 => ?_)
            clear HH356
            refine LG_skip (HH357.unwant rfl rfl rfl rfl) rfl rfl HH357 (fun aa358 HH358 => ?_)
            clear HH357
            refine LG_skip (HH358.unwant rfl rfl rfl rfl) rfl rfl HH358 (fun aa359 HH359 => ?_)
            clear HH358
            refine LG_val (want0 rfl) rfl rfl HH359 (Y_pickF HH359 rfl rfl rfl) (fun aa360 HH360 => ?_)
            clear HH359
            refine LG_val (want0 rfl) rfl rfl HH360 (Y_mov HH360 rfl rfl) (fun aa361 HH361 => ?_)
            clear HH360
            refine LG_skip (HH361.unwant rfl rfl rfl rfl) rfl rfl HH361 (fun aa362 HH362 => ?_)
            clear HH361
            refine LG_skip (HH362.unwant rfl rfl rfl rfl) rfl rfl HH362 (fun aa363 HH363 => ?_)
            clear HH362
            refine LG_skip (HH363.unwant rfl rfl rfl rfl) rfl rfl HH363 (fun aa364 HH364 => ?_)
            clear HH363
            refine LG_val (want0 rfl) rfl rfl HH364 (Y_pickF HH364 rfl rfl rfl) (fun aa365 HH365 => ?_)
            clear HH364
            refine LG_val (want0 rfl) rfl rfl HH365 (Y_mov HH365 rfl rfl) (fun aa366 HH366 => ?_)
            clear HH365
            refine LG_skip (HH366.unwant rfl rfl rfl rfl) rfl rfl HH366 (fun aa367 HH367 => ?_)
            clear HH366
            refine LG_skip (HH367.unwant rfl rfl rfl rfl) rfl rfl HH367 (fun aa368 HH368 => ?_)
            clear HH367
            refine LG_skip (HH368.unwant rfl rfl rfl rfl) rfl rfl HH368 (fun aa369 HH369 => ?_)
            clear HH368
            refine LG_val (want0 rfl) rfl rfl HH369 (Y_pickF HH369 rfl rfl rfl) (fun aa370 HH370 => ?_)
            clear HH369
            refine LG_val (want0 rfl) rfl rfl HH370 (Y_mov HH370 rfl rfl) (fun aa371 HH371 => ?_)
            clear HH370
            refine LG_skip (HH371.unwant rfl rfl rfl rfl) rfl rfl HH371 (fun aa372 HH372 => ?_)
            clear HH371
            refine LG_skip (HH372.unwant rfl rfl rfl rfl) rfl rfl HH372 (fun aa373 HH373 => ?_)
            clear HH372
            refine LG_skip (HH373.unwant rfl rfl rfl rfl) rfl rfl HH373 (fun aa374 HH374 => ?_)
            clear HH373
            refine LG_val (want0 rfl) rfl rfl HH374 (Y_pickF HH374 rfl rfl rfl) (fun aa375 HH375 => ?_)
            clear HH374
            refine LG_val (want0 rfl) rfl rfl HH375 (Y_mov HH375 rfl rfl) (fun aa376 HH376 => ?_)
            clear HH375
            refine LG_skip (HH376.unwant rfl rfl rfl rfl) rfl rfl HH376 (fun aa377 HH377 => ?_)
            clear HH376
            refine LG_skip (HH377.unwant rfl rfl rfl rfl) rfl rfl HH377 (fun aa378 HH378 => ?_)
            clear HH377
            refine LG_skip (HH378.unwant rfl rfl rfl rfl) rfl rfl HH378 (fun aa379 HH379 => ?_)
            clear HH378
            refine LG_val (want0 rfl) rfl rfl HH379 (Y_pickF HH379 rfl rfl rfl) (fun aa380 HH380 => ?_)
            clear HH379
            refine LG_val (want0 rfl) rfl rfl HH380 (Y_mov HH380 rfl rfl) (fun aa381 HH381 => ?_)
            clear HH380
            refine LG_skip (HH381.unwant rfl rfl rfl rfl) rfl rfl HH381 (fun aa382 HH382 => ?_)
            clear HH381
            refine LG_skip (HH382.unwant rfl rfl rfl rfl) rfl rfl HH382 (fun aa383 HH383 => ?_)
            clear HH382
            refine LG_skip (HH383.unwant rfl rfl rfl rfl) rfl rfl HH383 (fun aa384 HH384 => ?_)
            clear HH383
            refine LG_val (want0 rfl) rfl rfl HH384 (Y_pickF HH384 rfl rfl rfl) (fun aa385 HH385 => ?_)
            clear HH384
            refine LG_val (want0 rfl) rfl rfl HH385 (Y_mov HH385 rfl rfl) (fun aa386 HH386 => ?_)
            clear HH385
            refine LG_skip (HH386.unwant rfl rfl rfl rfl) rfl rfl HH386 (fun aa387 HH387 => ?_)
            clear HH386
            refine LG_skip (HH387.unwant rfl rfl rfl rfl) rfl rfl HH387 (fun aa388 HH388 => ?_)
            clear HH387
            refine LG_skip (HH388.unwant rfl rfl rfl rfl) rfl rfl HH388 (fun aa389 HH389 => ?_)
            clear HH388
            refine LG_val (want0 rfl) rfl rfl HH389 (Y_pickF HH389 rfl rfl rfl) (fun aa390 HH390 => ?_)
            clear HH389
            refine LG_val (want0 rfl) rfl rfl HH390 (Y_mov HH390 rfl rfl) (fun aa391 HH391 => ?_)
            clear HH390
            refine LG_skip (HH391.unwant rfl rfl rfl rfl) rfl rfl HH391 (fun aa392 HH392 => ?_)
            clear HH391
            refine LG_skip (HH392.unwant rfl rfl rfl rfl) rfl rfl HH392 (fun aa393 HH393 => ?_)
            clear HH392
            refine LG_skip (HH393.unwant rfl rfl rfl rfl) rfl rfl HH393 (fun aa394 HH394 => ?_)
            clear HH393
            refine LG_skip (HH394.unwant rfl rfl rfl rfl) rfl rfl HH394 (fun aa395 HH395 => ?_)
            clear HH394
            refine LG_val (want0 rfl) rfl rfl HH395 (Y_pickF HH395 rfl rfl rfl) (fun aa396 HH396 => ?_)
            clear HH395
            refine LG_val (want0 rfl) rfl rfl HH396 (Y_asg HH396 rfl rfl) (fun aa397 HH397 => ?_)
            clear HH396
            refine L_end (t_norm (hKK4 _ _ ?_))
            refine wp_ret (ret1 rfl HH397 rfl ?_)
            have hr : ¬ p.right := by unfold Pkt.right; omega
            exact ⟨by rw [decide_eq_false hr], SS2.tail⟩
        ·
          refine LG_val (HH20.want rfl rfl rfl) rfl rfl HH20 (Y_no (Y_lss HH20 rfl rfl rfl) (v1)) (fun aa398 HH398 => ?_)
          clear HH20
          refine LG_val (want0 rfl) rfl rfl HH398 (Y_pickT HH398 rfl rfl rfl) (fun aa399 HH399 => ?_)
          clear HH398
          refine LG_val (want0 rfl) rfl rfl HH399 (Y_mov HH399 rfl rfl) (fun aa400 HH400 => ?_)
          clear HH399
          refine LG_skip (HH400.unwant rfl rfl rfl rfl) rfl rfl HH400 (fun aa401 HH401 => ?_)
          clear HH400
          refine LG_skip (HH401.unwant rfl rfl rfl rfl) rfl rfl HH401 (fun aa402 HH402 => ?_)
          clear HH401
          refine LG_skip (HH402.unwant rfl rfl rfl rfl) rfl rfl HH402 (fun aa403 HH403 => ?_)
          clear HH402
          refine LG_val (want0 rfl) rfl rfl HH403 (Y_pickF HH403 rfl rfl rfl) (fun aa404 HH404 => ?_)
          clear HH403
          refine LG_val (want0 rfl) rfl rfl HH404 (Y_mov HH404 rfl rfl) (fun aa405 HH405 => ?_)
          clear HH404
          refine LG_skip (HH405.unwant rfl rfl rfl rfl) rfl rfl HH405 (fun aa406 HH406 => ?_)
          clear HH405
          refine LG_skip (HH406.unwant rfl rfl rfl rfl) rfl rfl HH406 (fun aa407 HH407 => ?_)
          clear HH406
          refine LG_skip (HH407.unwant rfl rfl rfl rfl) rfl rfl HH407 (fun aa408 HH408 => ?_)
          clear HH407
          refine LG_val (want0 rfl) rfl rfl HH408 (Y_pickF HH408 rfl rfl rfl) (fun aa409 HH409 => ?_)
          clear HH408
          refine LG_val (want0 rfl) rfl rfl HH409 (Y_mov HH409 rfl rfl) (fun aa410 HH410 => ?_)
          clear HH409
          refine LG_skip (HH410.unwant rfl rfl rfl rfl) rfl rfl HH410 (fun aa411 HH411 => ?_)
          clear HH410
          refine LG_skip (HH411.unwant rfl rfl rfl rfl) rfl rfl HH411 (fun aa412 HH412 => ?_)
          clear HH411
          refine LG_skip (HH412.unwant rfl rfl rfl rfl) rfl rfl HH412 (fun aa413 HH413 => ?_)
          clear HH412
          refine LG_val (want0 rfl) rfl rfl HH413 (Y_pickF HH413 rfl rfl rfl) (fun aa414 HH414 => ?_)
          clear HH413
          refine LG_val (want0 rfl) rfl rfl HH414 (Y_mov HH414 rfl rfl) (fun aa415 HH415 => ?_)
          clear HH414
          refine LG_skip (HH415.unwant rfl rfl rfl rfl) rfl rfl HH415 (fun aa416 HH416 => ?_)
          clear HH415
          refine LG_skip (HH416.unwant rfl rfl rfl rfl) rfl rfl HH416 (fun aa417 HH417 => ?_)
          clear HH416
          refine LG_skip (HH417.unwant rfl rfl rfl rfl) rfl rfl HH417 (fun aa418 HH418 => ?_)
          clear HH417
          refine LG_val (want0 rfl) rfl rfl HH418 (Y_pickF HH418 rfl rfl rfl) (fun aa419 HH419 => ?_)
          clear HH418
          refine LG_val (want0 rfl) rfl rfl HH419 (Y_mov HH419 rfl rfl) (fun aa420 HH420 => ?_)
          clear HH419
          refine LG_skip (HH420.unwant rfl rfl rfl rfl) rfl rfl HH420 (fun aa421 HH421 => ?_)
          clear HH420
          refine LG_skip (HH421.unwant rfl rfl rfl rfl) rfl rfl HH421 (fun aa422 HH422 => ?_)
          clear HH421
          refine LG_skip (HH422.unwant rfl rfl rfl rfl) rfl rfl HH422 (fun aa423 HH423 => ?_)
          clear HH422
          refine LG_val (want0 rfl) rfl rfl HH423 (Y_pickF HH423 rfl rfl rfl) (fun aa424 HH424 => ?_)
          clear HH423
          refine LG_val (want0 rfl) rfl rfl HH424 (Y_mov HH424 rfl rfl) (fun aa425 HH425 => ?_)
          clear HH424
          refine LG_skip (HH425.unwant rfl rfl rfl rfl) rfl rfl HH425 (fun aa426 HH426 => ?_)
          clear HH425
          refine LG_skip (HH426.unwant rfl rfl rfl rfl) rfl rfl HH426 (fun aa427 HH427 => ?_)
          clear HH426
          refine LG_skip (HH427.unwant rfl rfl rfl rfl) rfl rfl HH427 (fun aa428 HH428 => ?_)
          clear HH427
          refine LG_val (want0 rfl) rfl rfl HH428 (Y_pickF HH428 rfl rfl rfl) (fun aa429 HH429 => ?_)
          clear HH428
          refine LG_val (want0 rfl) rfl rfl HH429 (Y_mov HH429 rfl rfl) (fun aa430 HH430 => ?_)
          clear HH429
          refine LG_skip (HH430.unwant rfl rfl rfl rfl) rfl rfl HH430 (fun aa431 HH431 => ?_)
          clear HH430
          refine LG_skip (HH431.unwant rfl rfl rfl rfl) rfl rfl HH431 (fun aa432 HH432 => ?_)
          clear HH431
          refine LG_skip (HH432.unwant rfl rfl rfl rfl) rfl rfl HH432 (fun aa433 HH433 => ?_)
          clear HH432
          refine LG_val (want0 rfl) rfl rfl HH433 (Y_pickF HH433 rfl rfl rfl) (fun aa434 HH434 => ?_)
          clear HH433
          refine LG_val (want0 rfl) rfl rfl HH434 (Y_mov HH434 rfl rfl) (fun aa435 HH435 => ?_)
          clear HH434
          refine LG_skip (HH435.unwant rfl rfl rfl rfl) rfl rfl HH435 (fun aa436 HH436 => ?_)
          clear HH435
          refine LG_skip (HH436.unwant rfl rfl rfl rfl) rfl rfl HH436 (fun aa437 HH437 => ?_)
          clear HH436
          refine LG_skip (HH437.unwant rfl rfl rfl rfl) rfl rfl HH437 (fun aa438 HH438 => ?_)
          clear HH437
          refine LG_val (want0 rfl) rfl rfl HH438 (Y_pickF HH438 rfl rfl rfl) (fun aa439 HH439 => ?_)
          clear HH438
          refine LG_val (want0 rfl) rfl rfl HH439 (Y_mov HH439 rfl rfl) (fun aa440 HH440 => ?_)
          clear HH439
          refine LG_skip (HH440.unwant rfl rfl rfl rfl) rfl rfl HH440 (fun aa441 HH441 => ?_)
          clear HH440
          refine LG_skip (HH441.unwant rfl rfl rfl rfl) rfl rfl HH441 (fun aa442 HH442 => ?_)
          clear HH441
          refine LG_skip (HH442.unwant rfl rfl rfl rfl) rfl rfl HH442 (fun aa443 HH443 => ?_)
          clear HH442
          refine LG_val (want0 rfl) rfl rfl HH443 (Y_pickF HH443 rfl rfl rfl) (fun aa444 HH444 => ?_)
          clear HH443
          refine LG_val (want0 rfl) rfl rfl HH444 (Y_mov HH444 rfl rfl) (fun aa445 HH445 => ?_)
          clear HH444
          refine LG_skip (HH445.unwant rfl rfl rfl rfl) rfl rfl HH445 (fun aa446 HH446 => ?_)
          clear HH445
          refine LG_skip (HH446.unwant rfl rfl rfl rfl) rfl rfl HH446 (fun aa447 HH447 => ?_)
          clear HH446
          refine LG_skip (HH447.unwant rfl rfl rfl rfl) rfl rfl HH447 (fun aa448 HH448 => ?_)
          clear HH447
          refine LG_val (want0 rfl) rfl rfl HH448 (Y_pickF HH448 rfl rfl rfl) (fun aa449 HH449 => ?_)
          clear HH448
          refine LG_val (want0 rfl) rfl rfl HH449 (Y_mov HH449 rfl rfl) (fun aa450 HH450 => ?_)
          clear HH449
          refine LG_skip (HH450.unwant rfl rfl rfl rfl) rfl rfl HH450 (fun aa451 HH451 => ?_)
          clear HH450
          refine LG_skip (HH451.unwant rfl rfl rfl rfl) rfl rfl HH451 (fun aa452 HH452 => ?_)
          clear HH451
          refine LG_skip (HH452.unwant rfl rfl rfl rfl) rfl rfl HH452 (fun aa453 HH453 => ?_)
          clear HH452
          refine LG_skip (HH453.unwant rfl rfl rfl rfl) rfl rfl HH453 (fun aa454 HH454 => ?_)
          clear HH453
          refine LG_val (want0 rfl) rfl rfl HH454 (Y_pickF HH454 rfl rfl rfl) (fun aa455 HH455 => ?_)
          clear HH454
          refine LG_val (want0 rfl) rfl rfl HH455 (Y_asg HH455 rfl rfl) (fun aa456 HH456 => ?_)
          clear HH455
          refine L_end (t_norm (hKK4 _ _ ?_))
          refine wp_ret (ret1 rfl HH456 rfl ?_)
          have hr : ¬ p.right := by unfold Pkt.right; omega
          exact ⟨by rw [decide_eq_false hr], SS2.tail⟩
      ·
        refine LG_val (HH15.want rfl rfl rfl) rfl rfl HH15 (Y_no (Y_geq HH15 rfl rfl rfl) (u1)) (fun aa457 HH457 => ?_)
        clear HH15
        refine LG_val (want0 rfl) rfl rfl HH457 (Y_pickT HH457 rfl rfl rfl) (fun aa458 HH458 => ?_)
        clear HH457
        refine LG_val (want0 rfl) rfl rfl HH458 (Y_mov HH458 rfl rfl) (fun aa459 HH459 => ?_)
        clear HH458
        refine LG_skip (HH459.unwant rfl rfl rfl rfl) rfl rfl HH459 (fun aa460 HH460 => ?_)
        clear HH459
        refine LG_skip (HH460.unwant rfl rfl rfl rfl) rfl rfl HH460 (fun aa461 HH461 => ?_)
        clear HH460
        refine LG_skip (HH461.unwant rfl rfl rfl rfl) rfl rfl HH461 (fun aa462 HH462 => ?_)
        clear HH461
        refine LG_val (want0 rfl) rfl rfl HH462 (Y_pickF HH462 rfl rfl rfl) (fun aa463 HH463 => ?_)
        clear HH462
        refine LG_val (want0 rfl) rfl rfl HH463 (Y_mov HH463 rfl rfl) (fun aa464 HH464 => ?_)
        clear HH463
        refine LG_skip (HH464.unwant rfl rfl rfl rfl) rfl rfl HH464 (fun aa465 HH465 => ?_)
        clear HH464
        refine LG_skip (HH465.unwant rfl rfl rfl rfl) rfl rfl HH465 (fun aa466 HH466 => ?_)
        clear HH465
        refine LG_skip (HH466.unwant rfl rfl rfl rfl) rfl rfl HH466 (fun aa467 HH467 => ?_)
        clear HH466
        refine LG_val (want0 rfl) rfl rfl HH467 (Y_pickF HH467 rfl rfl rfl) (fun aa468 HH468 => ?_)
        clear HH467
        refine LG_val (want0 rfl) rfl rfl HH468 (Y_mov HH468 rfl rfl) (fun aa469 HH469 => ?_)
        clear HH468
        refine LG_skip (HH469.unwant rfl rfl rfl rfl) rfl rfl HH469 (fun aa470 HH470 => ?_)
        clear HH469
        refine LG_skip (HH470.unwant rfl rfl rfl rfl) rfl rfl HH470 (fun aa471 HH471 => ?_)
        clear HH470
        refine LG_skip (HH471.unwant rfl rfl rfl rfl) rfl rfl HH471 (fun aa472 HH472 => ?_)
        clear HH471
        refine LG_val (want0 rfl) rfl rfl HH472 (Y_pickF HH472 rfl rfl rfl) (fun aa473 HH473 => ?_)
        clear HH472
        refine LG_val (want0 rfl) rfl rfl HH473 (Y_mov HH473 rfl rfl) (fun aa474 HH474 => ?_)
        clear HH473
        refine LG_skip (HH474.unwant rfl rfl rfl rfl) rfl rfl HH474 (fun aa475 HH475 => ?_)
        clear HH474
        refine LG_skip (HH475.unwant rfl rfl rfl rfl) rfl rfl HH475 (fun aa476 HH476 => ?_)
        clear HH475
        refine LG_skip (HH476.unwant rfl rfl rfl rfl) rfl rfl HH476 (fun aa477 HH477 => ?_)
        clear HH476
        refine LG_val (want0 rfl) rfl rfl HH477 (Y_pickF HH477 rfl rfl rfl) (fun aa478 HH478 => ?_)
        clear HH477
        refine LG_val (want0 rfl) rfl rfl HH478 (Y_mov HH478 rfl rfl) (fun aa479 HH479 => ?_)
        clear HH478
        refine LG_skip (HH479.unwant rfl rfl rfl rfl) rfl rfl HH479 (fun aa480 HH480 => ?_)
        clear HH479
        refine LG_skip (HH480.unwant rfl rfl rfl rfl) rfl rfl HH480 (fun aa481 HH481 => ?_)
        clear HH480
        refine LG_skip (HH481.unwant rfl rfl rfl rfl) rfl rfl HH481 (fun aa482 HH482 => ?_)
        clear HH481
        refine LG_val (want0 rfl) rfl rfl HH482 (Y_pickF HH482 rfl rfl rfl) (fun aa483 HH483 => ?_)
        clear HH482
        refine LG_val (want0 rfl) rfl rfl HH483 (Y_mov HH483 rfl rfl) (fun aa484 HH484 => ?_)
        clear HH483
        refine LG_skip (HH484.unwant rfl rfl rfl rfl) rfl rfl HH484 (fun aa485 HH485 => ?_)
        clear HH484
        refine LG_skip (HH485.unwant rfl rfl rfl rfl) rfl rfl HH485 (fun aa486 HH486 => ?_)
        clear HH485
        refine LG_skip (HH486.unwant rfl rfl rfl rfl) rfl rfl HH486 (fun aa487 HH487 => ?_)
        clear HH486
        refine LG_val (want0 rfl) rfl rfl HH487 (Y_pickF HH487 rfl rfl rfl) (fun aa488 HH488 => ?_)
        clear HH487
        refine LG_val (want0 rfl) rfl rfl HH488 (Y_mov HH488 rfl rfl) (fun aa489 HH489 => ?_)
        clear HH488
        refine LG_skip (HH489.unwant rfl rfl rfl rfl) rfl rfl HH489 (fun aa490 HH490 => ?_)
        clear HH489
        refine LG_skip (HH490.unwant rfl rfl rfl rfl) rfl rfl HH490 (fun aa491 HH491 => ?_)
        clear HH490
        refine LG_skip (HH491.unwant rfl rfl rfl rfl) rfl rfl HH491 (fun aa492 HH492 => ?_)
        clear HH491
        refine LG_val (want0 rfl) rfl rfl HH492 (Y_pickF HH492 rfl rfl rfl) (fun aa493 HH493 => ?_)
        clear HH492
        refine LG_val (want0 rfl) rfl rfl HH493 (Y_mov HH493 rfl rfl) (fun aa494 HH494 => ?_)
        clear HH493
        refine LG_skip (HH494.unwant rfl rfl rfl rfl) rfl rfl HH494 (fun aa495 HH495 => ?_)
        clear HH494
        refine LG_skip (HH495.unwant rfl rfl rfl rfl) rfl rfl HH495 (fun aa496 HH496 => ?_)
        clear HH495
        refine LG_skip (HH496.unwant rfl rfl rfl rfl) rfl rfl HH496 (fun aa497 HH497 => ?_)
        clear HH496
        refine LG_val (want0 rfl) rfl rfl HH497 (Y_pickF HH497 rfl rfl rfl) (fun aa498 HH498 => ?_)
        clear HH497
        refine LG_val (want0 rfl) rfl rfl HH498 (Y_mov HH498 rfl rfl) (fun aa499 HH499 => ?_)
        clear HH498
        refine LG_skip (HH499.unwant rfl rfl rfl rfl) rfl rfl HH499 (fun aa500 HH500 => ?_)
        clear HH499
        refine LG_skip (HH500.unwant rfl rfl rfl rfl) rfl rfl HH500 (fun aa501 HH501 => ?_)
        clear HH500
        refine LG_skip (HH501.unwant rfl rfl rfl rfl) rfl rfl HH501 (fun aa502 HH502 => ?_)
        clear HH501
        refine LG_val (want0 rfl) rfl rfl HH502 (Y_pickF HH502 rfl rfl rfl) (fun aa503 HH503 => ?_)
        clear HH502
        refine LG_val (want0 rfl) rfl rfl HH503 (Y_mov HH503 rfl rfl) (fun aa504 HH504 => ?_)
        clear HH503
        refine LG_skip (HH504.unwant rfl rfl rfl rfl) rfl rfl HH504 (fun aa505 HH505 => ?_)
        clear HH504
        refine LG_skip (HH505.unwant rfl rfl rfl rfl) rfl rfl HH505 (fun aa506 HH506 => ?_)
        clear HH505
        refine LG_skip (HH506.unwant rfl rfl rfl rfl) rfl rfl HH506 (fun aa507 HH507 => ?_)
        clear HH506
        refine LG_val (want0 rfl) rfl rfl HH507 (Y_pickF HH507 rfl rfl rfl) (fun aa508 HH508 => ?_)
        clear HH507
        refine LG_val (want0 rfl) rfl rfl HH508 (Y_mov HH508 rfl rfl) (fun aa509 HH509 => ?_)
        clear HH508
        refine LG_skip (HH509.unwant rfl rfl rfl rfl) rfl rfl HH509 (fun aa510 HH510 => ?_)
        clear HH509
        refine LG_skip (HH510.unwant rfl rfl rfl rfl) rfl rfl HH510 (fun aa511 HH511 => ?_)
        clear HH510
        refine LG_skip (HH511.unwant rfl rfl rfl rfl) rfl rfl HH511 (fun aa512 HH512 => ?_)
        clear HH511
        refine LG_val (want0 rfl) rfl rfl HH512 (Y_pickF HH512 rfl rfl rfl) (fun aa513 HH513 => ?_)
        clear HH512
        refine LG_val (want0 rfl) rfl rfl HH513 (Y_mov HH513 rfl rfl) (fun aa514 HH514 => ?_)
        clear HH513
        refine LG_skip (HH514.unwant rfl rfl rfl rfl) rfl rfl HH514 (fun aa515 HH515 => ?_)
        clear HH514
        refine LG_skip (HH515.unwant rfl rfl rfl rfl) rfl rfl HH515 (fun aa516 HH516 => ?_)
        clear HH515
        refine LG_skip (HH516.unwant rfl rfl rfl rfl) rfl rfl HH516 (fun aa517 HH517 => ?_)
        clear HH516
        refine LG_skip (HH517.unwant rfl rfl rfl rfl) rfl rfl HH517 (fun aa518 HH518 => ?_)
        clear HH517
        refine LG_val (want0 rfl) rfl rfl HH518 (Y_pickF HH518 rfl rfl rfl) (fun aa519 HH519 => ?_)
        clear HH518
        refine LG_val (want0 rfl) rfl rfl HH519 (Y_asg HH519 rfl rfl) (fun aa520 HH520 => ?_)
        clear HH519
        refine L_end (t_norm (hKK4 _ _ ?_))
        refine wp_ret (ret1 rfl HH520 rfl ?_)
        have hr : ¬ p.right := by unfold Pkt.right; omega
        exact ⟨by rw [decide_eq_false hr], SS2.tail⟩
    ·
      refine LG_val (HH10.want rfl rfl rfl) rfl rfl HH10 (Y_no (Y_leq HH10 rfl rfl rfl) (v0)) (fun aa521 HH521 => ?_)
      clear HH10
      refine LG_val (want0 rfl) rfl rfl HH521 (Y_pickT HH521 rfl rfl rfl) (fun aa522 HH522 => ?_)
      clear HH521
      refine LG_val (want0 rfl) rfl rfl HH522 (Y_mov HH522 rfl rfl) (fun aa523 HH523 => ?_)
      clear HH522
      refine LG_skip (HH523.unwant rfl rfl rfl rfl) rfl rfl HH523 (fun aa524 HH524 => ?_)
      clear HH523
      refine LG_skip (HH524.unwant rfl rfl rfl rfl) rfl rfl HH524 (fun aa525 HH525 => ?_)
      clear HH524
      refine LG_skip (HH525.unwant rfl rfl rfl rfl) rfl rfl HH525 (fun aa526 HH526 => ?_)
      clear HH525
      refine LG_val (want0 rfl) rfl rfl HH526 (Y_pickF HH526 rfl rfl rfl) (fun aa527 HH527 => ?_)
      clear HH526
      refine LG_val (want0 rfl) rfl rfl HH527 (Y_mov HH527 rfl rfl) (fun aa528 HH528 => ?_)
      clear HH527
      refine LG_skip (HH528.unwant rfl rfl rfl rfl) rfl rfl HH528 (fun aa529 HH529 => ?_)
      clear HH528
      refine LG_skip (HH529.unwant rfl rfl rfl rfl) rfl rfl HH529 (fun aa530 HH530 => ?_)
      clear HH529
      refine LG_skip (HH530.unwant rfl rfl rfl rfl) rfl rfl HH530 (fun aa531 HH531 => ?_)
      clear HH530
      refine LG_val (want0 rfl) rfl rfl HH531 (Y_pickF HH531 rfl rfl rfl) (fun aa532 HH532 => ?_)
      clear HH531
      refine LG_val (want0 rfl) rfl rfl HH532 (Y_mov HH532 rfl rfl) (fun aa533 HH533 => ?_)
      clear HH532
      refine LG_skip (HH533.unwant rfl rfl rfl rfl) rfl rfl HH533 (fun aa534 HH534 => ?_)
      clear HH533
      refine LG_skip (HH534.unwant rfl rfl rfl rfl) rfl rfl HH534 (fun aa535 HH535 => ?_)
      clear HH534
      refine LG_skip (HH535.unwant rfl rfl rfl rfl) rfl rfl HH535 (fun aa536 HH536 => ?_)
      clear HH535
      refine LG_val (want0 rfl) rfl rfl HH536 (Y_pickF HH536 rfl rfl rfl) (fun aa537 HH537 => ?_)
      clear HH536
      refine LG_val (want0 rfl) rfl rfl HH537 (Y_mov HH537 rfl rfl) (fun aa538 HH538 => ?_)
      clear HH537
      refine LG_skip (HH538.unwant rfl rfl rfl rfl) rfl rfl HH538 (fun aa539 HH539 => ?_)
      clear HH538
      refine LG_skip (HH539.unwant rfl rfl rfl rfl) rfl rfl HH539 (fun aa540 HH540 => ?_)
      clear HH539
      refine LG_skip (HH540.unwant rfl rfl rfl rfl) rfl rfl HH540 (fun aa541 HH541 => ?_)
      clear HH540
      refine LG_val (want0 rfl) rfl rfl HH541 (Y_pickF HH541 rfl rfl rfl) (fun aa542 HH542 => ?_)
      clear HH541
      refine LG_val (want0 rfl) rfl rfl HH542 (Y_mov HH542 rfl rfl) (fun aa543 HH543 => ?_)
      clear HH542
      refine LG_skip (HH543.unwant rfl rfl rfl rfl) rfl rfl HH543 (fun aa544 HH544 => ?_)
      clear HH543
      refine LG_skip (HH544.unwant rfl rfl rfl rfl) rfl rfl HH544 (fun aa545 HH545 => ?_)
      clear HH544
      refine LG_skip (HH545.unwant rfl rfl rfl rfl) rfl rfl HH545 (fun aa546 HH546 => ?_)
      clear HH545
      refine LG_val (want0 rfl) rfl rfl HH546 (Y_pickF HH546 rfl rfl rfl) (fun aa547 HH547 => ?_)
      clear HH546
      refine LG_val (want0 rfl) rfl rfl HH547 (Y_mov HH547 rfl rfl) (fun aa548 HH548 => ?_)
      clear HH547
      refine LG_skip (HH548.unwant rfl rfl rfl rfl) rfl rfl HH548 (fun aa549 HH549 => ?_)
      clear HH548
      refine LG_skip (HH549.unwant rfl rfl rfl rfl) rfl rfl HH549 (fun aa550 HH550 => ?_)
      clear HH549
      refine LG_skip (HH550.unwant rfl rfl rfl rfl) rfl rfl HH550 (fun aa551 HH551 => ?_)
      clear HH550
      refine LG_val (want0 rfl) rfl rfl HH551 (Y_pickF HH551 rfl rfl rfl) (fun aa552 HH552 => ?_)
      clear HH551
      refine LG_val (want0 rfl) rfl rfl HH552 (Y_mov HH552 rfl rfl) (fun aa553 HH553 => ?_)
      clear HH552
      refine LG_skip (HH553.unwant rfl rfl rfl rfl) rfl rfl HH553 (fun aa554 HH554 => ?_)
      clear HH553
      refine LG_skip (HH554.unwant rfl rfl rfl rfl) rfl rfl HH554 (fun aa555 HH555 => ?_)
      clear HH554
      refine LG_skip (HH555.unwant rfl rfl rfl rfl) rfl rfl HH555 (fun aa556 HH556 => ?_)
      clear HH555
      refine LG_val (want0 rfl) rfl rfl HH556 (Y_pickF HH556 rfl rfl rfl) (fun aa557 HH557 => ?_)
      clear HH556
      refine LG_val (want0 rfl) rfl rfl HH557 (Y_mov HH557 rfl rfl) (fun aa558 HH558 => ?_)
      clear HH557
      refine LG_skip (HH558.unwant rfl rfl rfl rfl) rfl rfl HH558 (fun aa559 HH559 => ?_)
      clear HH558
      refine LG_skip (HH559.unwant rfl rfl rfl rfl) rfl rfl HH559 (fun aa560 HH560 => ?_)
      clear HH559
      refine LG_skip (HH560.unwant rfl rfl rfl rfl) rfl rfl HH560 (fun aa561 HH561 => ?_)
      clear HH560
      refine LG_val (want0 rfl) rfl rfl HH561 (Y_pickF HH561 rfl rfl rfl) (fun aa562 HH562 => ?_)
      clear HH561
      refine LG_val (want0 rfl) rfl rfl HH562 (Y_mov HH562 rfl rfl) (fun aa563 HH563 => ?_)
      clear HH562
      refine LG_skip (HH563.unwant rfl rfl rfl rfl) rfl rfl HH563 (fun aa564 HH564 => ?_)
      clear HH563
      refine LG_skip (HH564.unwant rfl rfl rfl rfl) rfl rfl HH564 (fun aa565 HH565 => ?_)
      clear HH564
      refine LG_skip (HH565.unwant rfl rfl rfl rfl) rfl rfl HH565 (fun aa566 HH566 => ?_)
      clear HH565
      refine LG_val (want0 rfl) rfl rfl HH566 (Y_pickF HH566 rfl rfl rfl) (fun aa567 HH567 => ?_)
      clear HH566
      refine LG_val (want0 rfl) rfl rfl HH567 (Y_mov HH567 rfl rfl) (fun aa568 HH568 => ?_)
      clear HH567
      refine LG_skip (HH568.unwant rfl rfl rfl rfl) rfl rfl HH568 (fun aa569 HH569 => ?_)
      clear HH568
      refine LG_skip (HH569.unwant rfl rfl rfl rfl) rfl rfl HH569 (fun aa570 HH570 => ?_)
      clear HH569
      refine LG_skip (HH570.unwant rfl rfl rfl rfl) rfl rfl HH570 (fun aa571 HH571 => ?_)
      clear HH570
      refine LG_val (want0 rfl) rfl rfl HH571 (Y_pickF HH571 rfl rfl rfl) (fun aa572 HH572 => ?_)
      clear HH571
      refine LG_val (want0 rfl) rfl rfl HH572 (Y_mov HH572 rfl rfl) (fun aa573 HH573 => ?_)
      clear HH572
      refine LG_skip (HH573.unwant rfl rfl rfl rfl) rfl rfl HH573 (fun aa574 HH574 => ?_)
      clear HH573
      refine LG_skip (HH574.unwant rfl rfl rfl rfl) rfl rfl HH574 (fun aa575 HH575 => ?_)
      clear HH574
      refine LG_skip (HH575.unwant rfl rfl rfl rfl) rfl rfl HH575 (fun aa576 HH576 => ?_)
      clear HH575
      refine LG_val (want0 rfl) rfl rfl HH576 (Y_pickF HH576 rfl rfl rfl) (fun aa577 HH577 => ?_)
      clear HH576
      refine LG_val (want0 rfl) rfl rfl HH577 (Y_mov HH577 rfl rfl) (fun aa578 HH578 => ?_)
      clear HH577
      refine LG_skip (HH578.unwant rfl rfl rfl rfl) rfl rfl HH578 (fun aa579 HH579 => ?_)
      clear HH578
      refine LG_skip (HH579.unwant rfl rfl rfl rfl) rfl rfl HH579 (fun aa580 HH580 => ?_)
      clear HH579
      refine LG_skip (HH580.unwant rfl rfl rfl rfl) rfl rfl HH580 (fun aa581 HH581 => ?_)
      clear HH580
      refine LG_val (want0 rfl) rfl rfl HH581 (Y_pickF HH581 rfl rfl rfl) (fun aa582 HH582 => ?_)
      clear HH581
      refine LG_val (want0 rfl) rfl rfl HH582 (Y_mov HH582 rfl rfl) (fun aa583 HH583 => ?_)
      clear HH582
      refine LG_skip (HH583.unwant rfl rfl rfl rfl) rfl rfl HH583 (fun aa584 HH584 => ?_)
      clear HH583
      refine LG_skip (HH584.unwant rfl rfl rfl rfl) rfl rfl HH584 (fun aa585 HH585 => ?_)
      clear HH584
      refine LG_skip (HH585.unwant rfl rfl rfl rfl) rfl rfl HH585 (fun aa586 HH586 => ?_)
      clear HH585
      refine LG_skip (HH586.unwant rfl rfl rfl rfl) rfl rfl HH586 (fun aa587 HH587 => ?_)
      clear HH586
      refine LG_val (want0 rfl) rfl rfl HH587 (Y_pickF HH587 rfl rfl rfl) (fun aa588 HH588 => ?_)
      clear HH587
      refine LG_val (want0 rfl) rfl rfl HH588 (Y_asg HH588 rfl rfl) (fun aa589 HH589 => ?_)
      clear HH588
      refine L_end (t_norm (hKK4 _ _ ?_))
      refine wp_ret (ret1 rfl HH589 rfl ?_)
      have hr : ¬ p.right := by unfold Pkt.right; omega
      exact ⟨by rw [decide_eq_false hr], SS2.tail⟩
  ·
    refine LG_val (want0 rfl) rfl rfl HH6 (Y_no (Y_geq HH6 rfl rfl rfl) (u0)) (fun aa590 HH590 => ?_)
    clear HH6
    refine LG_val (want0 rfl) rfl rfl HH590 (Y_mov HH590 rfl rfl) (fun aa591 HH591 => ?_)
    clear HH590
    refine LG_skip (HH591.unwant rfl rfl rfl rfl) rfl rfl HH591 (fun aa592 HH592 => ?_)
    clear HH591
    refine LG_skip (HH592.unwant rfl rfl rfl rfl) rfl rfl HH592 (fun aa593 HH593 => ?_)
    clear HH592
    refine LG_skip (HH593.unwant rfl rfl rfl rfl) rfl rfl HH593 (fun aa594 HH594 => ?_)
    clear HH593
    refine LG_val (want0 rfl) rfl rfl HH594 (Y_pickF HH594 rfl rfl rfl) (fun aa595 HH595 => ?_)
    clear HH594
    refine LG_val (want0 rfl) rfl rfl HH595 (Y_mov HH595 rfl rfl) (fun aa596 HH596 => ?_)
    clear HH595
    refine LG_skip (HH596.unwant rfl rfl rfl rfl) rfl rfl HH596 (fun aa597 HH597 => ?_)
    clear HH596
    refine LG_skip (HH597.unwant rfl rfl rfl rfl) rfl rfl HH597 (fun aa598 HH598 => ?_)
    clear HH597
    refine LG_skip (HH598.unwant rfl rfl rfl rfl) rfl rfl HH598 (fun aa599 HH599 => ?_)
    clear HH598
    refine LG_val (want0 rfl) rfl rfl HH599 (Y_pickF HH599 rfl rfl rfl) (fun aa600 HH600 => ?_)
    clear HH599
    refine LG_val (want0 rfl) rfl rfl HH600 (Y_mov HH600 rfl rfl) (fun aa601 HH601 => ?_)
    clear HH600
    refine LG_skip (HH601.unwant rfl rfl rfl rfl) rfl rfl HH601 (fun aa602 HH602 => ?_)
    clear HH601
    refine LG_skip (HH602.unwant rfl rfl rfl rfl) rfl rfl HH602 (fun aa603 HH603 => ?_)
    clear HH602
    refine LG_skip (HH603.unwant rfl rfl rfl rfl) rfl rfl HH603 (fun aa604 HH604 => ?_)
    clear HH603
    refine LG_val (want0 rfl) rfl rfl HH604 (Y_pickF HH604 rfl rfl rfl) (fun aa605 HH605 => ?_)
    clear HH604
    refine LG_val (want0 rfl) rfl rfl HH605 (Y_mov HH605 rfl rfl) (fun aa606 HH606 => ?_)
    clear HH605
    refine LG_skip (HH606.unwant rfl rfl rfl rfl) rfl rfl HH606 (fun aa607 HH607 => ?_)
    clear HH606
    refine LG_skip (HH607.unwant rfl rfl rfl rfl) rfl rfl HH607 (fun aa608 HH608 => ?_)
    clear HH607
    refine LG_skip (HH608.unwant rfl rfl rfl rfl) rfl rfl HH608 (fun aa609 HH609 => ?_)
    clear HH608
    refine LG_val (want0 rfl) rfl rfl HH609 (Y_pickF HH609 rfl rfl rfl) (fun aa610 HH610 => ?_)
    clear HH609
    refine LG_val (want0 rfl) rfl rfl HH610 (Y_mov HH610 rfl rfl) (fun aa611 HH611 => ?_)
    clear HH610
    refine LG_skip (HH611.unwant rfl rfl rfl rfl) rfl rfl HH611 (fun aa612 HH612 => ?_)
    clear HH611
    refine LG_skip (HH612.unwant rfl rfl rfl rfl) rfl rfl HH612 (fun aa613 HH613 => ?_)
    clear HH612
    refine LG_skip (HH613.unwant rfl rfl rfl rfl) rfl rfl HH613 (fun aa614 HH614 => ?_)
    clear HH613
    refine LG_val (want0 rfl) rfl rfl HH614 (Y_pickF HH614 rfl rfl rfl) (fun aa615 HH615 => ?_)
    clear HH614
    refine LG_val (want0 rfl) rfl rfl HH615 (Y_mov HH615 rfl rfl) (fun aa616 HH616 => ?_)
    clear HH615
    refine LG_skip (HH616.unwant rfl rfl rfl rfl) rfl rfl HH616 (fun aa617 HH617 => ?_)
    clear HH616
    refine LG_skip (HH617.unwant rfl rfl rfl rfl) rfl rfl HH617 (fun aa618 HH618 => ?_)
    clear HH617
    refine LG_skip (HH618.unwant rfl rfl rfl rfl) rfl rfl HH618 (fun aa619 HH619 => ?_)
    clear HH618
    refine LG_val (want0 rfl) rfl rfl HH619 (Y_pickF HH619 rfl rfl rfl) (fun aa620 HH620 => ?_)
    clear HH619
    refine LG_val (want0 rfl) rfl rfl HH620 (Y_mov HH620 rfl rfl) (fun aa621 HH621 => ?_)
    clear HH620
    refine LG_skip (HH621.unwant rfl rfl rfl rfl) rfl rfl HH621 (fun aa622 HH622 => ?_)
    clear HH621
    refine LG_skip (HH622.unwant rfl rfl rfl rfl) rfl rfl HH622 (fun aa623 HH623 => ?_)
    clear HH622
    refine LG_skip (HH623.unwant rfl rfl rfl rfl) rfl rfl HH623 (fun aa624 HH624 => ?_)
    clear HH623
    refine LG_val (want0 rfl) rfl rfl HH624 (Y_pickF HH624 rfl rfl rfl) (fun aa625 HH625 => ?_)
    clear HH624
    refine LG_val (want0 rfl) rfl rfl HH625 (Y_mov HH625 rfl rfl) (fun aa626 HH626 => ?_)
    clear HH625
    refine LG_skip (HH626.unwant rfl rfl rfl rfl) rfl rfl HH626 (fun aa627 HH627 => ?_)
    clear HH626
    refine LG_skip (HH627.unwant rfl rfl rfl rfl) rfl rfl HH627 (fun aa628 HH628 => ?_)
    clear HH627
    refine LG_skip (HH628.unwant rfl rfl rfl rfl) rfl rfl HH628 (fun aa629 HH629 => ?_)
    clear HH628
    refine LG_val (want0 rfl) rfl rfl HH629 (Y_pickF HH629 rfl rfl rfl) (fun aa630 HH630 => ?_)
    clear HH629
    refine LG_val (want0 rfl) rfl rfl HH630 (Y_mov HH630 rfl rfl) (fun aa631 HH631 => ?_)
    clear HH630
    refine LG_skip (HH631.unwant rfl rfl rfl rfl) rfl rfl HH631 (fun aa632 HH632 => ?_)
    clear HH631
    refine LG_skip (HH632.unwant rfl rfl rfl rfl) rfl rfl HH632 (fun aa633 HH633 => ?_)
    clear HH632
    refine LG_skip (HH633.unwant rfl rfl rfl rfl) rfl rfl HH633 (fun aa634 HH634 => ?_)
    clear HH633
    refine LG_val (want0 rfl) rfl rfl HH634 (Y_pickF HH634 rfl rfl rfl) (fun aa635 HH635 => ?_)
    clear HH634
    refine LG_val (want0 rfl) rfl rfl HH635 (Y_mov HH635 rfl rfl) (fun aa636 HH636 => ?_)
    clear HH635
    refine LG_skip (HH636.unwant rfl rfl rfl rfl) rfl rfl HH636 (fun aa637 HH637 => ?_)
    clear HH636
    refine LG_skip (HH637.unwant rfl rfl rfl rfl) rfl rfl HH637 (fun aa638 HH638 => ?_)
    clear HH637
    refine LG_skip (HH638.unwant rfl rfl rfl rfl) rfl rfl HH638 (fun aa639 HH639 => ?_)
    clear HH638
    refine LG_val (want0 rfl) rfl rfl HH639 (Y_pickF HH639 rfl rfl rfl) (fun aa640 HH640 => ?_)
    clear HH639
    refine LG_val (want0 rfl) rfl rfl HH640 (Y_mov HH640 rfl rfl) (fun aa641 HH641 => ?_)
    clear HH640
    refine LG_skip (HH641.unwant rfl rfl rfl rfl) rfl rfl HH641 (fun aa642 HH642 => ?_)
    clear HH641
    refine LG_skip (HH642.unwant rfl rfl rfl rfl) rfl rfl HH642 (fun aa643 HH643 => ?_)
    clear HH642
    refine LG_skip (HH643.unwant rfl rfl rfl rfl) rfl rfl HH643 (fun aa644 HH644 => ?_)
    clear HH643
    refine LG_val (want0 rfl) rfl rfl HH644 (Y_pickF HH644 rfl rfl rfl) (fun aa645 HH645 => ?_)
    clear HH644
    refine LG_val (want0 rfl) rfl rfl HH645 (Y_mov HH645 rfl rfl) (fun aa646 HH646 => ?_)
    clear HH645
    refine LG_skip (HH646.unwant rfl rfl rfl rfl) rfl rfl HH646 (fun aa647 HH647 => ?_)
    clear HH646
    refine LG_skip (HH647.unwant rfl rfl rfl rfl) rfl rfl HH647 (fun aa648 HH648 => ?_)
    clear HH647
    refine LG_skip (HH648.unwant rfl rfl rfl rfl) rfl rfl HH648 (fun aa649 HH649 => ?_)
    clear HH648
    refine LG_val (want0 rfl) rfl rfl HH649 (Y_pickF HH649 rfl rfl rfl) (fun aa650 HH650 => ?_)
    clear HH649
    refine LG_val (want0 rfl) rfl rfl HH650 (Y_mov HH650 rfl rfl) (fun aa651 HH651 => ?_)
    clear HH650
    refine LG_skip (HH651.unwant rfl rfl rfl rfl) rfl rfl HH651 (fun aa652 HH652 => ?_)
    clear HH651
    refine LG_skip (HH652.unwant rfl rfl rfl rfl) rfl rfl HH652 (fun aa653 HH653 => ?_)
    clear HH652
    refine LG_skip (HH653.unwant rfl rfl rfl rfl) rfl rfl HH653 (fun aa654 HH654 => ?_)
    clear HH653
    refine LG_val (want0 rfl) rfl rfl HH654 (Y_pickF HH654 rfl rfl rfl) (fun aa655 HH655 => ?_)
    clear HH654
    refine LG_val (want0 rfl) rfl rfl HH655 (Y_mov HH655 rfl rfl) (fun aa656 HH656 => ?_)
    clear HH655
    refine LG_skip (HH656.unwant rfl rfl rfl rfl) rfl rfl HH656 (fun aa657 HH657 => ?_)
    clear HH656
    refine LG_skip (HH657.unwant rfl rfl rfl rfl) rfl rfl HH657 (fun aa658 HH658 => ?_)
    clear HH657
    refine LG_skip (HH658.unwant rfl rfl rfl rfl) rfl rfl HH658 (fun aa659 HH659 => ?_)
    clear HH658
    refine LG_skip (HH659.unwant rfl rfl rfl rfl) rfl rfl HH659 (fun aa660 HH660 => ?_)
    clear HH659
    refine LG_val (want0 rfl) rfl rfl HH660 (Y_pickF HH660 rfl rfl rfl) (fun aa661 HH661 => ?_)
    clear HH660
    refine LG_val (want0 rfl) rfl rfl HH661 (Y_asg HH661 rfl rfl) (fun aa662 HH662 => ?_)
    clear HH661
    refine L_end (t_norm (hKK4 _ _ ?_))
    refine wp_ret (ret1 rfl HH662 rfl ?_)
    have hr : ¬ p.right := by unfold Pkt.right; omega
    exact ⟨by rw [decide_eq_false hr], SS2.tail⟩

set_option maxRecDepth 100000 in
theorem ans_ok {w : World} (k : Int) : Calls Try.prog 72 #[VI k] w fun e w' => e = .returned (VI (ans k)) ∧ w = w' := by
  refine enter (n := 13) Try.func72 rfl [(0, VI k)] rfl rfl fun aa0 HH0 => ?_
  refine wp_seq_k fun KK1 hKK1 => ?_
  refine wp_region_lit ?_
  refine LG_val (want0 rfl) rfl rfl HH0 (Y_asg HH0 rfl rfl) (fun aa2 HH2 => ?_)
  clear HH0
  refine L_end (t_norm (hKK1 _ _ ?_))
  refine wp_seq_k fun KK3 hKK3 => ?_
  refine wp_seq_k fun KK4 hKK4 => ?_
  refine wp_region_lit ?_
  refine LG_val (want0 rfl) rfl rfl HH2 (Y_mov HH2 rfl rfl) (fun aa5 HH5 => ?_)
  clear HH2
  refine L_end (t_norm (hKK4 _ _ ?_))
  refine wp_block ?_
  refine wp_seq_k fun KK6 hKK6 => ?_
  refine wp_region_lit ?_
  by_cases a1 : k = 1
  ·
    refine LG_val (want0 rfl) rfl rfl HH5 (Y_yes (Y_eql HH5 rfl rfl rfl) (a1)) (fun aa7 HH7 => ?_)
    clear HH5
    refine LG_val (want0 rfl) rfl rfl HH7 (Y_asg HH7 rfl rfl) (fun aa8 HH8 => ?_)
    clear HH7
    refine L_end (t_norm (hKK6 _ _ ?_))
    refine c_yes HH8 rfl ?_
    refine wp_seq_k fun KK9 hKK9 => ?_
    refine wp_region_lit ?_
    refine LG_val (want0 rfl) rfl rfl HH8 (Y_asg HH8 rfl rfl) (fun aa10 HH10 => ?_)
    clear HH8
    refine L_end (t_norm (hKK9 _ _ ?_))
    refine wp_ret (b_ret (t_ret (ret1 rfl HH10 rfl ?_)))
    have e : ans k = 7 := by unfold ans; repeat' split <;> omega
    exact ⟨by rw [e], rfl⟩
  ·
    refine LG_val (want0 rfl) rfl rfl HH5 (Y_no (Y_eql HH5 rfl rfl rfl) (a1)) (fun aa11 HH11 => ?_)
    clear HH5
    refine LG_val (want0 rfl) rfl rfl HH11 (Y_asg HH11 rfl rfl) (fun aa12 HH12 => ?_)
    clear HH11
    refine L_end (t_norm (hKK6 _ _ ?_))
    refine c_no HH12 rfl ?_
    refine wp_seq_k fun KK13 hKK13 => ?_
    refine wp_seq_k fun KK14 hKK14 => ?_
    refine wp_region_lit ?_
    by_cases a2 : k = 2
    ·
      refine LG_val (want0 rfl) rfl rfl HH12 (Y_yes (Y_eql HH12 rfl rfl rfl) (a2)) (fun aa15 HH15 => ?_)
      clear HH12
      refine LG_val (want0 rfl) rfl rfl HH15 (Y_asg HH15 rfl rfl) (fun aa16 HH16 => ?_)
      clear HH15
      refine L_end (t_norm (hKK14 _ _ ?_))
      refine c_yes HH16 rfl ?_
      refine wp_skip (t_norm (hKK13 _ _ ?_))
      refine c_yes HH16 rfl ?_
      refine wp_seq_k fun KK17 hKK17 => ?_
      refine wp_region_lit ?_
      refine LG_val (want0 rfl) rfl rfl HH16 (Y_asg HH16 rfl rfl) (fun aa18 HH18 => ?_)
      clear HH16
      refine L_end (t_norm (hKK17 _ _ ?_))
      refine wp_ret (b_ret (t_ret (ret1 rfl HH18 rfl ?_)))
      have e : ans k = 8 := by unfold ans; repeat' split <;> omega
      exact ⟨by rw [e], rfl⟩
    ·
      refine LG_val (want0 rfl) rfl rfl HH12 (Y_no (Y_eql HH12 rfl rfl rfl) (a2)) (fun aa19 HH19 => ?_)
      clear HH12
      refine LG_val (want0 rfl) rfl rfl HH19 (Y_asg HH19 rfl rfl) (fun aa20 HH20 => ?_)
      clear HH19
      refine L_end (t_norm (hKK14 _ _ ?_))
      refine c_no HH20 rfl ?_
      refine wp_seq_k fun KK21 hKK21 => ?_
      refine wp_region_lit ?_
      by_cases a4 : k = 4
      ·
        refine LG_val (want0 rfl) rfl rfl HH20 (Y_yes (Y_eql HH20 rfl rfl rfl) (a4)) (fun aa22 HH22 => ?_)
        clear HH20
        refine LG_val (want0 rfl) rfl rfl HH22 (Y_asg HH22 rfl rfl) (fun aa23 HH23 => ?_)
        clear HH22
        refine L_end (t_norm (hKK21 _ _ ?_))
        refine c_yes HH23 rfl ?_
        refine wp_skip (t_norm (hKK13 _ _ ?_))
        refine c_yes HH23 rfl ?_
        refine wp_seq_k fun KK24 hKK24 => ?_
        refine wp_region_lit ?_
        refine LG_val (want0 rfl) rfl rfl HH23 (Y_asg HH23 rfl rfl) (fun aa25 HH25 => ?_)
        clear HH23
        refine L_end (t_norm (hKK24 _ _ ?_))
        refine wp_ret (b_ret (t_ret (ret1 rfl HH25 rfl ?_)))
        have e : ans k = 8 := by unfold ans; repeat' split <;> omega
        exact ⟨by rw [e], rfl⟩
      ·
        refine LG_val (want0 rfl) rfl rfl HH20 (Y_no (Y_eql HH20 rfl rfl rfl) (a4)) (fun aa26 HH26 => ?_)
        clear HH20
        refine LG_val (want0 rfl) rfl rfl HH26 (Y_asg HH26 rfl rfl) (fun aa27 HH27 => ?_)
        clear HH26
        refine L_end (t_norm (hKK21 _ _ ?_))
        refine c_no HH27 rfl ?_
        refine wp_region_lit ?_
        by_cases a5 : k = 5
        ·
          refine LG_val (want0 rfl) rfl rfl HH27 (Y_yes (Y_eql HH27 rfl rfl rfl) (a5)) (fun aa28 HH28 => ?_)
          clear HH27
          refine LG_val (want0 rfl) rfl rfl HH28 (Y_asg HH28 rfl rfl) (fun aa29 HH29 => ?_)
          clear HH28
          refine L_end (t_norm (hKK13 _ _ ?_))
          refine c_yes HH29 rfl ?_
          refine wp_seq_k fun KK30 hKK30 => ?_
          refine wp_region_lit ?_
          refine LG_val (want0 rfl) rfl rfl HH29 (Y_asg HH29 rfl rfl) (fun aa31 HH31 => ?_)
          clear HH29
          refine L_end (t_norm (hKK30 _ _ ?_))
          refine wp_ret (b_ret (t_ret (ret1 rfl HH31 rfl ?_)))
          have e : ans k = 8 := by unfold ans; repeat' split <;> omega
          exact ⟨by rw [e], rfl⟩
        ·
          refine LG_val (want0 rfl) rfl rfl HH27 (Y_no (Y_eql HH27 rfl rfl rfl) (a5)) (fun aa32 HH32 => ?_)
          clear HH27
          refine LG_val (want0 rfl) rfl rfl HH32 (Y_asg HH32 rfl rfl) (fun aa33 HH33 => ?_)
          clear HH32
          refine L_end (t_norm (hKK13 _ _ ?_))
          refine c_no HH33 rfl ?_
          refine wp_seq_k fun KK34 hKK34 => ?_
          refine wp_seq_k fun KK35 hKK35 => ?_
          refine wp_region_lit ?_
          by_cases a3 : k = 3
          ·
            refine LG_val (want0 rfl) rfl rfl HH33 (Y_yes (Y_eql HH33 rfl rfl rfl) (a3)) (fun aa36 HH36 => ?_)
            clear HH33
            refine LG_val (want0 rfl) rfl rfl HH36 (Y_asg HH36 rfl rfl) (fun aa37 HH37 => ?_)
            clear HH36
            refine L_end (t_norm (hKK35 _ _ ?_))
            refine c_yes HH37 rfl ?_
            refine wp_skip (t_norm (hKK34 _ _ ?_))
            refine c_yes HH37 rfl ?_
            refine wp_seq_k fun KK38 hKK38 => ?_
            refine wp_region_lit ?_
            refine LG_val (want0 rfl) rfl rfl HH37 (Y_asg HH37 rfl rfl) (fun aa39 HH39 => ?_)
            clear HH37
            refine L_end (t_norm (hKK38 _ _ ?_))
            refine wp_ret (b_ret (t_ret (ret1 rfl HH39 rfl ?_)))
            have e : ans k = 9 := by unfold ans; repeat' split <;> omega
            exact ⟨by rw [e], rfl⟩
          ·
            refine LG_val (want0 rfl) rfl rfl HH33 (Y_no (Y_eql HH33 rfl rfl rfl) (a3)) (fun aa40 HH40 => ?_)
            clear HH33
            refine LG_val (want0 rfl) rfl rfl HH40 (Y_asg HH40 rfl rfl) (fun aa41 HH41 => ?_)
            clear HH40
            refine L_end (t_norm (hKK35 _ _ ?_))
            refine c_no HH41 rfl ?_
            refine wp_region_lit ?_
            by_cases a6 : k = 6
            ·
              refine LG_val (want0 rfl) rfl rfl HH41 (Y_yes (Y_eql HH41 rfl rfl rfl) (a6)) (fun aa42 HH42 => ?_)
              clear HH41
              refine LG_val (want0 rfl) rfl rfl HH42 (Y_asg HH42 rfl rfl) (fun aa43 HH43 => ?_)
              clear HH42
              refine L_end (t_norm (hKK34 _ _ ?_))
              refine c_yes HH43 rfl ?_
              refine wp_seq_k fun KK44 hKK44 => ?_
              refine wp_region_lit ?_
              refine LG_val (want0 rfl) rfl rfl HH43 (Y_asg HH43 rfl rfl) (fun aa45 HH45 => ?_)
              clear HH43
              refine L_end (t_norm (hKK44 _ _ ?_))
              refine wp_ret (b_ret (t_ret (ret1 rfl HH45 rfl ?_)))
              have e : ans k = 9 := by unfold ans; repeat' split <;> omega
              exact ⟨by rw [e], rfl⟩
            ·
              refine LG_val (want0 rfl) rfl rfl HH41 (Y_no (Y_eql HH41 rfl rfl rfl) (a6)) (fun aa46 HH46 => ?_)
              clear HH41
              refine LG_val (want0 rfl) rfl rfl HH46 (Y_asg HH46 rfl rfl) (fun aa47 HH47 => ?_)
              clear HH46
              refine L_end (t_norm (hKK34 _ _ ?_))
              refine c_no HH47 rfl ?_
              refine wp_skip (b_norm (t_norm (hKK3 _ _ ?_)))
              refine wp_seq_k fun KK48 hKK48 => ?_
              refine wp_region_lit ?_
              refine LG_val (want0 rfl) rfl rfl HH47 (Y_asg HH47 rfl rfl) (fun aa49 HH49 => ?_)
              clear HH47
              refine L_end (t_norm (hKK48 _ _ ?_))
              refine wp_ret (ret1 rfl HH49 rfl ?_)
              have e : ans k = 0 := by unfold ans; repeat' split <;> omega
              exact ⟨by rw [e], rfl⟩

set_option maxRecDepth 100000 in
theorem rans_ok {w : World} (k : Int) : Calls Try.prog 73 #[VI k] w fun e w' => e = .returned (VI (ans k)) ∧ w = w' := by
  refine enter (n := 13) Try.func73 rfl [(0, VI k)] rfl rfl fun aa0 HH0 => ?_
  refine wp_seq_k fun KK1 hKK1 => ?_
  refine wp_region_lit ?_
  refine LG_val (want0 rfl) rfl rfl HH0 (Y_asg HH0 rfl rfl) (fun aa2 HH2 => ?_)
  clear HH0
  refine L_end (t_norm (hKK1 _ _ ?_))
  refine wp_seq_k fun KK3 hKK3 => ?_
  refine wp_seq_k fun KK4 hKK4 => ?_
  refine wp_region_lit ?_
  refine LG_val (want0 rfl) rfl rfl HH2 (Y_mov HH2 rfl rfl) (fun aa5 HH5 => ?_)
  clear HH2
  refine L_end (t_norm (hKK4 _ _ ?_))
  refine wp_block ?_
  refine wp_seq_k fun KK6 hKK6 => ?_
  refine wp_region_lit ?_
  by_cases a1 : k = 1
  ·
    refine LG_val (want0 rfl) rfl rfl HH5 (Y_yes (Y_eql HH5 rfl rfl rfl) (a1)) (fun aa7 HH7 => ?_)
    clear HH5
    refine LG_val (want0 rfl) rfl rfl HH7 (Y_asg HH7 rfl rfl) (fun aa8 HH8 => ?_)
    clear HH7
    refine L_end (t_norm (hKK6 _ _ ?_))
    refine c_yes HH8 rfl ?_
    refine wp_seq_k fun KK9 hKK9 => ?_
    refine wp_region_lit ?_
    refine LG_val (want0 rfl) rfl rfl HH8 (Y_asg HH8 rfl rfl) (fun aa10 HH10 => ?_)
    clear HH8
    refine L_end (t_norm (hKK9 _ _ ?_))
    refine wp_ret (b_ret (t_ret (ret1 rfl HH10 rfl ?_)))
    have e : ans k = 7 := by unfold ans; repeat' split <;> omega
    exact ⟨by rw [e], rfl⟩
  ·
    refine LG_val (want0 rfl) rfl rfl HH5 (Y_no (Y_eql HH5 rfl rfl rfl) (a1)) (fun aa11 HH11 => ?_)
    clear HH5
    refine LG_val (want0 rfl) rfl rfl HH11 (Y_asg HH11 rfl rfl) (fun aa12 HH12 => ?_)
    clear HH11
    refine L_end (t_norm (hKK6 _ _ ?_))
    refine c_no HH12 rfl ?_
    refine wp_seq_k fun KK13 hKK13 => ?_
    refine wp_seq_k fun KK14 hKK14 => ?_
    refine wp_region_lit ?_
    by_cases a2 : k = 2
    ·
      refine LG_val (want0 rfl) rfl rfl HH12 (Y_yes (Y_eql HH12 rfl rfl rfl) (a2)) (fun aa15 HH15 => ?_)
      clear HH12
      refine LG_val (want0 rfl) rfl rfl HH15 (Y_asg HH15 rfl rfl) (fun aa16 HH16 => ?_)
      clear HH15
      refine L_end (t_norm (hKK14 _ _ ?_))
      refine c_yes HH16 rfl ?_
      refine wp_skip (t_norm (hKK13 _ _ ?_))
      refine c_yes HH16 rfl ?_
      refine wp_seq_k fun KK17 hKK17 => ?_
      refine wp_region_lit ?_
      refine LG_val (want0 rfl) rfl rfl HH16 (Y_asg HH16 rfl rfl) (fun aa18 HH18 => ?_)
      clear HH16
      refine L_end (t_norm (hKK17 _ _ ?_))
      refine wp_ret (b_ret (t_ret (ret1 rfl HH18 rfl ?_)))
      have e : ans k = 8 := by unfold ans; repeat' split <;> omega
      exact ⟨by rw [e], rfl⟩
    ·
      refine LG_val (want0 rfl) rfl rfl HH12 (Y_no (Y_eql HH12 rfl rfl rfl) (a2)) (fun aa19 HH19 => ?_)
      clear HH12
      refine LG_val (want0 rfl) rfl rfl HH19 (Y_asg HH19 rfl rfl) (fun aa20 HH20 => ?_)
      clear HH19
      refine L_end (t_norm (hKK14 _ _ ?_))
      refine c_no HH20 rfl ?_
      refine wp_seq_k fun KK21 hKK21 => ?_
      refine wp_region_lit ?_
      by_cases a4 : k = 4
      ·
        refine LG_val (want0 rfl) rfl rfl HH20 (Y_yes (Y_eql HH20 rfl rfl rfl) (a4)) (fun aa22 HH22 => ?_)
        clear HH20
        refine LG_val (want0 rfl) rfl rfl HH22 (Y_asg HH22 rfl rfl) (fun aa23 HH23 => ?_)
        clear HH22
        refine L_end (t_norm (hKK21 _ _ ?_))
        refine c_yes HH23 rfl ?_
        refine wp_skip (t_norm (hKK13 _ _ ?_))
        refine c_yes HH23 rfl ?_
        refine wp_seq_k fun KK24 hKK24 => ?_
        refine wp_region_lit ?_
        refine LG_val (want0 rfl) rfl rfl HH23 (Y_asg HH23 rfl rfl) (fun aa25 HH25 => ?_)
        clear HH23
        refine L_end (t_norm (hKK24 _ _ ?_))
        refine wp_ret (b_ret (t_ret (ret1 rfl HH25 rfl ?_)))
        have e : ans k = 8 := by unfold ans; repeat' split <;> omega
        exact ⟨by rw [e], rfl⟩
      ·
        refine LG_val (want0 rfl) rfl rfl HH20 (Y_no (Y_eql HH20 rfl rfl rfl) (a4)) (fun aa26 HH26 => ?_)
        clear HH20
        refine LG_val (want0 rfl) rfl rfl HH26 (Y_asg HH26 rfl rfl) (fun aa27 HH27 => ?_)
        clear HH26
        refine L_end (t_norm (hKK21 _ _ ?_))
        refine c_no HH27 rfl ?_
        refine wp_region_lit ?_
        by_cases a5 : k = 5
        ·
          refine LG_val (want0 rfl) rfl rfl HH27 (Y_yes (Y_eql HH27 rfl rfl rfl) (a5)) (fun aa28 HH28 => ?_)
          clear HH27
          refine LG_val (want0 rfl) rfl rfl HH28 (Y_asg HH28 rfl rfl) (fun aa29 HH29 => ?_)
          clear HH28
          refine L_end (t_norm (hKK13 _ _ ?_))
          refine c_yes HH29 rfl ?_
          refine wp_seq_k fun KK30 hKK30 => ?_
          refine wp_region_lit ?_
          refine LG_val (want0 rfl) rfl rfl HH29 (Y_asg HH29 rfl rfl) (fun aa31 HH31 => ?_)
          clear HH29
          refine L_end (t_norm (hKK30 _ _ ?_))
          refine wp_ret (b_ret (t_ret (ret1 rfl HH31 rfl ?_)))
          have e : ans k = 8 := by unfold ans; repeat' split <;> omega
          exact ⟨by rw [e], rfl⟩
        ·
          refine LG_val (want0 rfl) rfl rfl HH27 (Y_no (Y_eql HH27 rfl rfl rfl) (a5)) (fun aa32 HH32 => ?_)
          clear HH27
          refine LG_val (want0 rfl) rfl rfl HH32 (Y_asg HH32 rfl rfl) (fun aa33 HH33 => ?_)
          clear HH32
          refine L_end (t_norm (hKK13 _ _ ?_))
          refine c_no HH33 rfl ?_
          refine wp_seq_k fun KK34 hKK34 => ?_
          refine wp_seq_k fun KK35 hKK35 => ?_
          refine wp_region_lit ?_
          by_cases a3 : k = 3
          ·
            refine LG_val (want0 rfl) rfl rfl HH33 (Y_yes (Y_eql HH33 rfl rfl rfl) (a3)) (fun aa36 HH36 => ?_)
            clear HH33
            refine LG_val (want0 rfl) rfl rfl HH36 (Y_asg HH36 rfl rfl) (fun aa37 HH37 => ?_)
            clear HH36
            refine L_end (t_norm (hKK35 _ _ ?_))
            refine c_yes HH37 rfl ?_
            refine wp_skip (t_norm (hKK34 _ _ ?_))
            refine c_yes HH37 rfl ?_
            refine wp_seq_k fun KK38 hKK38 => ?_
            refine wp_region_lit ?_
            refine LG_val (want0 rfl) rfl rfl HH37 (Y_asg HH37 rfl rfl) (fun aa39 HH39 => ?_)
            clear HH37
            refine L_end (t_norm (hKK38 _ _ ?_))
            refine wp_ret (b_ret (t_ret (ret1 rfl HH39 rfl ?_)))
            have e : ans k = 9 := by unfold ans; repeat' split <;> omega
            exact ⟨by rw [e], rfl⟩
          ·
            refine LG_val (want0 rfl) rfl rfl HH33 (Y_no (Y_eql HH33 rfl rfl rfl) (a3)) (fun aa40 HH40 => ?_)
            clear HH33
            refine LG_val (want0 rfl) rfl rfl HH40 (Y_asg HH40 rfl rfl) (fun aa41 HH41 => ?_)
            clear HH40
            refine L_end (t_norm (hKK35 _ _ ?_))
            refine c_no HH41 rfl ?_
            refine wp_region_lit ?_
            by_cases a6 : k = 6
            ·
              refine LG_val (want0 rfl) rfl rfl HH41 (Y_yes (Y_eql HH41 rfl rfl rfl) (a6)) (fun aa42 HH42 => ?_)
              clear HH41
              refine LG_val (want0 rfl) rfl rfl HH42 (Y_asg HH42 rfl rfl) (fun aa43 HH43 => ?_)
              clear HH42
              refine L_end (t_norm (hKK34 _ _ ?_))
              refine c_yes HH43 rfl ?_
              refine wp_seq_k fun KK44 hKK44 => ?_
              refine wp_region_lit ?_
              refine LG_val (want0 rfl) rfl rfl HH43 (Y_asg HH43 rfl rfl) (fun aa45 HH45 => ?_)
              clear HH43
              refine L_end (t_norm (hKK44 _ _ ?_))
              refine wp_ret (b_ret (t_ret (ret1 rfl HH45 rfl ?_)))
              have e : ans k = 9 := by unfold ans; repeat' split <;> omega
              exact ⟨by rw [e], rfl⟩
            ·
              refine LG_val (want0 rfl) rfl rfl HH41 (Y_no (Y_eql HH41 rfl rfl rfl) (a6)) (fun aa46 HH46 => ?_)
              clear HH41
              refine LG_val (want0 rfl) rfl rfl HH46 (Y_asg HH46 rfl rfl) (fun aa47 HH47 => ?_)
              clear HH46
              refine L_end (t_norm (hKK34 _ _ ?_))
              refine c_no HH47 rfl ?_
              refine wp_skip (b_norm (t_norm (hKK3 _ _ ?_)))
              refine wp_seq_k fun KK48 hKK48 => ?_
              refine wp_region_lit ?_
              refine LG_val (want0 rfl) rfl rfl HH47 (Y_asg HH47 rfl rfl) (fun aa49 HH49 => ?_)
              clear HH47
              refine L_end (t_norm (hKK48 _ _ ?_))
              refine wp_ret (ret1 rfl HH49 rfl ?_)
              have e : ans k = 0 := by unfold ans; repeat' split <;> omega
              exact ⟨by rw [e], rfl⟩

set_option maxRecDepth 100000 in
theorem req_ok {w : World} (k : Int) : Calls Try.prog 74 #[VI k] w fun e w' => e = .returned (VB (isReq k)) ∧ w = w' := by
  refine enter (n := 9) Try.func74 rfl [(0, VI k)] rfl rfl fun aa0 HH0 => ?_
  refine wp_seq_k fun KK1 hKK1 => ?_
  refine wp_region_lit ?_
  refine LG_val (want0 rfl) rfl rfl HH0 (Y_asg HH0 rfl rfl) (fun aa2 HH2 => ?_)
  clear HH0
  refine L_end (t_norm (hKK1 _ _ ?_))
  refine wp_seq_k fun KK3 hKK3 => ?_
  refine wp_region_lit ?_
  refine LG_val (want0 rfl) rfl rfl HH2 (Y_mov HH2 rfl rfl) (fun aa4 HH4 => ?_)
  clear HH2
  by_cases q1 : 1 ≤ k
  ·
    refine LG_val (want0 rfl) rfl rfl HH4 (Y_yes (Y_geq HH4 rfl rfl rfl) (q1)) (fun aa5 HH5 => ?_)
    clear HH4
    refine LG_val (want0 rfl) rfl rfl HH5 (Y_mov HH5 rfl rfl) (fun aa6 HH6 => ?_)
    clear HH5
    refine LG_val (HH6.want rfl rfl rfl) rfl rfl HH6 (Y_mov HH6 rfl rfl) (fun aa7 HH7 => ?_)
    clear HH6
    by_cases q2 : k ≤ 6
    ·
      refine LG_val (HH7.want rfl rfl rfl) rfl rfl HH7 (Y_yes (Y_leq HH7 rfl rfl rfl) (q2)) (fun aa8 HH8 => ?_)
      clear HH7
      refine LG_val (want0 rfl) rfl rfl HH8 (Y_pickT HH8 rfl rfl rfl) (fun aa9 HH9 => ?_)
      clear HH8
      refine LG_val (want0 rfl) rfl rfl HH9 (Y_asg HH9 rfl rfl) (fun aa10 HH10 => ?_)
      clear HH9
      refine L_end (t_norm (hKK3 _ _ ?_))
      refine wp_ret (ret1 rfl HH10 rfl ?_)
      exact ⟨by rw [show isReq k = true from decide_eq_true ⟨q1, q2⟩], rfl⟩
    ·
      refine LG_val (HH7.want rfl rfl rfl) rfl rfl HH7 (Y_no (Y_leq HH7 rfl rfl rfl) (q2)) (fun aa11 HH11 => ?_)
      clear HH7
      refine LG_val (want0 rfl) rfl rfl HH11 (Y_pickT HH11 rfl rfl rfl) (fun aa12 HH12 => ?_)
      clear HH11
      refine LG_val (want0 rfl) rfl rfl HH12 (Y_asg HH12 rfl rfl) (fun aa13 HH13 => ?_)
      clear HH12
      refine L_end (t_norm (hKK3 _ _ ?_))
      refine wp_ret (ret1 rfl HH13 rfl ?_)
      exact ⟨by rw [show isReq k = false from decide_eq_false (fun h => q2 h.2)], rfl⟩
  ·
    refine LG_val (want0 rfl) rfl rfl HH4 (Y_no (Y_geq HH4 rfl rfl rfl) (q1)) (fun aa14 HH14 => ?_)
    clear HH4
    refine LG_val (want0 rfl) rfl rfl HH14 (Y_mov HH14 rfl rfl) (fun aa15 HH15 => ?_)
    clear HH14
    refine LG_skip (HH15.unwant rfl rfl rfl rfl) rfl rfl HH15 (fun aa16 HH16 => ?_)
    clear HH15
    refine LG_skip (HH16.unwant rfl rfl rfl rfl) rfl rfl HH16 (fun aa17 HH17 => ?_)
    clear HH16
    refine LG_val (want0 rfl) rfl rfl HH17 (Y_pickF HH17 rfl rfl rfl) (fun aa18 HH18 => ?_)
    clear HH17
    refine LG_val (want0 rfl) rfl rfl HH18 (Y_asg HH18 rfl rfl) (fun aa19 HH19 => ?_)
    clear HH18
    refine L_end (t_norm (hKK3 _ _ ?_))
    refine wp_ret (ret1 rfl HH19 rfl ?_)
    exact ⟨by rw [show isReq k = false from decide_eq_false (fun h => q1 h.1)], rfl⟩

set_option maxRecDepth 100000 in
theorem rreq_ok {w : World} (k : Int) : Calls Try.prog 75 #[VI k] w fun e w' => e = .returned (VB (isReq k)) ∧ w = w' := by
  refine enter (n := 9) Try.func75 rfl [(0, VI k)] rfl rfl fun aa0 HH0 => ?_
  refine wp_seq_k fun KK1 hKK1 => ?_
  refine wp_region_lit ?_
  refine LG_val (want0 rfl) rfl rfl HH0 (Y_asg HH0 rfl rfl) (fun aa2 HH2 => ?_)
  clear HH0
  refine L_end (t_norm (hKK1 _ _ ?_))
  refine wp_seq_k fun KK3 hKK3 => ?_
  refine wp_region_lit ?_
  refine LG_val (want0 rfl) rfl rfl HH2 (Y_mov HH2 rfl rfl) (fun aa4 HH4 => ?_)
  clear HH2
  by_cases q1 : 1 ≤ k
  ·
    refine LG_val (want0 rfl) rfl rfl HH4 (Y_yes (Y_geq HH4 rfl rfl rfl) (q1)) (fun aa5 HH5 => ?_)
    clear HH4
    refine LG_val (want0 rfl) rfl rfl HH5 (Y_mov HH5 rfl rfl) (fun aa6 HH6 => ?_)
    clear HH5
    refine LG_val (HH6.want rfl rfl rfl) rfl rfl HH6 (Y_mov HH6 rfl rfl) (fun aa7 HH7 => ?_)
    clear HH6
    by_cases q2 : k ≤ 6
    ·
      refine LG_val (HH7.want rfl rfl rfl) rfl rfl HH7 (Y_yes (Y_leq HH7 rfl rfl rfl) (q2)) (fun aa8 HH8 => ?_)
      clear HH7
      refine LG_val (want0 rfl) rfl rfl HH8 (Y_pickT HH8 rfl rfl rfl) (fun aa9 HH9 => ?_)
      clear HH8
      refine LG_val (want0 rfl) rfl rfl HH9 (Y_asg HH9 rfl rfl) (fun aa10 HH10 => ?_)
      clear HH9
      refine L_end (t_norm (hKK3 _ _ ?_))
      refine wp_ret (ret1 rfl HH10 rfl ?_)
      exact ⟨by rw [show isReq k = true from decide_eq_true ⟨q1, q2⟩], rfl⟩
    ·
      refine LG_val (HH7.want rfl rfl rfl) rfl rfl HH7 (Y_no (Y_leq HH7 rfl rfl rfl) (q2)) (fun aa11 HH11 => ?_)
      clear HH7
      refine LG_val (want0 rfl) rfl rfl HH11 (Y_pickT HH11 rfl rfl rfl) (fun aa12 HH12 => ?_)
      clear HH11
      refine LG_val (want0 rfl) rfl rfl HH12 (Y_asg HH12 rfl rfl) (fun aa13 HH13 => ?_)
      clear HH12
      refine L_end (t_norm (hKK3 _ _ ?_))
      refine wp_ret (ret1 rfl HH13 rfl ?_)
      exact ⟨by rw [show isReq k = false from decide_eq_false (fun h => q2 h.2)], rfl⟩
  ·
    refine LG_val (want0 rfl) rfl rfl HH4 (Y_no (Y_geq HH4 rfl rfl rfl) (q1)) (fun aa14 HH14 => ?_)
    clear HH4
    refine LG_val (want0 rfl) rfl rfl HH14 (Y_mov HH14 rfl rfl) (fun aa15 HH15 => ?_)
    clear HH14
    refine LG_skip (HH15.unwant rfl rfl rfl rfl) rfl rfl HH15 (fun aa16 HH16 => ?_)
    clear HH15
    refine LG_skip (HH16.unwant rfl rfl rfl rfl) rfl rfl HH16 (fun aa17 HH17 => ?_)
    clear HH16
    refine LG_val (want0 rfl) rfl rfl HH17 (Y_pickF HH17 rfl rfl rfl) (fun aa18 HH18 => ?_)
    clear HH17
    refine LG_val (want0 rfl) rfl rfl HH18 (Y_asg HH18 rfl rfl) (fun aa19 HH19 => ?_)
    clear HH18
    refine L_end (t_norm (hKK3 _ _ ?_))
    refine wp_ret (ret1 rfl HH19 rfl ?_)
    exact ⟨by rw [show isReq k = false from decide_eq_false (fun h => q1 h.1)], rfl⟩
end Go.Proofs.Ytaekiecidbhjhaa
