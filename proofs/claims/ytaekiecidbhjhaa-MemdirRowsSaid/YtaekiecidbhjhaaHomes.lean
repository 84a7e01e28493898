/- The document's own answers: words of a line, rows of a home. Printed by wip/specs/homes.py. -/
import Derived.Test.YtaekiecidbhjhaaHome
namespace Go.Proofs.Ytaekiecidbhjhaa
open Go.RowKit

set_option maxRecDepth 100000 in
theorem rwords_out {w : World} {l : List HProp} (c : Cfg) (v : Value) (line : Int) (hl : line < 0 ∨ (c.lines : Int) ≤ line) (S : Sat w l) : Calls Try.prog 44 #[c.val v, VI line] w fun e w' => e = .returned VNil ∧ Sat w' l := by
  refine enter (n := 44) Try.func44 rfl [(0, c.val v), (1, VI line)] rfl rfl fun aa0 HH0 => ?_
  refine wp_seq_k fun KK1 hKK1 => ?_
  refine wp_region_lit ?_
  refine LG_do (want0 rfl) rfl rfl HH0 (M_box HH0 rfl rfl rfl S) ?_
  rintro _ ww2 ⟨b2, rfl, SS2, _⟩ aa2 HH2
  clear HH0
  clear S
  refine LG_val (want0 rfl) rfl rfl HH2 (Y_asg HH2 rfl rfl) (fun aa3 HH3 => ?_)
  clear HH2
  refine L_end (t_norm (hKK1 _ _ ?_))
  refine wp_seq_k fun KK4 hKK4 => ?_
  refine wp_seq_k fun KK5 hKK5 => ?_
  refine wp_region_lit ?_
  refine LG_val (want0 rfl) rfl rfl HH3 (Y_mov HH3 rfl rfl) (fun aa6 HH6 => ?_)
  clear HH3
  by_cases h0 : line < 0
  ·
    refine LG_val (want0 rfl) rfl rfl HH6 (Y_yes (Y_lss HH6 rfl rfl rfl) (h0)) (fun aa7 HH7 => ?_)
    clear HH6
    refine LG_val (want0 rfl) rfl rfl HH7 (Y_mov HH7 rfl rfl) (fun aa8 HH8 => ?_)
    clear HH7
    refine LG_skip (HH8.unwant rfl rfl rfl rfl) rfl rfl HH8 (fun aa9 HH9 => ?_)
    clear HH8
    refine LG_skip (HH9.unwant rfl rfl rfl rfl) rfl rfl HH9 (fun aa10 HH10 => ?_)
    clear HH9
    refine LG_skip (HH10.unwant rfl rfl rfl rfl) rfl rfl HH10 (fun aa11 HH11 => ?_)
    clear HH10
    refine LG_skip (HH11.unwant rfl rfl rfl rfl) rfl rfl HH11 (fun aa12 HH12 => ?_)
    clear HH11
    refine LG_val (want0 rfl) rfl rfl HH12 (Y_pickT HH12 rfl rfl rfl) (fun aa13 HH13 => ?_)
    clear HH12
    refine L_end (t_norm (hKK5 _ _ ?_))
    refine c_yes HH13 rfl ?_
    refine wp_seq_k fun KK14 hKK14 => ?_
    refine wp_region_lit ?_
    refine LG_val (want0 rfl) rfl rfl HH13 (Y_asg HH13 rfl rfl) (fun aa15 HH15 => ?_)
    clear HH13
    refine L_end (t_norm (hKK14 _ _ ?_))
    refine wp_ret (t_ret (ret1 rfl HH15 rfl ?_))
    exact ⟨rfl, SS2.tail⟩
  ·
    refine LG_val (want0 rfl) rfl rfl HH6 (Y_no (Y_lss HH6 rfl rfl rfl) (h0)) (fun aa16 HH16 => ?_)
    clear HH6
    refine LG_val (want0 rfl) rfl rfl HH16 (Y_mov HH16 rfl rfl) (fun aa17 HH17 => ?_)
    clear HH16
    refine LG_val (HH17.want rfl rfl rfl) rfl rfl HH17 (Y_mov HH17 rfl rfl) (fun aa18 HH18 => ?_)
    clear HH17
    refine LG_val (HH18.want rfl rfl rfl) rfl rfl HH18 (Y_fad (off := 1) (r := 1) HH18 rfl (by kernel_rfl) rfl rfl) (fun aa19 HH19 => ?_)
    clear HH18
    refine LG_val (HH19.want rfl rfl rfl) rfl rfl HH19 (Y_load HH19 rfl (by kernel_rfl) rfl (SS2.cell 1)) (fun aa20 HH20 => ?_)
    clear HH19
    refine LG_val (HH20.want rfl rfl rfl) rfl rfl HH20 (Y_yes (Y_geq HH20 rfl rfl rfl) (by omega)) (fun aa21 HH21 => ?_)
    clear HH20
    refine LG_val (want0 rfl) rfl rfl HH21 (Y_pickF HH21 rfl rfl rfl) (fun aa22 HH22 => ?_)
    clear HH21
    refine L_end (t_norm (hKK5 _ _ ?_))
    refine c_yes HH22 rfl ?_
    refine wp_seq_k fun KK23 hKK23 => ?_
    refine wp_region_lit ?_
    refine LG_val (want0 rfl) rfl rfl HH22 (Y_asg HH22 rfl rfl) (fun aa24 HH24 => ?_)
    clear HH22
    refine L_end (t_norm (hKK23 _ _ ?_))
    refine wp_ret (t_ret (ret1 rfl HH24 rfl ?_))
    exact ⟨rfl, SS2.tail⟩

set_option maxRecDepth 100000 in
theorem rwords_in {w : World} {l : List HProp} (c : Cfg) (hc : c.small) (v0 : Value) (l0 : Nat) (hl : l0 < c.lines) (hv0 : ∀ w', Sat w' l → RdI w' v0 c.init) (S : Sat w l) : Calls Try.prog 44 #[c.val v0, VI l0] w fun e w' => ∃ v', e = .returned v' ∧ Sat w' (Ints v' (cwords c l0) :: l) := by
  obtain ⟨pa, pc, rfl, _, _⟩ := (hv0 _ S).val
  have hi := hc.init
  have hl8 := hc.l1
  have hw8 := hc.w1
  refine enter (n := 44) Try.func44 rfl [(0, c.val (.slice pa c.init.length pc)), (1, VI (l0 : Int))] rfl rfl fun aa0 HH0 => ?_
  refine wp_seq_k fun KK1 hKK1 => ?_
  refine wp_region_lit ?_
  refine LG_do (want0 rfl) rfl rfl HH0 (M_box HH0 rfl rfl rfl S) ?_
  rintro _ ww2 ⟨b2, rfl, SS2, _⟩ aa2 HH2
  clear HH0
  clear S
  refine LG_val (want0 rfl) rfl rfl HH2 (Y_asg HH2 rfl rfl) (fun aa3 HH3 => ?_)
  clear HH2
  refine L_end (t_norm (hKK1 _ _ ?_))
  refine wp_seq_k fun KK4 hKK4 => ?_
  refine wp_seq_k fun KK5 hKK5 => ?_
  refine wp_region_lit ?_
  refine LG_val (want0 rfl) rfl rfl HH3 (Y_mov HH3 rfl rfl) (fun aa6 HH6 => ?_)
  clear HH3
  refine LG_val (want0 rfl) rfl rfl HH6 (Y_no (Y_lss HH6 rfl rfl rfl) (by omega)) (fun aa7 HH7 => ?_)
  clear HH6
  refine LG_val (want0 rfl) rfl rfl HH7 (Y_mov HH7 rfl rfl) (fun aa8 HH8 => ?_)
  clear HH7
  refine LG_val (HH8.want rfl rfl rfl) rfl rfl HH8 (Y_mov HH8 rfl rfl) (fun aa9 HH9 => ?_)
  clear HH8
  refine LG_val (HH9.want rfl rfl rfl) rfl rfl HH9 (Y_fad (off := 1) (r := 1) HH9 rfl (by kernel_rfl) rfl rfl) (fun aa10 HH10 => ?_)
  clear HH9
  refine LG_val (HH10.want rfl rfl rfl) rfl rfl HH10 (Y_load HH10 rfl (by kernel_rfl) rfl (SS2.cell 1)) (fun aa11 HH11 => ?_)
  clear HH10
  refine LG_val (HH11.want rfl rfl rfl) rfl rfl HH11 (Y_no (Y_geq HH11 rfl rfl rfl) (by omega)) (fun aa12 HH12 => ?_)
  clear HH11
  refine LG_val (want0 rfl) rfl rfl HH12 (Y_pickF HH12 rfl rfl rfl) (fun aa13 HH13 => ?_)
  clear HH12
  refine L_end (t_norm (hKK5 _ _ ?_))
  refine c_no HH13 rfl ?_
  refine wp_skip (t_norm (hKK4 _ _ ?_))
  refine wp_seq_k fun KK14 hKK14 => ?_
  refine wp_region_lit ?_
  refine LG_val (want0 rfl) rfl rfl HH13 (Y_asg HH13 rfl rfl) (fun aa15 HH15 => ?_)
  clear HH13
  refine L_end (t_norm (hKK14 _ _ ?_))
  refine wp_seq_k fun KK16 hKK16 => ?_
  refine wp_seq_k fun KK17 hKK17 => ?_
  refine wp_region_lit ?_
  refine LG_val (want0 rfl) rfl rfl HH15 (Y_asg HH15 rfl rfl) (fun aa18 HH18 => ?_)
  clear HH15
  refine L_end (t_norm (hKK17 _ _ ?_))
  refine wp_block ?_
  refine c_loop (σ := Nat) (fun (i : Nat) a wx => ∃ v5 : Value, Fr a 44 [(1, VI (l0 : Int)), (2, VPt b2 0), (5, v5), (6, VI i)] ∧ i ≤ c.words ∧ Sat wx (Ints v5 ((cwords c l0).take i) :: cel b2 26 (c.cells (.slice pa c.init.length pc)) :: l)) (fun i => c.words - i) (0) ?_ ?_
  · exact ⟨VNil, HH18.sub rfl, by omega, Ints.nil _ _ SS2⟩
  clear HH18
  clear SS2
  rintro i aa19 ww19 ⟨v5, HH19, hi, SS19⟩
  refine wp_seq_k fun KK20 hKK20 => ?_
  refine wp_seq_k fun KK21 hKK21 => ?_
  refine wp_region_lit ?_
  refine LG_val (want0 rfl) rfl rfl HH19 (Y_mov HH19 rfl rfl) (fun aa22 HH22 => ?_)
  clear HH19
  refine LG_val (want0 rfl) rfl rfl HH22 (Y_fad (off := 2) (r := 2) HH22 rfl (by kernel_rfl) rfl rfl) (fun aa23 HH23 => ?_)
  clear HH22
  refine LG_val (want0 rfl) rfl rfl HH23 (Y_load HH23 rfl (by kernel_rfl) rfl (SS19.p1.cell 2)) (fun aa24 HH24 => ?_)
  clear HH23
  by_cases hlt : (i : Int) < (c.words : Int)
  ·
    refine LG_val (want0 rfl) rfl rfl HH24 (Y_yes (Y_lss HH24 rfl rfl rfl) (hlt)) (fun aa25 HH25 => ?_)
    clear HH24
    refine L_end (t_norm (hKK21 _ _ ?_))
    refine c_yes HH25 rfl ?_
    refine wp_skip (t_norm (hKK20 _ _ ?_))
    refine wp_seq_k fun KK26 hKK26 => ?_
    refine wp_block ?_
    refine wp_seq_k fun KK27 hKK27 => ?_
    refine wp_region_lit ?_
    refine LG_val (want0 rfl) rfl rfl HH25 (Y_asg HH25 rfl rfl) (fun aa28 HH28 => ?_)
    clear HH25
    refine L_end (t_norm (hKK27 _ _ ?_))
    refine c_cut (fun a wx => Fr a 44 [(1, VI (l0 : Int)), (2, VPt b2 0), (5, v5), (6, VI i), (7, VI (c.init.getD (l0 * c.words + i) 0))] ∧ Sat wx (Ints v5 ((cwords c l0).take i) :: cel b2 26 (c.cells (.slice pa c.init.length pc)) :: l)) ?_ ?_
    ·
      refine wp_seq_k fun KK29 hKK29 => ?_
      refine wp_region_lit ?_
      refine LG_val (want0 rfl) rfl rfl HH28 (Y_mov HH28 rfl rfl) (fun aa30 HH30 => ?_)
      clear HH28
      refine LG_val (want0 rfl) rfl rfl HH30 (Y_fad (off := 2) (r := 2) HH30 rfl (by kernel_rfl) rfl rfl) (fun aa31 HH31 => ?_)
      clear HH30
      refine LG_val (want0 rfl) rfl rfl HH31 (Y_load HH31 rfl (by kernel_rfl) rfl (SS19.p1.cell 2)) (fun aa32 HH32 => ?_)
      clear HH31
      refine LG_val (want0 rfl) rfl rfl HH32 (Y_mul (r := ((l0 * c.words : Nat) : Int)) HH32 rfl rfl rfl (mul_wrap _ _ (by have := hc.mul (l := l0) (by omega); omega))) (fun aa33 HH33 => ?_)
      clear HH32
      refine LG_val (want0 rfl) rfl rfl HH33 (Y_mov HH33 rfl rfl) (fun aa34 HH34 => ?_)
      clear HH33
      refine LG_val (want0 rfl) rfl rfl HH34 (Y_add (r := ((l0 * c.words + i : Nat) : Int)) HH34 rfl rfl rfl (by have := hc.mul (l := l0) (by omega); rw [IntWalk.i64_in _ (by omega)]; omega)) (fun aa35 HH35 => ?_)
      clear HH34
      refine LG_val (want0 rfl) rfl rfl HH35 (Y_asg HH35 rfl rfl) (fun aa36 HH36 => ?_)
      clear HH35
      refine L_end (t_norm (hKK29 _ _ ?_))
      refine wp_seq_k fun KK37 hKK37 => ?_
      refine wp_region_lit ?_
      refine LG_val (want0 rfl) rfl rfl HH36 (Y_mov HH36 rfl rfl) (fun aa38 HH38 => ?_)
      clear HH36
      refine LG_val (want0 rfl) rfl rfl HH38 (Y_fad (off := 7) (r := 7) HH38 rfl (by kernel_rfl) rfl rfl) (fun aa39 HH39 => ?_)
      clear HH38
      refine LG_val (want0 rfl) rfl rfl HH39 (Y_load HH39 rfl (by kernel_rfl) rfl (SS19.p1.cell 7)) (fun aa40 HH40 => ?_)
      clear HH39
      refine LG_val (want0 rfl) rfl rfl HH40 (Y_lenS HH40 rfl (by kernel_rfl) rfl) (fun aa41 HH41 => ?_)
      clear HH40
      by_cases hk : ((l0 * c.words + i : Nat) : Int) < (c.init.length : Int)
      ·
        refine LG_val (want0 rfl) rfl rfl HH41 (Y_yes (Y_lss HH41 rfl rfl rfl) (hk)) (fun aa42 HH42 => ?_)
        clear HH41
        refine L_end (t_norm (hKK37 _ _ ?_))
        refine c_yes HH42 rfl ?_
        obtain ⟨b9, o9, e9, c9⟩ := rd_some (hv0 _ SS19.p1.p1.tail.tail) (by omega)
        refine wp_region_lit ?_
        refine LG_val (want0 rfl) rfl rfl HH42 (Y_fad (off := 7) (r := 7) HH42 rfl (by kernel_rfl) rfl rfl) (fun aa43 HH43 => ?_)
        clear HH42
        refine LG_val (want0 rfl) rfl rfl HH43 (Y_load HH43 rfl (by kernel_rfl) rfl (SS19.p1.cell 7)) (fun aa44 HH44 => ?_)
        clear HH43
        refine LG_val (want0 rfl) rfl rfl HH44 (Y_mov HH44 rfl rfl) (fun aa45 HH45 => ?_)
        clear HH44
        refine LG_val (want0 rfl) rfl rfl HH45 (Y_idxE (q := o9 + (l0 * c.words + i)) HH45 rfl ty_ints rfl e9 rfl (by omega) (by omega) (by rw [Int.toNat_natCast]; omega)) (fun aa46 HH46 => ?_)
        clear HH45
        refine LG_val (want0 rfl) rfl rfl HH46 (Y_load HH46 rfl (by kernel_rfl) rfl (c9 (l0 * c.words + i) (by omega))) (fun aa47 HH47 => ?_)
        clear HH46
        refine LG_val (want0 rfl) rfl rfl HH47 (Y_asg HH47 rfl rfl) (fun aa48 HH48 => ?_)
        clear HH47
        refine L_end (t_norm ?_)
        exact ⟨HH48.sub rfl, SS19.p1.p1⟩
      ·
        refine LG_val (want0 rfl) rfl rfl HH41 (Y_no (Y_lss HH41 rfl rfl rfl) (hk)) (fun aa49 HH49 => ?_)
        clear HH41
        refine L_end (t_norm (hKK37 _ _ ?_))
        refine c_no HH49 rfl ?_
        refine wp_skip (t_norm ?_)
        have e0 : (c.init.getD (l0 * c.words + i) 0) = 0 := by rw [List.getD_eq_getElem?_getD, List.getElem?_eq_none (by omega)]; rfl
        exact ⟨HH49.sub (by rw [e0]; rfl), SS19.p1.p1⟩
    clear HH28
    clear SS19
    rintro aa50 ww50 ⟨HH50, SS50⟩
    refine wp_region_lit ?_
    refine LG_val (want0 rfl) rfl rfl HH50 (Y_mov HH50 rfl rfl) (fun aa51 HH51 => ?_)
    clear HH50
    refine LG_val (want0 rfl) rfl rfl HH51 (Y_mov HH51 rfl rfl) (fun aa52 HH52 => ?_)
    clear HH51
    refine LG_do (want0 rfl) rfl rfl HH52 (M_buildSlice HH52 rfl ty_ints rfl rfl rfl (by simp [Value.cells]) rfl SS50) ?_
    rintro _ ww53 ⟨b41, rfl, SS53, _⟩ aa53 HH53
    clear HH52
    clear SS50
    refine LG_do (want0 rfl) rfl rfl HH53 (M_appI HH53 rfl rfl rfl SS53.p1.p1 (by rw [List.length_take, cwords_len]; have := hc.w1; omega)) ?_
    rintro _ ww54 SS54 aa54 HH54
    clear HH53
    clear SS53
    refine LG_val (want0 rfl) rfl rfl HH54 (Y_asg HH54 rfl rfl) (fun aa55 HH55 => ?_)
    clear HH54
    refine L_end (b_norm (t_norm (hKK26 _ _ ?_)))
    refine wp_region_lit ?_
    refine LG_val (want0 rfl) rfl rfl HH55 (Y_mov HH55 rfl rfl) (fun aa56 HH56 => ?_)
    clear HH55
    refine LG_val (want0 rfl) rfl rfl HH56 (Y_add HH56 rfl rfl rfl (IntWalk.i64_in _ (by omega))) (fun aa57 HH57 => ?_)
    clear HH56
    refine LG_val (want0 rfl) rfl rfl HH57 (Y_asg HH57 rfl rfl) (fun aa58 HH58 => ?_)
    clear HH57
    refine L_end (t_norm ?_)
    have e : (cwords c l0).take (i + 1) = (cwords c l0).take i ++ [(c.init.getD (l0 * c.words + i) 0)] := by rw [List.take_add_one, List.getElem?_eq_getElem (by rw [cwords_len]; omega)]; simp [cwords]
    exact ⟨i + 1, ⟨_, HH58.sub rfl, by omega, by rw [e]; exact SS54.p2.p2.p2.tail⟩, by first | omega | (dsimp only; omega)⟩
  ·
    refine LG_val (want0 rfl) rfl rfl HH24 (Y_no (Y_lss HH24 rfl rfl rfl) (hlt)) (fun aa59 HH59 => ?_)
    clear HH24
    refine L_end (t_norm (hKK21 _ _ ?_))
    refine c_no HH59 rfl ?_
    refine wp_exit (t_exit (t_exit (b_exit (t_norm (hKK16 _ _ ?_)))))
    refine wp_seq_k fun KK60 hKK60 => ?_
    refine wp_region_lit ?_
    refine LG_val (want0 rfl) rfl rfl HH59 (Y_mov HH59 rfl rfl) (fun aa61 HH61 => ?_)
    clear HH59
    refine LG_val (want0 rfl) rfl rfl HH61 (Y_asg HH61 rfl rfl) (fun aa62 HH62 => ?_)
    clear HH61
    refine L_end (t_norm (hKK60 _ _ ?_))
    refine wp_ret (ret1 rfl HH62 rfl ?_)
    have e : (cwords c l0).take i = cwords c l0 := by rw [List.take_of_length_le]; rw [cwords_len]; omega
    rw [e] at SS19
    exact ⟨_, rfl, SS19.p1.p1.d1⟩

set_option maxRecDepth 100000 in
theorem hnew_ok {w : World} {l : List HProp} (c : Cfg) (hc : c.small) (v0 : Value) (node : Nat) (hv0 : ∀ w', Sat w' l → RdI w' v0 c.init) (S : Sat w l) : Calls Try.prog 50 #[c.val v0, VI node] w fun e w' => ∃ h, e = .returned (VP h 0) ∧ Sat w' (HRep h c node (rowsAll c c.lines) :: l) := by
  obtain ⟨pa, pc, rfl, _, _⟩ := (hv0 _ S).val
  have hl8 := hc.l1
  refine enter (n := 31) Try.func50 rfl [(0, c.val (.slice pa c.init.length pc)), (1, VI node)] rfl rfl fun aa0 HH0 => ?_
  refine wp_seq_k fun KK1 hKK1 => ?_
  refine wp_region_lit ?_
  refine LG_do (want0 rfl) rfl rfl HH0 (M_box HH0 rfl rfl rfl S) ?_
  rintro _ ww2 ⟨b2, rfl, SS2, _⟩ aa2 HH2
  clear HH0
  clear S
  refine LG_val (want0 rfl) rfl rfl HH2 (Y_asg HH2 rfl rfl) (fun aa3 HH3 => ?_)
  clear HH2
  refine L_end (t_norm (hKK1 _ _ ?_))
  refine wp_seq_k fun KK4 hKK4 => ?_
  refine wp_region_lit ?_
  refine LG_val (want0 rfl) rfl rfl HH3 (Y_loadS HH3 rfl rfl SS2 st_api_Config.und st_api_Config.size) (fun aa5 HH5 => ?_)
  clear HH3
  refine LG_val (want0 rfl) rfl rfl HH5 (Y_mov HH5 rfl rfl) (fun aa6 HH6 => ?_)
  clear HH5
  refine LG_val (want0 rfl) rfl rfl HH6 (Y_build (cs := homeCells c node pa c.init.length pc VNil) HH6 rfl st_chapletref07_Homes rfl rfl) (fun aa7 HH7 => ?_)
  clear HH6
  refine LG_do (want0 rfl) rfl rfl HH7 (M_box HH7 rfl rfl rfl SS2) ?_
  rintro _ ww8 ⟨b10, rfl, SS8, _⟩ aa8 HH8
  clear HH7
  clear SS2
  refine LG_val (want0 rfl) rfl rfl HH8 (Y_asg HH8 rfl rfl) (fun aa9 HH9 => ?_)
  clear HH8
  refine L_end (t_norm (hKK4 _ _ ?_))
  refine wp_seq_k fun KK10 hKK10 => ?_
  refine wp_seq_k fun KK11 hKK11 => ?_
  refine wp_region_lit ?_
  refine LG_val (want0 rfl) rfl rfl HH9 (Y_asg HH9 rfl rfl) (fun aa12 HH12 => ?_)
  clear HH9
  refine L_end (t_norm (hKK11 _ _ ?_))
  refine wp_block ?_
  refine c_loop (σ := Nat) (fun (i : Nat) a wx => ∃ (vs : List Value) (ra : Option Addr) (rk : Nat), Fr a 31 [(1, VI node), (2, VPt b2 0), (5, VPt b10 0), (6, VI i)] ∧ i ≤ c.lines ∧ vs.length = (rowsAll c i).length ∧ Sat wx (cel b10 86 (homeCells c node pa c.init.length pc (.slice ra i rk)) :: cel b2 26 (c.cells (.slice pa c.init.length pc)) :: Sl 79 3 (.slice ra i rk) i (rwCells (rowsAll c i) vs) :: (rwData (rowsAll c i) vs ++ l))) (fun i => c.lines - i) (0) ?_ ?_
  · exact ⟨[], none, 0, HH12.sub rfl, by omega, rfl, (Sl.nil _ _ _ _ SS8.p1.p1).p2.p2⟩
  clear HH12
  clear SS8
  rintro i aa13 ww13 ⟨vs, ra, rk, HH13, hi, hvs, SS13⟩
  refine wp_seq_k fun KK14 hKK14 => ?_
  refine wp_seq_k fun KK15 hKK15 => ?_
  refine wp_region_lit ?_
  refine LG_val (want0 rfl) rfl rfl HH13 (Y_mov HH13 rfl rfl) (fun aa16 HH16 => ?_)
  clear HH13
  refine LG_val (want0 rfl) rfl rfl HH16 (Y_fad (off := 1) (r := 1) HH16 rfl (by kernel_rfl) rfl rfl) (fun aa17 HH17 => ?_)
  clear HH16
  refine LG_val (want0 rfl) rfl rfl HH17 (Y_load HH17 rfl (by kernel_rfl) rfl (SS13.p1.cell 1)) (fun aa18 HH18 => ?_)
  clear HH17
  by_cases hlt : (i : Int) < (c.lines : Int)
  ·
    refine LG_val (want0 rfl) rfl rfl HH18 (Y_yes (Y_lss HH18 rfl rfl rfl) (hlt)) (fun aa19 HH19 => ?_)
    clear HH18
    refine L_end (t_norm (hKK15 _ _ ?_))
    refine c_yes HH19 rfl ?_
    refine wp_skip (t_norm (hKK14 _ _ ?_))
    refine wp_seq_k fun KK20 hKK20 => ?_
    refine wp_block ?_
    -- region 5, drawn
    refine N_begin (fun w' => Sat w' _) (.val 0 (.val 1 (.val 2 (.val 3 (.val 5 (.val 6 (.two 4 7 (.one 7 (.val 8 (.one 9 (.one 10 (.val 11 (.val 12 (.one 13 .fin))))))) (.val 8 (.two 4 9 (.one 9 (.one 10 (.val 11 (.val 12 (.one 13 .fin))))) (.one 4 (.one 10 (.val 11 (.val 12 (.one 13 .fin)))))))))))))) (by kernel_rfl) (by kernel_rfl) (by kernel_rfl) (by kernel_rfl) (fun _ _ _ _ _ h => h) (SS13.p1.t1.drew) (fun ww21 SN21 hw21 => ?_)
    have SS21 := SS13.drew
    rw [← hw21] at SS21
    clear hw21 SN21
    clear SS13
    refine N_val rfl (want0 rfl) rfl rfl HH19 (fun ww21 SN => Y_mov HH19 rfl rfl) (fun aa22 HH22 => ?_)
    clear HH19
    refine N_val rfl (want0 rfl) rfl rfl HH22 (fun ww21 SN => Y_mov HH22 rfl rfl) (fun aa23 HH23 => ?_)
    clear HH22
    refine N_val rfl (want0 rfl) rfl rfl HH23 (fun ww21 SN => Y_chk HH23 rfl rfl) (fun aa24 HH24 => ?_)
    clear HH23
    refine N_val rfl (want0 rfl) rfl rfl HH24 (fun ww21 SN => Y_fad (off := 9) (r := 9) HH24 rfl (by kernel_rfl) rfl rfl) (fun aa25 HH25 => ?_)
    clear HH24
    refine N_val rfl (want0 rfl) rfl rfl HH25 (fun ww21 SN => Y_loadS HH25 rfl rfl SN st_api_Config.und st_api_Config.size) (fun aa26 HH26 => ?_)
    clear HH25
    refine N_val rfl (want0 rfl) rfl rfl HH26 (fun ww21 SN => Y_mov HH26 rfl rfl) (fun aa27 HH27 => ?_)
    clear HH26
    refine N_two ?_ ?_
    ·
      refine N_do rfl (want0 rfl) rfl rfl HH27 (D_yl (Y_load HH27 rfl (by kernel_rfl) rfl (SS21.cell 9))) ?_
      rintro _ ww28 ⟨rfl, rfl⟩
      refine ⟨SS21.p1.t1, fun aa28 HH28 => ?_⟩
      clear HH27
      refine N_call rfl (want0 rfl) rfl rfl rfl Try.func44 (by kernel_rfl) rfl HH28 (rwords_in c hc _ i (by omega) (fun w' h => hv0 w' (Sat.right h.tail.tail.tail)) SS21.p2.p2.p2) rfl ?_
      rintro e ww29 ⟨v5, rfl, SS29⟩
      obtain ⟨pa5, pc5, rfl, _, _⟩ := Ints.val SS29
      refine ⟨_, rfl, SS29.p2.t1, fun aa29 HH29 => ?_⟩
      clear HH28
      clear SS21
      refine N_val rfl (want0 rfl) rfl rfl HH29 (fun ww29 SN => Y_build (cs := [VI 0, VI (-1), .slice pa5 (cwords c i).length pc5]) HH29 rfl st_chapletref07_Row rfl rfl) (fun aa30 HH30 => ?_)
      clear HH29
      refine N_do rfl (want0 rfl) rfl rfl HH30 (M_buildSlice (cs := [VI 0, VI (-1), .slice pa5 (cwords c i).length pc5]) HH30 rfl ty_rows rfl rfl rfl (by simp [Value.cells]) rfl SS29) ?_
      rintro _ ww31 ⟨b26, rfl, SS31, _⟩
      refine ⟨SS31.p3.t1, fun aa31 HH31 => ?_⟩
      clear HH30
      clear SS29
      refine N_do rfl (want0 rfl) rfl rfl HH31 (M_append HH31 rfl ty_rows rfl rfl SS31.p4 (Sl.rd SS31) (one_row _ _ _ _ _) (by omega)) ?_
      rintro _ ww32 ⟨SS32, _, ra2, rk2, rfl, _, _⟩
      refine ⟨SS32.p4.t1, fun aa32 HH32 => ?_⟩
      clear HH31
      clear SS31
      refine N_val rfl (want0 rfl) rfl rfl HH32 (fun ww32 SN => Y_chk HH32 rfl rfl) (fun aa33 HH33 => ?_)
      clear HH32
      refine N_val rfl (want0 rfl) rfl rfl HH33 (fun ww32 SN => Y_fad (off := 9) (r := 9) HH33 rfl (by kernel_rfl) rfl rfl) (fun aa34 HH34 => ?_)
      clear HH33
      refine N_do0 rfl (want0 rfl) rfl HH34 (M_store HH34 rfl (by kernel_rfl) rfl rfl rfl rfl SS32.p3 rfl rfl) ?_
      rintro _ ww35 ⟨SS35, _⟩
      refine ⟨SS35.p4.t1, fun aa35 HH35 => ?_⟩
      clear HH34
      clear SS32
      refine N_end (b_norm (t_norm (hKK20 _ _ ?_)))
      refine wp_region_lit ?_
      refine LG_val (want0 rfl) rfl rfl HH35 (Y_mov HH35 rfl rfl) (fun aa36 HH36 => ?_)
      clear HH35
      refine LG_val (want0 rfl) rfl rfl HH36 (Y_add HH36 rfl rfl rfl (IntWalk.i64_in _ (by omega))) (fun aa37 HH37 => ?_)
      clear HH36
      refine LG_val (want0 rfl) rfl rfl HH37 (Y_asg HH37 rfl rfl) (fun aa38 HH38 => ?_)
      clear HH37
      refine L_end (t_norm ?_)
      have e := rowsAll_succ c i
      have S0 := HRep.more (r := ⟨i, 0, -1, cwords c i⟩) hvs SS35.p2.p2.p4.p3.p4.p4.tail
      exact ⟨i + 1, ⟨vs ++ [_], _, _, HH38.sub rfl, by omega, by rw [e]; simp [hvs], by rw [e]; exact S0⟩, by first | omega | (dsimp only; omega)⟩
    ·
      refine N_call rfl (want0 rfl) rfl rfl rfl Try.func44 (by kernel_rfl) rfl HH27 (rwords_in c hc _ i (by omega) (fun w' h => hv0 w' (Sat.right h.tail.tail.tail)) SS21.p2.p2.p2) rfl ?_
      rintro e ww39 ⟨v5, rfl, SS39⟩
      obtain ⟨pa5, pc5, rfl, _, _⟩ := Ints.val SS39
      refine ⟨_, rfl, SS39.p2.t1, fun aa39 HH39 => ?_⟩
      clear HH27
      clear SS21
      refine N_val rfl (want0 rfl) rfl rfl HH39 (fun ww39 SN => Y_build (cs := [VI 0, VI (-1), .slice pa5 (cwords c i).length pc5]) HH39 rfl st_chapletref07_Row rfl rfl) (fun aa40 HH40 => ?_)
      clear HH39
      refine N_two ?_ ?_
      ·
        refine N_do rfl (want0 rfl) rfl rfl HH40 (D_yl (Y_load HH40 rfl (by kernel_rfl) rfl (SS39.p1.cell 9))) ?_
        rintro _ ww41 ⟨rfl, rfl⟩
        refine ⟨SS39.p2.t1, fun aa41 HH41 => ?_⟩
        clear HH40
        refine N_do rfl (want0 rfl) rfl rfl HH41 (M_buildSlice (cs := [VI 0, VI (-1), .slice pa5 (cwords c i).length pc5]) HH41 rfl ty_rows rfl rfl rfl (by simp [Value.cells]) rfl SS39) ?_
        rintro _ ww42 ⟨b26, rfl, SS42, _⟩
        refine ⟨SS42.p3.t1, fun aa42 HH42 => ?_⟩
        clear HH41
        clear SS39
        refine N_do rfl (want0 rfl) rfl rfl HH42 (M_append HH42 rfl ty_rows rfl rfl SS42.p4 (Sl.rd SS42) (one_row _ _ _ _ _) (by omega)) ?_
        rintro _ ww43 ⟨SS43, _, ra2, rk2, rfl, _, _⟩
        refine ⟨SS43.p4.t1, fun aa43 HH43 => ?_⟩
        clear HH42
        clear SS42
        refine N_val rfl (want0 rfl) rfl rfl HH43 (fun ww43 SN => Y_chk HH43 rfl rfl) (fun aa44 HH44 => ?_)
        clear HH43
        refine N_val rfl (want0 rfl) rfl rfl HH44 (fun ww43 SN => Y_fad (off := 9) (r := 9) HH44 rfl (by kernel_rfl) rfl rfl) (fun aa45 HH45 => ?_)
        clear HH44
        refine N_do0 rfl (want0 rfl) rfl HH45 (M_store HH45 rfl (by kernel_rfl) rfl rfl rfl rfl SS43.p3 rfl rfl) ?_
        rintro _ ww46 ⟨SS46, _⟩
        refine ⟨SS46.p4.t1, fun aa46 HH46 => ?_⟩
        clear HH45
        clear SS43
        refine N_end (b_norm (t_norm (hKK20 _ _ ?_)))
        refine wp_region_lit ?_
        refine LG_val (want0 rfl) rfl rfl HH46 (Y_mov HH46 rfl rfl) (fun aa47 HH47 => ?_)
        clear HH46
        refine LG_val (want0 rfl) rfl rfl HH47 (Y_add HH47 rfl rfl rfl (IntWalk.i64_in _ (by omega))) (fun aa48 HH48 => ?_)
        clear HH47
        refine LG_val (want0 rfl) rfl rfl HH48 (Y_asg HH48 rfl rfl) (fun aa49 HH49 => ?_)
        clear HH48
        refine L_end (t_norm ?_)
        have e := rowsAll_succ c i
        have S0 := HRep.more (r := ⟨i, 0, -1, cwords c i⟩) hvs SS46.p2.p2.p4.p3.p4.p4.tail
        exact ⟨i + 1, ⟨vs ++ [_], _, _, HH49.sub rfl, by omega, by rw [e]; simp [hvs], by rw [e]; exact S0⟩, by first | omega | (dsimp only; omega)⟩
      ·
        refine N_do rfl (want0 rfl) rfl rfl HH40 (M_buildSlice (cs := [VI 0, VI (-1), .slice pa5 (cwords c i).length pc5]) HH40 rfl ty_rows rfl rfl rfl (by simp [Value.cells]) rfl SS39) ?_
        rintro _ ww50 ⟨b26, rfl, SS50, _⟩
        refine ⟨SS50.p3.t1, fun aa50 HH50 => ?_⟩
        clear HH40
        clear SS39
        refine N_do rfl (want0 rfl) rfl rfl HH50 (D_yl (Y_load HH50 rfl (by kernel_rfl) rfl (SS50.p2.cell 9))) ?_
        rintro _ ww51 ⟨rfl, rfl⟩
        refine ⟨SS50.p3.t1, fun aa51 HH51 => ?_⟩
        clear HH50
        refine N_do rfl (want0 rfl) rfl rfl HH51 (M_append HH51 rfl ty_rows rfl rfl SS50.p4 (Sl.rd SS50) (one_row _ _ _ _ _) (by omega)) ?_
        rintro _ ww52 ⟨SS52, _, ra2, rk2, rfl, _, _⟩
        refine ⟨SS52.p4.t1, fun aa52 HH52 => ?_⟩
        clear HH51
        clear SS50
        refine N_val rfl (want0 rfl) rfl rfl HH52 (fun ww52 SN => Y_chk HH52 rfl rfl) (fun aa53 HH53 => ?_)
        clear HH52
        refine N_val rfl (want0 rfl) rfl rfl HH53 (fun ww52 SN => Y_fad (off := 9) (r := 9) HH53 rfl (by kernel_rfl) rfl rfl) (fun aa54 HH54 => ?_)
        clear HH53
        refine N_do0 rfl (want0 rfl) rfl HH54 (M_store HH54 rfl (by kernel_rfl) rfl rfl rfl rfl SS52.p3 rfl rfl) ?_
        rintro _ ww55 ⟨SS55, _⟩
        refine ⟨SS55.p4.t1, fun aa55 HH55 => ?_⟩
        clear HH54
        clear SS52
        refine N_end (b_norm (t_norm (hKK20 _ _ ?_)))
        refine wp_region_lit ?_
        refine LG_val (want0 rfl) rfl rfl HH55 (Y_mov HH55 rfl rfl) (fun aa56 HH56 => ?_)
        clear HH55
        refine LG_val (want0 rfl) rfl rfl HH56 (Y_add HH56 rfl rfl rfl (IntWalk.i64_in _ (by omega))) (fun aa57 HH57 => ?_)
        clear HH56
        refine LG_val (want0 rfl) rfl rfl HH57 (Y_asg HH57 rfl rfl) (fun aa58 HH58 => ?_)
        clear HH57
        refine L_end (t_norm ?_)
        have e := rowsAll_succ c i
        have S0 := HRep.more (r := ⟨i, 0, -1, cwords c i⟩) hvs SS55.p2.p2.p4.p3.p4.p4.tail
        exact ⟨i + 1, ⟨vs ++ [_], _, _, HH58.sub rfl, by omega, by rw [e]; simp [hvs], by rw [e]; exact S0⟩, by first | omega | (dsimp only; omega)⟩
  ·
    refine LG_val (want0 rfl) rfl rfl HH18 (Y_no (Y_lss HH18 rfl rfl rfl) (hlt)) (fun aa59 HH59 => ?_)
    clear HH18
    refine L_end (t_norm (hKK15 _ _ ?_))
    refine c_no HH59 rfl ?_
    refine wp_exit (t_exit (t_exit (b_exit (t_norm (hKK10 _ _ ?_)))))
    refine wp_seq_k fun KK60 hKK60 => ?_
    refine wp_region_lit ?_
    refine LG_val (want0 rfl) rfl rfl HH59 (Y_mov HH59 rfl rfl) (fun aa61 HH61 => ?_)
    clear HH59
    refine LG_val (want0 rfl) rfl rfl HH61 (Y_asg HH61 rfl rfl) (fun aa62 HH62 => ?_)
    clear HH61
    refine L_end (t_norm (hKK60 _ _ ?_))
    refine wp_ret (ret1 rfl HH62 rfl ?_)
    have e : i = c.lines := by omega
    subst e
    refine ⟨_, rfl, HRep.open.2 ⟨pa, c.init.length, pc, ra, rk, vs, hvs, ?_⟩⟩
    rw [rowsAll_len]
    exact SS13.p2.p1.p2.tail

set_option maxRecDepth 100000 in
theorem here_cel {w : World} {l : List HProp} {h : Nat} {c : Cfg} (hc : c.small) {node : Nat} {pa : Option Addr} {pn pc : Nat} {rv : Value} (x : Int) (S : Sat w (cel h 86 (homeCells c node pa pn pc rv) :: l)) : Calls Try.prog 53 #[VP h 0, VI x] w fun e w' => e = .returned (VB (decide (isHere c node x))) ∧ Sat w' (cel h 86 (homeCells c node pa pn pc rv) :: l) := by
  have hn0 := hc.n0
  refine enter (n := 30) Try.func53 rfl [(0, VP h 0), (1, VI x)] rfl rfl fun aa0 HH0 => ?_
  refine wp_seq_k fun KK1 hKK1 => ?_
  refine wp_region_lit ?_
  refine LG_val (want0 rfl) rfl rfl HH0 (Y_asg HH0 rfl rfl) (fun aa2 HH2 => ?_)
  clear HH0
  refine L_end (t_norm (hKK1 _ _ ?_))
  refine wp_seq_k fun KK3 hKK3 => ?_
  -- region 1, drawn
  refine N_begin (fun w' => Sat w' _) (.val 0 (.val 1 (.val 2 (.val 3 (.val 4 (.val 5 (.val 6 (.val 7 (.val 8 (.val 9 (.val 10 (.val 11 (.val 12 (.val 13 (.val 14 (.val 15 (.val 16 (.val 17 (.val 18 (.val 19 (.val 20 (.val 21 (.val 22 (.val 23 (.val 24 (.val 25 .fin)))))))))))))))))))))))))) (by kernel_rfl) (by kernel_rfl) (by kernel_rfl) (by kernel_rfl) (fun _ _ _ _ _ h => h) (S.drew) (fun ww4 SS4 _ => ?_)
  clear S
  refine N_val rfl (want0 rfl) rfl rfl HH2 (fun ww4 SS4 => Y_mov HH2 rfl rfl) (fun aa5 HH5 => ?_)
  clear HH2
  by_cases q1 : 0 ≤ x
  ·
    refine N_val rfl (want0 rfl) rfl rfl HH5 (fun ww4 SS4 => Y_yes (Y_geq HH5 rfl rfl rfl) (q1)) (fun aa6 HH6 => ?_)
    clear HH5
    refine N_val rfl (want0 rfl) rfl rfl HH6 (fun ww4 SS4 => Y_mov HH6 rfl rfl) (fun aa7 HH7 => ?_)
    clear HH6
    refine N_val rfl (HH7.want rfl rfl rfl) rfl rfl HH7 (fun ww4 SS4 => Y_mov HH7 rfl rfl) (fun aa8 HH8 => ?_)
    clear HH7
    refine N_val rfl (HH8.want rfl rfl rfl) rfl rfl HH8 (fun ww4 SS4 => Y_mov HH8 rfl rfl) (fun aa9 HH9 => ?_)
    clear HH8
    refine N_val rfl (HH9.want rfl rfl rfl) rfl rfl HH9 (fun ww4 SS4 => Y_chk HH9 rfl rfl) (fun aa10 HH10 => ?_)
    clear HH9
    refine N_val rfl (HH10.want rfl rfl rfl) rfl rfl HH10 (fun ww4 SS4 => Y_fad (off := 0) (r := 0) HH10 rfl (by kernel_rfl) rfl rfl) (fun aa11 HH11 => ?_)
    clear HH10
    refine N_val rfl (HH11.want rfl rfl rfl) rfl rfl HH11 (fun ww4 SS4 => Y_fad (off := 1) (r := 1) HH11 rfl (by kernel_rfl) rfl rfl) (fun aa12 HH12 => ?_)
    clear HH11
    refine N_val rfl (HH12.want rfl rfl rfl) rfl rfl HH12 (fun ww4 SS4 => Y_load HH12 rfl (by kernel_rfl) rfl (SS4.cell 1)) (fun aa13 HH13 => ?_)
    clear HH12
    by_cases q2 : x < (c.lines : Int)
    ·
      refine N_val rfl (HH13.want rfl rfl rfl) rfl rfl HH13 (fun ww4 SS4 => Y_yes (Y_lss HH13 rfl rfl rfl) (q2)) (fun aa14 HH14 => ?_)
      clear HH13
      refine N_val rfl (want0 rfl) rfl rfl HH14 (fun ww4 SS4 => Y_pickT HH14 rfl rfl rfl) (fun aa15 HH15 => ?_)
      clear HH14
      refine N_val rfl (want0 rfl) rfl rfl HH15 (fun ww4 SS4 => Y_mov HH15 rfl rfl) (fun aa16 HH16 => ?_)
      clear HH15
      refine N_val rfl (HH16.want rfl rfl rfl) rfl rfl HH16 (fun ww4 SS4 => Y_mov HH16 rfl rfl) (fun aa17 HH17 => ?_)
      clear HH16
      refine N_val rfl (HH17.want rfl rfl rfl) rfl rfl HH17 (fun ww4 SS4 => Y_mov HH17 rfl rfl) (fun aa18 HH18 => ?_)
      clear HH17
      refine N_val rfl (HH18.want rfl rfl rfl) rfl rfl HH18 (fun ww4 SS4 => Y_chk HH18 rfl rfl) (fun aa19 HH19 => ?_)
      clear HH18
      refine N_val rfl (HH19.want rfl rfl rfl) rfl rfl HH19 (fun ww4 SS4 => Y_fad (off := 0) (r := 0) HH19 rfl (by kernel_rfl) rfl rfl) (fun aa20 HH20 => ?_)
      clear HH19
      refine N_val rfl (HH20.want rfl rfl rfl) rfl rfl HH20 (fun ww4 SS4 => Y_fad (off := 0) (r := 0) HH20 rfl (by kernel_rfl) rfl rfl) (fun aa21 HH21 => ?_)
      clear HH20
      refine N_val rfl (HH21.want rfl rfl rfl) rfl rfl HH21 (fun ww4 SS4 => Y_load HH21 rfl (by kernel_rfl) rfl (SS4.cell 0)) (fun aa22 HH22 => ?_)
      clear HH21
      refine N_val rfl (HH22.want rfl rfl rfl) rfl rfl HH22 (fun ww4 SS4 => Y_rem (r := x % (c.nodes : Int)) HH22 rfl rfl rfl (by omega) (Int.tmod_eq_emod_of_nonneg (by omega))) (fun aa23 HH23 => ?_)
      clear HH22
      refine N_val rfl (HH23.want rfl rfl rfl) rfl rfl HH23 (fun ww4 SS4 => Y_mov HH23 rfl rfl) (fun aa24 HH24 => ?_)
      clear HH23
      refine N_val rfl (HH24.want rfl rfl rfl) rfl rfl HH24 (fun ww4 SS4 => Y_chk HH24 rfl rfl) (fun aa25 HH25 => ?_)
      clear HH24
      refine N_val rfl (HH25.want rfl rfl rfl) rfl rfl HH25 (fun ww4 SS4 => Y_fad (off := 8) (r := 8) HH25 rfl (by kernel_rfl) rfl rfl) (fun aa26 HH26 => ?_)
      clear HH25
      refine N_val rfl (HH26.want rfl rfl rfl) rfl rfl HH26 (fun ww4 SS4 => Y_load HH26 rfl (by kernel_rfl) rfl (SS4.cell 8)) (fun aa27 HH27 => ?_)
      clear HH26
      by_cases q3 : x % (c.nodes : Int) = (node : Int)
      ·
        refine N_val rfl (HH27.want rfl rfl rfl) rfl rfl HH27 (fun ww4 SS4 => Y_yes (Y_eql HH27 rfl rfl rfl) (q3)) (fun aa28 HH28 => ?_)
        clear HH27
        refine N_val rfl (want0 rfl) rfl rfl HH28 (fun ww4 SS4 => Y_pickT HH28 rfl rfl rfl) (fun aa29 HH29 => ?_)
        clear HH28
        refine N_val rfl (want0 rfl) rfl rfl HH29 (fun ww4 SS4 => Y_asg HH29 rfl rfl) (fun aa30 HH30 => ?_)
        clear HH29
        refine N_end (t_norm (hKK3 _ _ ?_))
        refine wp_ret (ret1 rfl HH30 rfl ?_)
        refine ⟨?_, SS4⟩
        rw [show decide (isHere c node x) = true from decide_eq_true ⟨q1, q2, q3⟩]
      ·
        refine N_val rfl (HH27.want rfl rfl rfl) rfl rfl HH27 (fun ww4 SS4 => Y_no (Y_eql HH27 rfl rfl rfl) (q3)) (fun aa31 HH31 => ?_)
        clear HH27
        refine N_val rfl (want0 rfl) rfl rfl HH31 (fun ww4 SS4 => Y_pickT HH31 rfl rfl rfl) (fun aa32 HH32 => ?_)
        clear HH31
        refine N_val rfl (want0 rfl) rfl rfl HH32 (fun ww4 SS4 => Y_asg HH32 rfl rfl) (fun aa33 HH33 => ?_)
        clear HH32
        refine N_end (t_norm (hKK3 _ _ ?_))
        refine wp_ret (ret1 rfl HH33 rfl ?_)
        refine ⟨?_, SS4⟩
        rw [show decide (isHere c node x) = false from decide_eq_false (fun hh => q3 hh.2.2)]
    ·
      refine N_val rfl (HH13.want rfl rfl rfl) rfl rfl HH13 (fun ww4 SS4 => Y_no (Y_lss HH13 rfl rfl rfl) (q2)) (fun aa34 HH34 => ?_)
      clear HH13
      refine N_val rfl (want0 rfl) rfl rfl HH34 (fun ww4 SS4 => Y_pickT HH34 rfl rfl rfl) (fun aa35 HH35 => ?_)
      clear HH34
      refine N_val rfl (want0 rfl) rfl rfl HH35 (fun ww4 SS4 => Y_mov HH35 rfl rfl) (fun aa36 HH36 => ?_)
      clear HH35
      refine N_skip rfl (HH36.unwant rfl rfl rfl rfl) rfl rfl HH36 (fun aa37 HH37 => ?_)
      clear HH36
      refine N_skip rfl (HH37.unwant rfl rfl rfl rfl) rfl rfl HH37 (fun aa38 HH38 => ?_)
      clear HH37
      refine N_skip rfl (HH38.unwant rfl rfl rfl rfl) rfl rfl HH38 (fun aa39 HH39 => ?_)
      clear HH38
      refine N_skip rfl (HH39.unwant rfl rfl rfl rfl) rfl rfl HH39 (fun aa40 HH40 => ?_)
      clear HH39
      refine N_skip rfl (HH40.unwant rfl rfl rfl rfl) rfl rfl HH40 (fun aa41 HH41 => ?_)
      clear HH40
      refine N_skip rfl (HH41.unwant rfl rfl rfl rfl) rfl rfl HH41 (fun aa42 HH42 => ?_)
      clear HH41
      refine N_skip rfl (HH42.unwant rfl rfl rfl rfl) rfl rfl HH42 (fun aa43 HH43 => ?_)
      clear HH42
      refine N_skip rfl (HH43.unwant rfl rfl rfl rfl) rfl rfl HH43 (fun aa44 HH44 => ?_)
      clear HH43
      refine N_skip rfl (HH44.unwant rfl rfl rfl rfl) rfl rfl HH44 (fun aa45 HH45 => ?_)
      clear HH44
      refine N_skip rfl (HH45.unwant rfl rfl rfl rfl) rfl rfl HH45 (fun aa46 HH46 => ?_)
      clear HH45
      refine N_skip rfl (HH46.unwant rfl rfl rfl rfl) rfl rfl HH46 (fun aa47 HH47 => ?_)
      clear HH46
      refine N_skip rfl (HH47.unwant rfl rfl rfl rfl) rfl rfl HH47 (fun aa48 HH48 => ?_)
      clear HH47
      refine N_val rfl (want0 rfl) rfl rfl HH48 (fun ww4 SS4 => Y_pickF HH48 rfl rfl rfl) (fun aa49 HH49 => ?_)
      clear HH48
      refine N_val rfl (want0 rfl) rfl rfl HH49 (fun ww4 SS4 => Y_asg HH49 rfl rfl) (fun aa50 HH50 => ?_)
      clear HH49
      refine N_end (t_norm (hKK3 _ _ ?_))
      refine wp_ret (ret1 rfl HH50 rfl ?_)
      refine ⟨?_, SS4⟩
      rw [show decide (isHere c node x) = false from decide_eq_false (fun hh => q2 hh.2.1)]
  ·
    refine N_val rfl (want0 rfl) rfl rfl HH5 (fun ww4 SS4 => Y_no (Y_geq HH5 rfl rfl rfl) (q1)) (fun aa51 HH51 => ?_)
    clear HH5
    refine N_val rfl (want0 rfl) rfl rfl HH51 (fun ww4 SS4 => Y_mov HH51 rfl rfl) (fun aa52 HH52 => ?_)
    clear HH51
    refine N_skip rfl (HH52.unwant rfl rfl rfl rfl) rfl rfl HH52 (fun aa53 HH53 => ?_)
    clear HH52
    refine N_skip rfl (HH53.unwant rfl rfl rfl rfl) rfl rfl HH53 (fun aa54 HH54 => ?_)
    clear HH53
    refine N_skip rfl (HH54.unwant rfl rfl rfl rfl) rfl rfl HH54 (fun aa55 HH55 => ?_)
    clear HH54
    refine N_skip rfl (HH55.unwant rfl rfl rfl rfl) rfl rfl HH55 (fun aa56 HH56 => ?_)
    clear HH55
    refine N_skip rfl (HH56.unwant rfl rfl rfl rfl) rfl rfl HH56 (fun aa57 HH57 => ?_)
    clear HH56
    refine N_skip rfl (HH57.unwant rfl rfl rfl rfl) rfl rfl HH57 (fun aa58 HH58 => ?_)
    clear HH57
    refine N_skip rfl (HH58.unwant rfl rfl rfl rfl) rfl rfl HH58 (fun aa59 HH59 => ?_)
    clear HH58
    refine N_val rfl (want0 rfl) rfl rfl HH59 (fun ww4 SS4 => Y_pickF HH59 rfl rfl rfl) (fun aa60 HH60 => ?_)
    clear HH59
    refine N_val rfl (want0 rfl) rfl rfl HH60 (fun ww4 SS4 => Y_mov HH60 rfl rfl) (fun aa61 HH61 => ?_)
    clear HH60
    refine N_skip rfl (HH61.unwant rfl rfl rfl rfl) rfl rfl HH61 (fun aa62 HH62 => ?_)
    clear HH61
    refine N_skip rfl (HH62.unwant rfl rfl rfl rfl) rfl rfl HH62 (fun aa63 HH63 => ?_)
    clear HH62
    refine N_skip rfl (HH63.unwant rfl rfl rfl rfl) rfl rfl HH63 (fun aa64 HH64 => ?_)
    clear HH63
    refine N_skip rfl (HH64.unwant rfl rfl rfl rfl) rfl rfl HH64 (fun aa65 HH65 => ?_)
    clear HH64
    refine N_skip rfl (HH65.unwant rfl rfl rfl rfl) rfl rfl HH65 (fun aa66 HH66 => ?_)
    clear HH65
    refine N_skip rfl (HH66.unwant rfl rfl rfl rfl) rfl rfl HH66 (fun aa67 HH67 => ?_)
    clear HH66
    refine N_skip rfl (HH67.unwant rfl rfl rfl rfl) rfl rfl HH67 (fun aa68 HH68 => ?_)
    clear HH67
    refine N_skip rfl (HH68.unwant rfl rfl rfl rfl) rfl rfl HH68 (fun aa69 HH69 => ?_)
    clear HH68
    refine N_skip rfl (HH69.unwant rfl rfl rfl rfl) rfl rfl HH69 (fun aa70 HH70 => ?_)
    clear HH69
    refine N_skip rfl (HH70.unwant rfl rfl rfl rfl) rfl rfl HH70 (fun aa71 HH71 => ?_)
    clear HH70
    refine N_skip rfl (HH71.unwant rfl rfl rfl rfl) rfl rfl HH71 (fun aa72 HH72 => ?_)
    clear HH71
    refine N_skip rfl (HH72.unwant rfl rfl rfl rfl) rfl rfl HH72 (fun aa73 HH73 => ?_)
    clear HH72
    refine N_val rfl (want0 rfl) rfl rfl HH73 (fun ww4 SS4 => Y_pickF HH73 rfl rfl rfl) (fun aa74 HH74 => ?_)
    clear HH73
    refine N_val rfl (want0 rfl) rfl rfl HH74 (fun ww4 SS4 => Y_asg HH74 rfl rfl) (fun aa75 HH75 => ?_)
    clear HH74
    refine N_end (t_norm (hKK3 _ _ ?_))
    refine wp_ret (ret1 rfl HH75 rfl ?_)
    refine ⟨?_, SS4⟩
    rw [show decide (isHere c node x) = false from decide_eq_false (fun hh => q1 hh.1)]

theorem here_ok {w : World} {l : List HProp} {h : Nat} {c : Cfg} (hc : c.small) {node : Nat} {rs : List Rw} (x : Int) (S0 : Sat w (HRep h c node rs :: l)) : Calls Try.prog 53 #[VP h 0, VI x] w fun e w' => e = .returned (VB (decide (isHere c node x))) ∧ Sat w' (HRep h c node rs :: l) := by
  obtain ⟨pa, pn, pc, ra, rk, vs, hvs, S⟩ := HRep.open.1 S0
  exact (here_cel hc x S).mono fun e w' ⟨h1, h2⟩ => ⟨h1, HRep.open.2 ⟨_, _, _, _, _, vs, hvs, h2⟩⟩


set_option maxRecDepth 100000 in
theorem hset_none {w : World} {l : List HProp} {h : Nat} {c : Cfg} (hc : c.small) {node : Nat} {rs : List Rw} (x st hd : Int) (dv : Value) (hh : ¬ isHere c node x) (S : Sat w (HRep h c node rs :: l)) : Calls Try.prog 52 #[VP h 0, VI x, VI st, VI hd, dv] w fun e w' => e = .returned (VI 3) ∧ Sat w' (HRep h c node rs :: l) := by
  refine enter (n := 81) Try.func52 rfl [(0, VP h 0), (1, VI x), (2, VI st), (3, VI hd), (4, dv)] rfl rfl fun aa0 HH0 => ?_
  refine wp_seq_k fun KK1 hKK1 => ?_
  refine wp_region_lit ?_
  refine LG_val (want0 rfl) rfl rfl HH0 (Y_asg HH0 rfl rfl) (fun aa2 HH2 => ?_)
  clear HH0
  refine L_end (t_norm (hKK1 _ _ ?_))
  refine wp_seq_k fun KK3 hKK3 => ?_
  refine wp_seq_k fun KK4 hKK4 => ?_
  refine wp_region_lit ?_
  refine LG_val (want0 rfl) rfl rfl HH2 (Y_mov HH2 rfl rfl) (fun aa5 HH5 => ?_)
  clear HH2
  refine LG_val (want0 rfl) rfl rfl HH5 (Y_mov HH5 rfl rfl) (fun aa6 HH6 => ?_)
  clear HH5
  refine LG_call (want0 rfl) rfl rfl rfl Try.func53 (by kernel_rfl) rfl HH6 (here_ok hc x S) rfl ?_
  rintro e ww7 ⟨rfl, SS7⟩
  rw [show decide (isHere c node x) = false from decide_eq_false hh]
  refine ⟨_, rfl, fun aa7 HH7 => ?_⟩
  clear HH6
  clear S
  refine LG_val (want0 rfl) rfl rfl HH7 (Y_not HH7 rfl rfl) (fun aa8 HH8 => ?_)
  clear HH7
  refine L_end (t_norm (hKK4 _ _ ?_))
  refine c_yes HH8 rfl ?_
  refine wp_seq_k fun KK9 hKK9 => ?_
  refine wp_region_lit ?_
  refine LG_val (want0 rfl) rfl rfl HH8 (Y_asg HH8 rfl rfl) (fun aa10 HH10 => ?_)
  clear HH8
  refine L_end (t_norm (hKK9 _ _ ?_))
  refine wp_ret (t_ret (ret1 rfl HH10 rfl ?_))
  exact ⟨rfl, SS7⟩

set_option maxRecDepth 100000 in
theorem hset_bad {w : World} {l : List HProp} {h : Nat} {c : Cfg} (hc : c.small) {node : Nat} {rs : List Rw} (x st hd : Int) (da : Option Addr) (dc : Nat) (data : List Int) {N : Nat} (hN : data.length = N) (hh : isHere c node x)
    (hbad : st < 0 ∨ 2 < st ∨ hd < -1 ∨ (c.nodes : Int) ≤ hd ∨ (hd = -1 ∧ st ≠ 0) ∨ (hd ≠ -1 ∧ st = 0) ∨ (data.length ≠ 0 ∧ data.length ≠ c.words)) (S : Sat w (HRep h c node rs :: l)) :
    Calls Try.prog 52 #[VP h 0, VI x, VI st, VI hd, .slice da N dc] w fun e w' => e = .returned (VI 1) ∧ Sat w' (HRep h c node rs :: l) := by
  subst hN
  refine enter (n := 81) Try.func52 rfl [(0, VP h 0), (1, VI x), (2, VI st), (3, VI hd), (4, .slice da data.length dc)] rfl rfl fun aa0 HH0 => ?_
  refine wp_seq_k fun KK1 hKK1 => ?_
  refine wp_region_lit ?_
  refine LG_val (want0 rfl) rfl rfl HH0 (Y_asg HH0 rfl rfl) (fun aa2 HH2 => ?_)
  clear HH0
  refine L_end (t_norm (hKK1 _ _ ?_))
  refine wp_seq_k fun KK3 hKK3 => ?_
  refine wp_seq_k fun KK4 hKK4 => ?_
  refine wp_region_lit ?_
  refine LG_val (want0 rfl) rfl rfl HH2 (Y_mov HH2 rfl rfl) (fun aa5 HH5 => ?_)
  clear HH2
  refine LG_val (want0 rfl) rfl rfl HH5 (Y_mov HH5 rfl rfl) (fun aa6 HH6 => ?_)
  clear HH5
  refine LG_call (want0 rfl) rfl rfl rfl Try.func53 (by kernel_rfl) rfl HH6 (here_ok hc x S) rfl ?_
  rintro e ww7 ⟨rfl, SS7⟩
  rw [show decide (isHere c node x) = true from decide_eq_true hh]
  refine ⟨_, rfl, fun aa7 HH7 => ?_⟩
  clear HH6
  clear S
  refine LG_val (want0 rfl) rfl rfl HH7 (Y_not HH7 rfl rfl) (fun aa8 HH8 => ?_)
  clear HH7
  refine L_end (t_norm (hKK4 _ _ ?_))
  refine c_no HH8 rfl ?_
  refine wp_skip (t_norm (hKK3 _ _ ?_))
  refine wp_seq_k fun KK9 hKK9 => ?_
  refine wp_seq_k fun KK10 hKK10 => ?_
  obtain ⟨pa, pn, pc, ra, rk, vs, hvs, S1⟩ := HRep.open.1 SS7
  clear SS7
  have SS7 := S1
  clear S1
  refine wp_region_lit ?_
  refine LG_val (want0 rfl) rfl rfl HH8 (Y_mov HH8 rfl rfl) (fun aa11 HH11 => ?_)
  clear HH8
  by_cases q1 : st < 0
  ·
    refine LG_val (want0 rfl) rfl rfl HH11 (Y_yes (Y_lss HH11 rfl rfl rfl) (q1)) (fun aa12 HH12 => ?_)
    clear HH11
    refine LG_val (want0 rfl) rfl rfl HH12 (Y_mov HH12 rfl rfl) (fun aa13 HH13 => ?_)
    clear HH12
    refine LG_skip (HH13.unwant rfl rfl rfl rfl) rfl rfl HH13 (fun aa14 HH14 => ?_)
    clear HH13
    refine LG_skip (HH14.unwant rfl rfl rfl rfl) rfl rfl HH14 (fun aa15 HH15 => ?_)
    clear HH14
    refine LG_val (want0 rfl) rfl rfl HH15 (Y_pickT HH15 rfl rfl rfl) (fun aa16 HH16 => ?_)
    clear HH15
    refine LG_val (want0 rfl) rfl rfl HH16 (Y_mov HH16 rfl rfl) (fun aa17 HH17 => ?_)
    clear HH16
    refine LG_skip (HH17.unwant rfl rfl rfl rfl) rfl rfl HH17 (fun aa18 HH18 => ?_)
    clear HH17
    refine LG_skip (HH18.unwant rfl rfl rfl rfl) rfl rfl HH18 (fun aa19 HH19 => ?_)
    clear HH18
    refine LG_val (want0 rfl) rfl rfl HH19 (Y_pickT HH19 rfl rfl rfl) (fun aa20 HH20 => ?_)
    clear HH19
    refine LG_val (want0 rfl) rfl rfl HH20 (Y_mov HH20 rfl rfl) (fun aa21 HH21 => ?_)
    clear HH20
    refine LG_skip (HH21.unwant rfl rfl rfl rfl) rfl rfl HH21 (fun aa22 HH22 => ?_)
    clear HH21
    refine LG_skip (HH22.unwant rfl rfl rfl rfl) rfl rfl HH22 (fun aa23 HH23 => ?_)
    clear HH22
    refine LG_skip (HH23.unwant rfl rfl rfl rfl) rfl rfl HH23 (fun aa24 HH24 => ?_)
    clear HH23
    refine LG_skip (HH24.unwant rfl rfl rfl rfl) rfl rfl HH24 (fun aa25 HH25 => ?_)
    clear HH24
    refine LG_skip (HH25.unwant rfl rfl rfl rfl) rfl rfl HH25 (fun aa26 HH26 => ?_)
    clear HH25
    refine LG_skip (HH26.unwant rfl rfl rfl rfl) rfl rfl HH26 (fun aa27 HH27 => ?_)
    clear HH26
    refine LG_skip (HH27.unwant rfl rfl rfl rfl) rfl rfl HH27 (fun aa28 HH28 => ?_)
    clear HH27
    refine LG_val (want0 rfl) rfl rfl HH28 (Y_pickT HH28 rfl rfl rfl) (fun aa29 HH29 => ?_)
    clear HH28
    refine LG_val (want0 rfl) rfl rfl HH29 (Y_mov HH29 rfl rfl) (fun aa30 HH30 => ?_)
    clear HH29
    refine LG_skip (HH30.unwant rfl rfl rfl rfl) rfl rfl HH30 (fun aa31 HH31 => ?_)
    clear HH30
    refine LG_skip (HH31.unwant rfl rfl rfl rfl) rfl rfl HH31 (fun aa32 HH32 => ?_)
    clear HH31
    refine LG_skip (HH32.unwant rfl rfl rfl rfl) rfl rfl HH32 (fun aa33 HH33 => ?_)
    clear HH32
    refine LG_skip (HH33.unwant rfl rfl rfl rfl) rfl rfl HH33 (fun aa34 HH34 => ?_)
    clear HH33
    refine LG_skip (HH34.unwant rfl rfl rfl rfl) rfl rfl HH34 (fun aa35 HH35 => ?_)
    clear HH34
    refine LG_val (want0 rfl) rfl rfl HH35 (Y_pickT HH35 rfl rfl rfl) (fun aa36 HH36 => ?_)
    clear HH35
    refine LG_val (want0 rfl) rfl rfl HH36 (Y_mov HH36 rfl rfl) (fun aa37 HH37 => ?_)
    clear HH36
    refine LG_skip (HH37.unwant rfl rfl rfl rfl) rfl rfl HH37 (fun aa38 HH38 => ?_)
    clear HH37
    refine LG_skip (HH38.unwant rfl rfl rfl rfl) rfl rfl HH38 (fun aa39 HH39 => ?_)
    clear HH38
    refine LG_skip (HH39.unwant rfl rfl rfl rfl) rfl rfl HH39 (fun aa40 HH40 => ?_)
    clear HH39
    refine LG_skip (HH40.unwant rfl rfl rfl rfl) rfl rfl HH40 (fun aa41 HH41 => ?_)
    clear HH40
    refine LG_skip (HH41.unyielded rfl rfl rfl) rfl rfl HH41 (fun aa42 HH42 => ?_)
    clear HH41
    refine LG_skip (HH42.unyielded rfl rfl rfl) rfl rfl HH42 (fun aa43 HH43 => ?_)
    clear HH42
    refine LG_skip (HH43.unyielded rfl rfl rfl) rfl rfl HH43 (fun aa44 HH44 => ?_)
    clear HH43
    refine LG_skip (HH44.unyielded rfl rfl rfl) rfl rfl HH44 (fun aa45 HH45 => ?_)
    clear HH44
    refine LG_skip (HH45.unyielded rfl rfl rfl) rfl rfl HH45 (fun aa46 HH46 => ?_)
    clear HH45
    refine LG_skip (HH46.unyielded rfl rfl rfl) rfl rfl HH46 (fun aa47 HH47 => ?_)
    clear HH46
    refine LG_skip (HH47.unyielded rfl rfl rfl) rfl rfl HH47 (fun aa48 HH48 => ?_)
    clear HH47
    refine LG_skip (HH48.unyielded rfl rfl rfl) rfl rfl HH48 (fun aa49 HH49 => ?_)
    clear HH48
    refine LG_skip (HH49.unwant rfl rfl rfl rfl) rfl rfl HH49 (fun aa50 HH50 => ?_)
    clear HH49
    refine LG_val (want0 rfl) rfl rfl HH50 (Y_pickT HH50 rfl rfl rfl) (fun aa51 HH51 => ?_)
    clear HH50
    refine L_end (t_norm (hKK10 _ _ ?_))
    refine c_yes HH51 rfl ?_
    refine wp_seq_k fun KK52 hKK52 => ?_
    refine wp_region_lit ?_
    refine LG_val (want0 rfl) rfl rfl HH51 (Y_asg HH51 rfl rfl) (fun aa53 HH53 => ?_)
    clear HH51
    refine L_end (t_norm (hKK52 _ _ ?_))
    refine wp_ret (t_ret (ret1 rfl HH53 rfl ?_))
    exact ⟨rfl, HRep.open.2 ⟨_, _, _, _, _, vs, hvs, SS7.p1.p1⟩⟩
  ·
    refine LG_val (want0 rfl) rfl rfl HH11 (Y_no (Y_lss HH11 rfl rfl rfl) (q1)) (fun aa54 HH54 => ?_)
    clear HH11
    refine LG_val (want0 rfl) rfl rfl HH54 (Y_mov HH54 rfl rfl) (fun aa55 HH55 => ?_)
    clear HH54
    refine LG_val (HH55.want rfl rfl rfl) rfl rfl HH55 (Y_mov HH55 rfl rfl) (fun aa56 HH56 => ?_)
    clear HH55
    by_cases q2 : 2 < st
    ·
      refine LG_val (HH56.want rfl rfl rfl) rfl rfl HH56 (Y_yes (Y_gtr HH56 rfl rfl rfl) (q2)) (fun aa57 HH57 => ?_)
      clear HH56
      refine LG_val (want0 rfl) rfl rfl HH57 (Y_pickF HH57 rfl rfl rfl) (fun aa58 HH58 => ?_)
      clear HH57
      refine LG_val (want0 rfl) rfl rfl HH58 (Y_mov HH58 rfl rfl) (fun aa59 HH59 => ?_)
      clear HH58
      refine LG_skip (HH59.unwant rfl rfl rfl rfl) rfl rfl HH59 (fun aa60 HH60 => ?_)
      clear HH59
      refine LG_skip (HH60.unwant rfl rfl rfl rfl) rfl rfl HH60 (fun aa61 HH61 => ?_)
      clear HH60
      refine LG_val (want0 rfl) rfl rfl HH61 (Y_pickT HH61 rfl rfl rfl) (fun aa62 HH62 => ?_)
      clear HH61
      refine LG_val (want0 rfl) rfl rfl HH62 (Y_mov HH62 rfl rfl) (fun aa63 HH63 => ?_)
      clear HH62
      refine LG_skip (HH63.unwant rfl rfl rfl rfl) rfl rfl HH63 (fun aa64 HH64 => ?_)
      clear HH63
      refine LG_skip (HH64.unwant rfl rfl rfl rfl) rfl rfl HH64 (fun aa65 HH65 => ?_)
      clear HH64
      refine LG_skip (HH65.unwant rfl rfl rfl rfl) rfl rfl HH65 (fun aa66 HH66 => ?_)
      clear HH65
      refine LG_skip (HH66.unwant rfl rfl rfl rfl) rfl rfl HH66 (fun aa67 HH67 => ?_)
      clear HH66
      refine LG_skip (HH67.unwant rfl rfl rfl rfl) rfl rfl HH67 (fun aa68 HH68 => ?_)
      clear HH67
      refine LG_skip (HH68.unwant rfl rfl rfl rfl) rfl rfl HH68 (fun aa69 HH69 => ?_)
      clear HH68
      refine LG_skip (HH69.unwant rfl rfl rfl rfl) rfl rfl HH69 (fun aa70 HH70 => ?_)
      clear HH69
      refine LG_val (want0 rfl) rfl rfl HH70 (Y_pickT HH70 rfl rfl rfl) (fun aa71 HH71 => ?_)
      clear HH70
      refine LG_val (want0 rfl) rfl rfl HH71 (Y_mov HH71 rfl rfl) (fun aa72 HH72 => ?_)
      clear HH71
      refine LG_skip (HH72.unwant rfl rfl rfl rfl) rfl rfl HH72 (fun aa73 HH73 => ?_)
      clear HH72
      refine LG_skip (HH73.unwant rfl rfl rfl rfl) rfl rfl HH73 (fun aa74 HH74 => ?_)
      clear HH73
      refine LG_skip (HH74.unwant rfl rfl rfl rfl) rfl rfl HH74 (fun aa75 HH75 => ?_)
      clear HH74
      refine LG_skip (HH75.unwant rfl rfl rfl rfl) rfl rfl HH75 (fun aa76 HH76 => ?_)
      clear HH75
      refine LG_skip (HH76.unwant rfl rfl rfl rfl) rfl rfl HH76 (fun aa77 HH77 => ?_)
      clear HH76
      refine LG_val (want0 rfl) rfl rfl HH77 (Y_pickT HH77 rfl rfl rfl) (fun aa78 HH78 => ?_)
      clear HH77
      refine LG_val (want0 rfl) rfl rfl HH78 (Y_mov HH78 rfl rfl) (fun aa79 HH79 => ?_)
      clear HH78
      refine LG_skip (HH79.unwant rfl rfl rfl rfl) rfl rfl HH79 (fun aa80 HH80 => ?_)
      clear HH79
      refine LG_skip (HH80.unwant rfl rfl rfl rfl) rfl rfl HH80 (fun aa81 HH81 => ?_)
      clear HH80
      refine LG_skip (HH81.unwant rfl rfl rfl rfl) rfl rfl HH81 (fun aa82 HH82 => ?_)
      clear HH81
      refine LG_skip (HH82.unwant rfl rfl rfl rfl) rfl rfl HH82 (fun aa83 HH83 => ?_)
      clear HH82
      refine LG_skip (HH83.unyielded rfl rfl rfl) rfl rfl HH83 (fun aa84 HH84 => ?_)
      clear HH83
      refine LG_skip (HH84.unyielded rfl rfl rfl) rfl rfl HH84 (fun aa85 HH85 => ?_)
      clear HH84
      refine LG_skip (HH85.unyielded rfl rfl rfl) rfl rfl HH85 (fun aa86 HH86 => ?_)
      clear HH85
      refine LG_skip (HH86.unyielded rfl rfl rfl) rfl rfl HH86 (fun aa87 HH87 => ?_)
      clear HH86
      refine LG_skip (HH87.unyielded rfl rfl rfl) rfl rfl HH87 (fun aa88 HH88 => ?_)
      clear HH87
      refine LG_skip (HH88.unyielded rfl rfl rfl) rfl rfl HH88 (fun aa89 HH89 => ?_)
      clear HH88
      refine LG_skip (HH89.unyielded rfl rfl rfl) rfl rfl HH89 (fun aa90 HH90 => ?_)
      clear HH89
      refine LG_skip (HH90.unyielded rfl rfl rfl) rfl rfl HH90 (fun aa91 HH91 => ?_)
      clear HH90
      refine LG_skip (HH91.unwant rfl rfl rfl rfl) rfl rfl HH91 (fun aa92 HH92 => ?_)
      clear HH91
      refine LG_val (want0 rfl) rfl rfl HH92 (Y_pickT HH92 rfl rfl rfl) (fun aa93 HH93 => ?_)
      clear HH92
      refine L_end (t_norm (hKK10 _ _ ?_))
      refine c_yes HH93 rfl ?_
      refine wp_seq_k fun KK94 hKK94 => ?_
      refine wp_region_lit ?_
      refine LG_val (want0 rfl) rfl rfl HH93 (Y_asg HH93 rfl rfl) (fun aa95 HH95 => ?_)
      clear HH93
      refine L_end (t_norm (hKK94 _ _ ?_))
      refine wp_ret (t_ret (ret1 rfl HH95 rfl ?_))
      exact ⟨rfl, HRep.open.2 ⟨_, _, _, _, _, vs, hvs, SS7.p1.p1⟩⟩
    ·
      refine LG_val (HH56.want rfl rfl rfl) rfl rfl HH56 (Y_no (Y_gtr HH56 rfl rfl rfl) (q2)) (fun aa96 HH96 => ?_)
      clear HH56
      refine LG_val (want0 rfl) rfl rfl HH96 (Y_pickF HH96 rfl rfl rfl) (fun aa97 HH97 => ?_)
      clear HH96
      refine LG_val (want0 rfl) rfl rfl HH97 (Y_mov HH97 rfl rfl) (fun aa98 HH98 => ?_)
      clear HH97
      refine LG_val (HH98.want rfl rfl rfl) rfl rfl HH98 (Y_mov HH98 rfl rfl) (fun aa99 HH99 => ?_)
      clear HH98
      by_cases q3 : hd < -1
      ·
        refine LG_val (HH99.want rfl rfl rfl) rfl rfl HH99 (Y_yes (Y_lss HH99 rfl rfl rfl) (q3)) (fun aa100 HH100 => ?_)
        clear HH99
        refine LG_val (want0 rfl) rfl rfl HH100 (Y_pickF HH100 rfl rfl rfl) (fun aa101 HH101 => ?_)
        clear HH100
        refine LG_val (want0 rfl) rfl rfl HH101 (Y_mov HH101 rfl rfl) (fun aa102 HH102 => ?_)
        clear HH101
        refine LG_skip (HH102.unwant rfl rfl rfl rfl) rfl rfl HH102 (fun aa103 HH103 => ?_)
        clear HH102
        refine LG_skip (HH103.unwant rfl rfl rfl rfl) rfl rfl HH103 (fun aa104 HH104 => ?_)
        clear HH103
        refine LG_skip (HH104.unwant rfl rfl rfl rfl) rfl rfl HH104 (fun aa105 HH105 => ?_)
        clear HH104
        refine LG_skip (HH105.unwant rfl rfl rfl rfl) rfl rfl HH105 (fun aa106 HH106 => ?_)
        clear HH105
        refine LG_skip (HH106.unwant rfl rfl rfl rfl) rfl rfl HH106 (fun aa107 HH107 => ?_)
        clear HH106
        refine LG_skip (HH107.unwant rfl rfl rfl rfl) rfl rfl HH107 (fun aa108 HH108 => ?_)
        clear HH107
        refine LG_skip (HH108.unwant rfl rfl rfl rfl) rfl rfl HH108 (fun aa109 HH109 => ?_)
        clear HH108
        refine LG_val (want0 rfl) rfl rfl HH109 (Y_pickT HH109 rfl rfl rfl) (fun aa110 HH110 => ?_)
        clear HH109
        refine LG_val (want0 rfl) rfl rfl HH110 (Y_mov HH110 rfl rfl) (fun aa111 HH111 => ?_)
        clear HH110
        refine LG_skip (HH111.unwant rfl rfl rfl rfl) rfl rfl HH111 (fun aa112 HH112 => ?_)
        clear HH111
        refine LG_skip (HH112.unwant rfl rfl rfl rfl) rfl rfl HH112 (fun aa113 HH113 => ?_)
        clear HH112
        refine LG_skip (HH113.unwant rfl rfl rfl rfl) rfl rfl HH113 (fun aa114 HH114 => ?_)
        clear HH113
        refine LG_skip (HH114.unwant rfl rfl rfl rfl) rfl rfl HH114 (fun aa115 HH115 => ?_)
        clear HH114
        refine LG_skip (HH115.unwant rfl rfl rfl rfl) rfl rfl HH115 (fun aa116 HH116 => ?_)
        clear HH115
        refine LG_val (want0 rfl) rfl rfl HH116 (Y_pickT HH116 rfl rfl rfl) (fun aa117 HH117 => ?_)
        clear HH116
        refine LG_val (want0 rfl) rfl rfl HH117 (Y_mov HH117 rfl rfl) (fun aa118 HH118 => ?_)
        clear HH117
        refine LG_skip (HH118.unwant rfl rfl rfl rfl) rfl rfl HH118 (fun aa119 HH119 => ?_)
        clear HH118
        refine LG_skip (HH119.unwant rfl rfl rfl rfl) rfl rfl HH119 (fun aa120 HH120 => ?_)
        clear HH119
        refine LG_skip (HH120.unwant rfl rfl rfl rfl) rfl rfl HH120 (fun aa121 HH121 => ?_)
        clear HH120
        refine LG_skip (HH121.unwant rfl rfl rfl rfl) rfl rfl HH121 (fun aa122 HH122 => ?_)
        clear HH121
        refine LG_skip (HH122.unyielded rfl rfl rfl) rfl rfl HH122 (fun aa123 HH123 => ?_)
        clear HH122
        refine LG_skip (HH123.unyielded rfl rfl rfl) rfl rfl HH123 (fun aa124 HH124 => ?_)
        clear HH123
        refine LG_skip (HH124.unyielded rfl rfl rfl) rfl rfl HH124 (fun aa125 HH125 => ?_)
        clear HH124
        refine LG_skip (HH125.unyielded rfl rfl rfl) rfl rfl HH125 (fun aa126 HH126 => ?_)
        clear HH125
        refine LG_skip (HH126.unyielded rfl rfl rfl) rfl rfl HH126 (fun aa127 HH127 => ?_)
        clear HH126
        refine LG_skip (HH127.unyielded rfl rfl rfl) rfl rfl HH127 (fun aa128 HH128 => ?_)
        clear HH127
        refine LG_skip (HH128.unyielded rfl rfl rfl) rfl rfl HH128 (fun aa129 HH129 => ?_)
        clear HH128
        refine LG_skip (HH129.unyielded rfl rfl rfl) rfl rfl HH129 (fun aa130 HH130 => ?_)
        clear HH129
        refine LG_skip (HH130.unwant rfl rfl rfl rfl) rfl rfl HH130 (fun aa131 HH131 => ?_)
        clear HH130
        refine LG_val (want0 rfl) rfl rfl HH131 (Y_pickT HH131 rfl rfl rfl) (fun aa132 HH132 => ?_)
        clear HH131
        refine L_end (t_norm (hKK10 _ _ ?_))
        refine c_yes HH132 rfl ?_
        refine wp_seq_k fun KK133 hKK133 => ?_
        refine wp_region_lit ?_
        refine LG_val (want0 rfl) rfl rfl HH132 (Y_asg HH132 rfl rfl) (fun aa134 HH134 => ?_)
        clear HH132
        refine L_end (t_norm (hKK133 _ _ ?_))
        refine wp_ret (t_ret (ret1 rfl HH134 rfl ?_))
        exact ⟨rfl, HRep.open.2 ⟨_, _, _, _, _, vs, hvs, SS7.p1.p1⟩⟩
      ·
        refine LG_val (HH99.want rfl rfl rfl) rfl rfl HH99 (Y_no (Y_lss HH99 rfl rfl rfl) (q3)) (fun aa135 HH135 => ?_)
        clear HH99
        refine LG_val (want0 rfl) rfl rfl HH135 (Y_pickF HH135 rfl rfl rfl) (fun aa136 HH136 => ?_)
        clear HH135
        refine LG_val (want0 rfl) rfl rfl HH136 (Y_mov HH136 rfl rfl) (fun aa137 HH137 => ?_)
        clear HH136
        refine LG_val (HH137.want rfl rfl rfl) rfl rfl HH137 (Y_mov HH137 rfl rfl) (fun aa138 HH138 => ?_)
        clear HH137
        refine LG_val (HH138.want rfl rfl rfl) rfl rfl HH138 (Y_mov HH138 rfl rfl) (fun aa139 HH139 => ?_)
        clear HH138
        refine LG_val (HH139.want rfl rfl rfl) rfl rfl HH139 (Y_chk HH139 rfl rfl) (fun aa140 HH140 => ?_)
        clear HH139
        refine LG_val (HH140.want rfl rfl rfl) rfl rfl HH140 (Y_fad (off := 0) (r := 0) HH140 rfl (by kernel_rfl) rfl rfl) (fun aa141 HH141 => ?_)
        clear HH140
        refine LG_val (HH141.want rfl rfl rfl) rfl rfl HH141 (Y_fad (off := 0) (r := 0) HH141 rfl (by kernel_rfl) rfl rfl) (fun aa142 HH142 => ?_)
        clear HH141
        refine LG_val (HH142.want rfl rfl rfl) rfl rfl HH142 (Y_load HH142 rfl (by kernel_rfl) rfl (SS7.cell 0)) (fun aa143 HH143 => ?_)
        clear HH142
        by_cases q4 : (c.nodes : Int) ≤ hd
        ·
          refine LG_val (HH143.want rfl rfl rfl) rfl rfl HH143 (Y_yes (Y_geq HH143 rfl rfl rfl) (q4)) (fun aa144 HH144 => ?_)
          clear HH143
          refine LG_val (want0 rfl) rfl rfl HH144 (Y_pickF HH144 rfl rfl rfl) (fun aa145 HH145 => ?_)
          clear HH144
          refine LG_val (want0 rfl) rfl rfl HH145 (Y_mov HH145 rfl rfl) (fun aa146 HH146 => ?_)
          clear HH145
          refine LG_skip (HH146.unwant rfl rfl rfl rfl) rfl rfl HH146 (fun aa147 HH147 => ?_)
          clear HH146
          refine LG_skip (HH147.unwant rfl rfl rfl rfl) rfl rfl HH147 (fun aa148 HH148 => ?_)
          clear HH147
          refine LG_skip (HH148.unwant rfl rfl rfl rfl) rfl rfl HH148 (fun aa149 HH149 => ?_)
          clear HH148
          refine LG_skip (HH149.unwant rfl rfl rfl rfl) rfl rfl HH149 (fun aa150 HH150 => ?_)
          clear HH149
          refine LG_skip (HH150.unwant rfl rfl rfl rfl) rfl rfl HH150 (fun aa151 HH151 => ?_)
          clear HH150
          refine LG_val (want0 rfl) rfl rfl HH151 (Y_pickT HH151 rfl rfl rfl) (fun aa152 HH152 => ?_)
          clear HH151
          refine LG_val (want0 rfl) rfl rfl HH152 (Y_mov HH152 rfl rfl) (fun aa153 HH153 => ?_)
          clear HH152
          refine LG_skip (HH153.unwant rfl rfl rfl rfl) rfl rfl HH153 (fun aa154 HH154 => ?_)
          clear HH153
          refine LG_skip (HH154.unwant rfl rfl rfl rfl) rfl rfl HH154 (fun aa155 HH155 => ?_)
          clear HH154
          refine LG_skip (HH155.unwant rfl rfl rfl rfl) rfl rfl HH155 (fun aa156 HH156 => ?_)
          clear HH155
          refine LG_skip (HH156.unwant rfl rfl rfl rfl) rfl rfl HH156 (fun aa157 HH157 => ?_)
          clear HH156
          refine LG_skip (HH157.unyielded rfl rfl rfl) rfl rfl HH157 (fun aa158 HH158 => ?_)
          clear HH157
          refine LG_skip (HH158.unyielded rfl rfl rfl) rfl rfl HH158 (fun aa159 HH159 => ?_)
          clear HH158
          refine LG_skip (HH159.unyielded rfl rfl rfl) rfl rfl HH159 (fun aa160 HH160 => ?_)
          clear HH159
          refine LG_skip (HH160.unyielded rfl rfl rfl) rfl rfl HH160 (fun aa161 HH161 => ?_)
          clear HH160
          refine LG_skip (HH161.unyielded rfl rfl rfl) rfl rfl HH161 (fun aa162 HH162 => ?_)
          clear HH161
          refine LG_skip (HH162.unyielded rfl rfl rfl) rfl rfl HH162 (fun aa163 HH163 => ?_)
          clear HH162
          refine LG_skip (HH163.unyielded rfl rfl rfl) rfl rfl HH163 (fun aa164 HH164 => ?_)
          clear HH163
          refine LG_skip (HH164.unyielded rfl rfl rfl) rfl rfl HH164 (fun aa165 HH165 => ?_)
          clear HH164
          refine LG_skip (HH165.unwant rfl rfl rfl rfl) rfl rfl HH165 (fun aa166 HH166 => ?_)
          clear HH165
          refine LG_val (want0 rfl) rfl rfl HH166 (Y_pickT HH166 rfl rfl rfl) (fun aa167 HH167 => ?_)
          clear HH166
          refine L_end (t_norm (hKK10 _ _ ?_))
          refine c_yes HH167 rfl ?_
          refine wp_seq_k fun KK168 hKK168 => ?_
          refine wp_region_lit ?_
          refine LG_val (want0 rfl) rfl rfl HH167 (Y_asg HH167 rfl rfl) (fun aa169 HH169 => ?_)
          clear HH167
          refine L_end (t_norm (hKK168 _ _ ?_))
          refine wp_ret (t_ret (ret1 rfl HH169 rfl ?_))
          exact ⟨rfl, HRep.open.2 ⟨_, _, _, _, _, vs, hvs, SS7.p1.p1⟩⟩
        ·
          refine LG_val (HH143.want rfl rfl rfl) rfl rfl HH143 (Y_no (Y_geq HH143 rfl rfl rfl) (q4)) (fun aa170 HH170 => ?_)
          clear HH143
          refine LG_val (want0 rfl) rfl rfl HH170 (Y_pickF HH170 rfl rfl rfl) (fun aa171 HH171 => ?_)
          clear HH170
          refine LG_val (want0 rfl) rfl rfl HH171 (Y_mov HH171 rfl rfl) (fun aa172 HH172 => ?_)
          clear HH171
          refine LG_val (HH172.want rfl rfl rfl) rfl rfl HH172 (Y_mov HH172 rfl rfl) (fun aa173 HH173 => ?_)
          clear HH172
          by_cases q6 : st = 0
          ·
            refine LG_val (HH173.want rfl rfl rfl) rfl rfl HH173 (Y_yes (Y_eql HH173 rfl rfl rfl) (q6)) (fun aa174 HH174 => ?_)
            clear HH173
            refine LG_val (HH174.want rfl rfl rfl) rfl rfl HH174 (Y_mov HH174 rfl rfl) (fun aa175 HH175 => ?_)
            clear HH174
            by_cases q5 : hd = -1
            ·
              refine LG_val (HH175.want rfl rfl rfl) rfl rfl HH175 (Y_yes (Y_eql HH175 rfl rfl rfl) (q5)) (fun aa176 HH176 => ?_)
              clear HH175
              refine LG_val (HH176.want rfl rfl rfl) rfl rfl HH176 (Y_to (Y_neqB HH176 rfl (by kernel_rfl) rfl rfl) (rfl)) (fun aa177 HH177 => ?_)
              clear HH176
              refine LG_val (want0 rfl) rfl rfl HH177 (Y_pickF HH177 rfl rfl rfl) (fun aa178 HH178 => ?_)
              clear HH177
              refine LG_val (want0 rfl) rfl rfl HH178 (Y_mov HH178 rfl rfl) (fun aa179 HH179 => ?_)
              clear HH178
              refine LG_val (HH179.want rfl rfl rfl) rfl rfl HH179 (Y_mov HH179 rfl rfl) (fun aa180 HH180 => ?_)
              clear HH179
              refine LG_val (HH180.want rfl rfl rfl) rfl rfl HH180 (Y_lenS HH180 rfl (by kernel_rfl) rfl) (fun aa181 HH181 => ?_)
              clear HH180
              by_cases q7 : 0 < (data.length : Int)
              ·
                refine LG_val (HH181.want rfl rfl rfl) rfl rfl HH181 (Y_yes (Y_gtr HH181 rfl rfl rfl) (q7)) (fun aa182 HH182 => ?_)
                clear HH181
                refine LG_val (HH182.want rfl rfl rfl) rfl rfl HH182 (Y_mov HH182 rfl rfl) (fun aa183 HH183 => ?_)
                clear HH182
                refine LG_val (HH183.want rfl rfl rfl) rfl rfl HH183 (Y_mov HH183 rfl rfl) (fun aa184 HH184 => ?_)
                clear HH183
                refine LG_val (HH184.want rfl rfl rfl) rfl rfl HH184 (Y_lenS HH184 rfl (by kernel_rfl) rfl) (fun aa185 HH185 => ?_)
                clear HH184
                refine LG_val (HH185.want rfl rfl rfl) rfl rfl HH185 (Y_mov HH185 rfl rfl) (fun aa186 HH186 => ?_)
                clear HH185
                refine LG_val (HH186.want rfl rfl rfl) rfl rfl HH186 (Y_chk HH186 rfl rfl) (fun aa187 HH187 => ?_)
                clear HH186
                refine LG_val (HH187.want rfl rfl rfl) rfl rfl HH187 (Y_fad (off := 0) (r := 0) HH187 rfl (by kernel_rfl) rfl rfl) (fun aa188 HH188 => ?_)
                clear HH187
                refine LG_val (HH188.want rfl rfl rfl) rfl rfl HH188 (Y_fad (off := 2) (r := 2) HH188 rfl (by kernel_rfl) rfl rfl) (fun aa189 HH189 => ?_)
                clear HH188
                refine LG_val (HH189.want rfl rfl rfl) rfl rfl HH189 (Y_load HH189 rfl (by kernel_rfl) rfl (SS7.cell 2)) (fun aa190 HH190 => ?_)
                clear HH189
                by_cases q8 : (data.length : Int) ≠ (c.words : Int)
                ·
                  refine LG_val (HH190.want rfl rfl rfl) rfl rfl HH190 (Y_yes (Y_neq HH190 rfl rfl rfl) (q8)) (fun aa191 HH191 => ?_)
                  clear HH190
                  refine LG_val (HH191.want rfl rfl rfl) rfl rfl HH191 (Y_pickT HH191 rfl rfl rfl) (fun aa192 HH192 => ?_)
                  clear HH191
                  refine LG_val (want0 rfl) rfl rfl HH192 (Y_pickF HH192 rfl rfl rfl) (fun aa193 HH193 => ?_)
                  clear HH192
                  refine L_end (t_norm (hKK10 _ _ ?_))
                  refine c_yes HH193 rfl ?_
                  refine wp_seq_k fun KK194 hKK194 => ?_
                  refine wp_region_lit ?_
                  refine LG_val (want0 rfl) rfl rfl HH193 (Y_asg HH193 rfl rfl) (fun aa195 HH195 => ?_)
                  clear HH193
                  refine L_end (t_norm (hKK194 _ _ ?_))
                  refine wp_ret (t_ret (ret1 rfl HH195 rfl ?_))
                  exact ⟨rfl, HRep.open.2 ⟨_, _, _, _, _, vs, hvs, SS7.p1.p1⟩⟩
                ·
                  exfalso; omega
              ·
                exfalso; omega
            ·
              refine LG_val (HH175.want rfl rfl rfl) rfl rfl HH175 (Y_no (Y_eql HH175 rfl rfl rfl) (q5)) (fun aa196 HH196 => ?_)
              clear HH175
              refine LG_val (HH196.want rfl rfl rfl) rfl rfl HH196 (Y_to (Y_neqB HH196 rfl (by kernel_rfl) rfl rfl) (rfl)) (fun aa197 HH197 => ?_)
              clear HH196
              refine LG_val (want0 rfl) rfl rfl HH197 (Y_pickF HH197 rfl rfl rfl) (fun aa198 HH198 => ?_)
              clear HH197
              refine LG_val (want0 rfl) rfl rfl HH198 (Y_mov HH198 rfl rfl) (fun aa199 HH199 => ?_)
              clear HH198
              refine LG_skip (HH199.unwant rfl rfl rfl rfl) rfl rfl HH199 (fun aa200 HH200 => ?_)
              clear HH199
              refine LG_skip (HH200.unwant rfl rfl rfl rfl) rfl rfl HH200 (fun aa201 HH201 => ?_)
              clear HH200
              refine LG_skip (HH201.unwant rfl rfl rfl rfl) rfl rfl HH201 (fun aa202 HH202 => ?_)
              clear HH201
              refine LG_skip (HH202.unwant rfl rfl rfl rfl) rfl rfl HH202 (fun aa203 HH203 => ?_)
              clear HH202
              refine LG_skip (HH203.unyielded rfl rfl rfl) rfl rfl HH203 (fun aa204 HH204 => ?_)
              clear HH203
              refine LG_skip (HH204.unyielded rfl rfl rfl) rfl rfl HH204 (fun aa205 HH205 => ?_)
              clear HH204
              refine LG_skip (HH205.unyielded rfl rfl rfl) rfl rfl HH205 (fun aa206 HH206 => ?_)
              clear HH205
              refine LG_skip (HH206.unyielded rfl rfl rfl) rfl rfl HH206 (fun aa207 HH207 => ?_)
              clear HH206
              refine LG_skip (HH207.unyielded rfl rfl rfl) rfl rfl HH207 (fun aa208 HH208 => ?_)
              clear HH207
              refine LG_skip (HH208.unyielded rfl rfl rfl) rfl rfl HH208 (fun aa209 HH209 => ?_)
              clear HH208
              refine LG_skip (HH209.unyielded rfl rfl rfl) rfl rfl HH209 (fun aa210 HH210 => ?_)
              clear HH209
              refine LG_skip (HH210.unyielded rfl rfl rfl) rfl rfl HH210 (fun aa211 HH211 => ?_)
              clear HH210
              refine LG_skip (HH211.unwant rfl rfl rfl rfl) rfl rfl HH211 (fun aa212 HH212 => ?_)
              clear HH211
              refine LG_val (want0 rfl) rfl rfl HH212 (Y_pickT HH212 rfl rfl rfl) (fun aa213 HH213 => ?_)
              clear HH212
              refine L_end (t_norm (hKK10 _ _ ?_))
              refine c_yes HH213 rfl ?_
              refine wp_seq_k fun KK214 hKK214 => ?_
              refine wp_region_lit ?_
              refine LG_val (want0 rfl) rfl rfl HH213 (Y_asg HH213 rfl rfl) (fun aa215 HH215 => ?_)
              clear HH213
              refine L_end (t_norm (hKK214 _ _ ?_))
              refine wp_ret (t_ret (ret1 rfl HH215 rfl ?_))
              exact ⟨rfl, HRep.open.2 ⟨_, _, _, _, _, vs, hvs, SS7.p1.p1⟩⟩
          ·
            refine LG_val (HH173.want rfl rfl rfl) rfl rfl HH173 (Y_no (Y_eql HH173 rfl rfl rfl) (q6)) (fun aa216 HH216 => ?_)
            clear HH173
            refine LG_val (HH216.want rfl rfl rfl) rfl rfl HH216 (Y_mov HH216 rfl rfl) (fun aa217 HH217 => ?_)
            clear HH216
            by_cases q5 : hd = -1
            ·
              refine LG_val (HH217.want rfl rfl rfl) rfl rfl HH217 (Y_yes (Y_eql HH217 rfl rfl rfl) (q5)) (fun aa218 HH218 => ?_)
              clear HH217
              refine LG_val (HH218.want rfl rfl rfl) rfl rfl HH218 (Y_to (Y_neqB HH218 rfl (by kernel_rfl) rfl rfl) (rfl)) (fun aa219 HH219 => ?_)
              clear HH218
              refine LG_val (want0 rfl) rfl rfl HH219 (Y_pickF HH219 rfl rfl rfl) (fun aa220 HH220 => ?_)
              clear HH219
              refine LG_val (want0 rfl) rfl rfl HH220 (Y_mov HH220 rfl rfl) (fun aa221 HH221 => ?_)
              clear HH220
              refine LG_skip (HH221.unwant rfl rfl rfl rfl) rfl rfl HH221 (fun aa222 HH222 => ?_)
              clear HH221
              refine LG_skip (HH222.unwant rfl rfl rfl rfl) rfl rfl HH222 (fun aa223 HH223 => ?_)
              clear HH222
              refine LG_skip (HH223.unwant rfl rfl rfl rfl) rfl rfl HH223 (fun aa224 HH224 => ?_)
              clear HH223
              refine LG_skip (HH224.unwant rfl rfl rfl rfl) rfl rfl HH224 (fun aa225 HH225 => ?_)
              clear HH224
              refine LG_skip (HH225.unyielded rfl rfl rfl) rfl rfl HH225 (fun aa226 HH226 => ?_)
              clear HH225
              refine LG_skip (HH226.unyielded rfl rfl rfl) rfl rfl HH226 (fun aa227 HH227 => ?_)
              clear HH226
              refine LG_skip (HH227.unyielded rfl rfl rfl) rfl rfl HH227 (fun aa228 HH228 => ?_)
              clear HH227
              refine LG_skip (HH228.unyielded rfl rfl rfl) rfl rfl HH228 (fun aa229 HH229 => ?_)
              clear HH228
              refine LG_skip (HH229.unyielded rfl rfl rfl) rfl rfl HH229 (fun aa230 HH230 => ?_)
              clear HH229
              refine LG_skip (HH230.unyielded rfl rfl rfl) rfl rfl HH230 (fun aa231 HH231 => ?_)
              clear HH230
              refine LG_skip (HH231.unyielded rfl rfl rfl) rfl rfl HH231 (fun aa232 HH232 => ?_)
              clear HH231
              refine LG_skip (HH232.unyielded rfl rfl rfl) rfl rfl HH232 (fun aa233 HH233 => ?_)
              clear HH232
              refine LG_skip (HH233.unwant rfl rfl rfl rfl) rfl rfl HH233 (fun aa234 HH234 => ?_)
              clear HH233
              refine LG_val (want0 rfl) rfl rfl HH234 (Y_pickT HH234 rfl rfl rfl) (fun aa235 HH235 => ?_)
              clear HH234
              refine L_end (t_norm (hKK10 _ _ ?_))
              refine c_yes HH235 rfl ?_
              refine wp_seq_k fun KK236 hKK236 => ?_
              refine wp_region_lit ?_
              refine LG_val (want0 rfl) rfl rfl HH235 (Y_asg HH235 rfl rfl) (fun aa237 HH237 => ?_)
              clear HH235
              refine L_end (t_norm (hKK236 _ _ ?_))
              refine wp_ret (t_ret (ret1 rfl HH237 rfl ?_))
              exact ⟨rfl, HRep.open.2 ⟨_, _, _, _, _, vs, hvs, SS7.p1.p1⟩⟩
            ·
              refine LG_val (HH217.want rfl rfl rfl) rfl rfl HH217 (Y_no (Y_eql HH217 rfl rfl rfl) (q5)) (fun aa238 HH238 => ?_)
              clear HH217
              refine LG_val (HH238.want rfl rfl rfl) rfl rfl HH238 (Y_to (Y_neqB HH238 rfl (by kernel_rfl) rfl rfl) (rfl)) (fun aa239 HH239 => ?_)
              clear HH238
              refine LG_val (want0 rfl) rfl rfl HH239 (Y_pickF HH239 rfl rfl rfl) (fun aa240 HH240 => ?_)
              clear HH239
              refine LG_val (want0 rfl) rfl rfl HH240 (Y_mov HH240 rfl rfl) (fun aa241 HH241 => ?_)
              clear HH240
              refine LG_val (HH241.want rfl rfl rfl) rfl rfl HH241 (Y_mov HH241 rfl rfl) (fun aa242 HH242 => ?_)
              clear HH241
              refine LG_val (HH242.want rfl rfl rfl) rfl rfl HH242 (Y_lenS HH242 rfl (by kernel_rfl) rfl) (fun aa243 HH243 => ?_)
              clear HH242
              by_cases q7 : 0 < (data.length : Int)
              ·
                refine LG_val (HH243.want rfl rfl rfl) rfl rfl HH243 (Y_yes (Y_gtr HH243 rfl rfl rfl) (q7)) (fun aa244 HH244 => ?_)
                clear HH243
                refine LG_val (HH244.want rfl rfl rfl) rfl rfl HH244 (Y_mov HH244 rfl rfl) (fun aa245 HH245 => ?_)
                clear HH244
                refine LG_val (HH245.want rfl rfl rfl) rfl rfl HH245 (Y_mov HH245 rfl rfl) (fun aa246 HH246 => ?_)
                clear HH245
                refine LG_val (HH246.want rfl rfl rfl) rfl rfl HH246 (Y_lenS HH246 rfl (by kernel_rfl) rfl) (fun aa247 HH247 => ?_)
                clear HH246
                refine LG_val (HH247.want rfl rfl rfl) rfl rfl HH247 (Y_mov HH247 rfl rfl) (fun aa248 HH248 => ?_)
                clear HH247
                refine LG_val (HH248.want rfl rfl rfl) rfl rfl HH248 (Y_chk HH248 rfl rfl) (fun aa249 HH249 => ?_)
                clear HH248
                refine LG_val (HH249.want rfl rfl rfl) rfl rfl HH249 (Y_fad (off := 0) (r := 0) HH249 rfl (by kernel_rfl) rfl rfl) (fun aa250 HH250 => ?_)
                clear HH249
                refine LG_val (HH250.want rfl rfl rfl) rfl rfl HH250 (Y_fad (off := 2) (r := 2) HH250 rfl (by kernel_rfl) rfl rfl) (fun aa251 HH251 => ?_)
                clear HH250
                refine LG_val (HH251.want rfl rfl rfl) rfl rfl HH251 (Y_load HH251 rfl (by kernel_rfl) rfl (SS7.cell 2)) (fun aa252 HH252 => ?_)
                clear HH251
                by_cases q8 : (data.length : Int) ≠ (c.words : Int)
                ·
                  refine LG_val (HH252.want rfl rfl rfl) rfl rfl HH252 (Y_yes (Y_neq HH252 rfl rfl rfl) (q8)) (fun aa253 HH253 => ?_)
                  clear HH252
                  refine LG_val (HH253.want rfl rfl rfl) rfl rfl HH253 (Y_pickT HH253 rfl rfl rfl) (fun aa254 HH254 => ?_)
                  clear HH253
                  refine LG_val (want0 rfl) rfl rfl HH254 (Y_pickF HH254 rfl rfl rfl) (fun aa255 HH255 => ?_)
                  clear HH254
                  refine L_end (t_norm (hKK10 _ _ ?_))
                  refine c_yes HH255 rfl ?_
                  refine wp_seq_k fun KK256 hKK256 => ?_
                  refine wp_region_lit ?_
                  refine LG_val (want0 rfl) rfl rfl HH255 (Y_asg HH255 rfl rfl) (fun aa257 HH257 => ?_)
                  clear HH255
                  refine L_end (t_norm (hKK256 _ _ ?_))
                  refine wp_ret (t_ret (ret1 rfl HH257 rfl ?_))
                  exact ⟨rfl, HRep.open.2 ⟨_, _, _, _, _, vs, hvs, SS7.p1.p1⟩⟩
                ·
                  exfalso; omega
              ·
                exfalso; omega

set_option maxRecDepth 100000 in
theorem hset_ok {w : World} {l : List HProp} {h : Nat} {c : Cfg} (hc : c.small) {node : Nat} {rs : List Rw} (y : Nat) (st hd : Int) (da : Option Addr) (dc : Nat) (data : List Int) {N : Nat} (hN : data.length = N) (hh : isHere c node (y : Int)) {r : Rw} (hr : rs[y]? = some r) (hrl : rs.length ≤ 8)
    (hrd : ∀ w', Sat w' l → RdI w' (.slice da N dc) data) (h1 : 0 ≤ st) (h2 : st ≤ 2) (h3 : -1 ≤ hd) (h4 : hd < (c.nodes : Int)) (h5 : hd = -1 ↔ st = 0) (h6 : data.length = 0 ∨ data.length = c.words) (S : Sat w (HRep h c node rs :: l)) :
    Calls Try.prog 52 #[VP h 0, VI (y : Int), VI st, VI hd, .slice da N dc] w fun e w' => e = .returned (VI 0) ∧ Sat w' (HRep h c node (rs.set y ⟨y, st, hd, if data.length = 0 then r.data else data⟩) :: l) := by
  subst hN
  have hylt := (List.getElem?_eq_some_iff.1 hr).1
  refine enter (n := 81) Try.func52 rfl [(0, VP h 0), (1, VI (y : Int)), (2, VI st), (3, VI hd), (4, .slice da data.length dc)] rfl rfl fun aa0 HH0 => ?_
  refine wp_seq_k fun KK1 hKK1 => ?_
  refine wp_region_lit ?_
  refine LG_val (want0 rfl) rfl rfl HH0 (Y_asg HH0 rfl rfl) (fun aa2 HH2 => ?_)
  clear HH0
  refine L_end (t_norm (hKK1 _ _ ?_))
  refine wp_seq_k fun KK3 hKK3 => ?_
  refine wp_seq_k fun KK4 hKK4 => ?_
  refine wp_region_lit ?_
  refine LG_val (want0 rfl) rfl rfl HH2 (Y_mov HH2 rfl rfl) (fun aa5 HH5 => ?_)
  clear HH2
  refine LG_val (want0 rfl) rfl rfl HH5 (Y_mov HH5 rfl rfl) (fun aa6 HH6 => ?_)
  clear HH5
  refine LG_call (want0 rfl) rfl rfl rfl Try.func53 (by kernel_rfl) rfl HH6 (here_ok hc (y : Int) S) rfl ?_
  rintro e ww7 ⟨rfl, SS7⟩
  rw [show decide (isHere c node (y : Int)) = true from decide_eq_true hh]
  refine ⟨_, rfl, fun aa7 HH7 => ?_⟩
  clear HH6
  clear S
  refine LG_val (want0 rfl) rfl rfl HH7 (Y_not HH7 rfl rfl) (fun aa8 HH8 => ?_)
  clear HH7
  refine L_end (t_norm (hKK4 _ _ ?_))
  refine c_no HH8 rfl ?_
  refine wp_skip (t_norm (hKK3 _ _ ?_))
  refine c_cut (fun a wx => Fr a 81 [(0, VP h 0), (1, VI (y : Int)), (2, VI st), (3, VI hd), (4, .slice da data.length dc)] ∧ Sat wx (HRep h c node rs :: l)) ?_ ?_
  ·
    refine wp_seq_k fun KK9 hKK9 => ?_
    obtain ⟨pa, pn, pc, ra, rk, vs, hvs, S1⟩ := HRep.open.1 SS7
    clear SS7
    have SS7 := S1
    clear S1
    refine wp_region_lit ?_
    refine LG_val (want0 rfl) rfl rfl HH8 (Y_mov HH8 rfl rfl) (fun aa10 HH10 => ?_)
    clear HH8
    refine LG_val (want0 rfl) rfl rfl HH10 (Y_no (Y_lss HH10 rfl rfl rfl) (by omega)) (fun aa11 HH11 => ?_)
    clear HH10
    refine LG_val (want0 rfl) rfl rfl HH11 (Y_mov HH11 rfl rfl) (fun aa12 HH12 => ?_)
    clear HH11
    refine LG_val (HH12.want rfl rfl rfl) rfl rfl HH12 (Y_mov HH12 rfl rfl) (fun aa13 HH13 => ?_)
    clear HH12
    refine LG_val (HH13.want rfl rfl rfl) rfl rfl HH13 (Y_no (Y_gtr HH13 rfl rfl rfl) (by omega)) (fun aa14 HH14 => ?_)
    clear HH13
    refine LG_val (want0 rfl) rfl rfl HH14 (Y_pickF HH14 rfl rfl rfl) (fun aa15 HH15 => ?_)
    clear HH14
    refine LG_val (want0 rfl) rfl rfl HH15 (Y_mov HH15 rfl rfl) (fun aa16 HH16 => ?_)
    clear HH15
    refine LG_val (HH16.want rfl rfl rfl) rfl rfl HH16 (Y_mov HH16 rfl rfl) (fun aa17 HH17 => ?_)
    clear HH16
    refine LG_val (HH17.want rfl rfl rfl) rfl rfl HH17 (Y_no (Y_lss HH17 rfl rfl rfl) (by omega)) (fun aa18 HH18 => ?_)
    clear HH17
    refine LG_val (want0 rfl) rfl rfl HH18 (Y_pickF HH18 rfl rfl rfl) (fun aa19 HH19 => ?_)
    clear HH18
    refine LG_val (want0 rfl) rfl rfl HH19 (Y_mov HH19 rfl rfl) (fun aa20 HH20 => ?_)
    clear HH19
    refine LG_val (HH20.want rfl rfl rfl) rfl rfl HH20 (Y_mov HH20 rfl rfl) (fun aa21 HH21 => ?_)
    clear HH20
    refine LG_val (HH21.want rfl rfl rfl) rfl rfl HH21 (Y_mov HH21 rfl rfl) (fun aa22 HH22 => ?_)
    clear HH21
    refine LG_val (HH22.want rfl rfl rfl) rfl rfl HH22 (Y_chk HH22 rfl rfl) (fun aa23 HH23 => ?_)
    clear HH22
    refine LG_val (HH23.want rfl rfl rfl) rfl rfl HH23 (Y_fad (off := 0) (r := 0) HH23 rfl (by kernel_rfl) rfl rfl) (fun aa24 HH24 => ?_)
    clear HH23
    refine LG_val (HH24.want rfl rfl rfl) rfl rfl HH24 (Y_fad (off := 0) (r := 0) HH24 rfl (by kernel_rfl) rfl rfl) (fun aa25 HH25 => ?_)
    clear HH24
    refine LG_val (HH25.want rfl rfl rfl) rfl rfl HH25 (Y_load HH25 rfl (by kernel_rfl) rfl (SS7.cell 0)) (fun aa26 HH26 => ?_)
    clear HH25
    refine LG_val (HH26.want rfl rfl rfl) rfl rfl HH26 (Y_no (Y_geq HH26 rfl rfl rfl) (by omega)) (fun aa27 HH27 => ?_)
    clear HH26
    refine LG_val (want0 rfl) rfl rfl HH27 (Y_pickF HH27 rfl rfl rfl) (fun aa28 HH28 => ?_)
    clear HH27
    refine LG_val (want0 rfl) rfl rfl HH28 (Y_mov HH28 rfl rfl) (fun aa29 HH29 => ?_)
    clear HH28
    refine LG_val (HH29.want rfl rfl rfl) rfl rfl HH29 (Y_mov HH29 rfl rfl) (fun aa30 HH30 => ?_)
    clear HH29
    by_cases q6 : st = 0
    ·
      refine LG_val (HH30.want rfl rfl rfl) rfl rfl HH30 (Y_yes (Y_eql HH30 rfl rfl rfl) (q6)) (fun aa31 HH31 => ?_)
      clear HH30
      refine LG_val (HH31.want rfl rfl rfl) rfl rfl HH31 (Y_mov HH31 rfl rfl) (fun aa32 HH32 => ?_)
      clear HH31
      refine LG_val (HH32.want rfl rfl rfl) rfl rfl HH32 (Y_yes (Y_eql HH32 rfl rfl rfl) (by omega)) (fun aa33 HH33 => ?_)
      clear HH32
      refine LG_val (HH33.want rfl rfl rfl) rfl rfl HH33 (Y_to (Y_neqB HH33 rfl (by kernel_rfl) rfl rfl) (rfl)) (fun aa34 HH34 => ?_)
      clear HH33
      refine LG_val (want0 rfl) rfl rfl HH34 (Y_pickF HH34 rfl rfl rfl) (fun aa35 HH35 => ?_)
      clear HH34
      refine LG_val (want0 rfl) rfl rfl HH35 (Y_mov HH35 rfl rfl) (fun aa36 HH36 => ?_)
      clear HH35
      refine LG_val (HH36.want rfl rfl rfl) rfl rfl HH36 (Y_mov HH36 rfl rfl) (fun aa37 HH37 => ?_)
      clear HH36
      refine LG_val (HH37.want rfl rfl rfl) rfl rfl HH37 (Y_lenS HH37 rfl (by kernel_rfl) rfl) (fun aa38 HH38 => ?_)
      clear HH37
      by_cases q7 : 0 < (data.length : Int)
      ·
        refine LG_val (HH38.want rfl rfl rfl) rfl rfl HH38 (Y_yes (Y_gtr HH38 rfl rfl rfl) (q7)) (fun aa39 HH39 => ?_)
        clear HH38
        refine LG_val (HH39.want rfl rfl rfl) rfl rfl HH39 (Y_mov HH39 rfl rfl) (fun aa40 HH40 => ?_)
        clear HH39
        refine LG_val (HH40.want rfl rfl rfl) rfl rfl HH40 (Y_mov HH40 rfl rfl) (fun aa41 HH41 => ?_)
        clear HH40
        refine LG_val (HH41.want rfl rfl rfl) rfl rfl HH41 (Y_lenS HH41 rfl (by kernel_rfl) rfl) (fun aa42 HH42 => ?_)
        clear HH41
        refine LG_val (HH42.want rfl rfl rfl) rfl rfl HH42 (Y_mov HH42 rfl rfl) (fun aa43 HH43 => ?_)
        clear HH42
        refine LG_val (HH43.want rfl rfl rfl) rfl rfl HH43 (Y_chk HH43 rfl rfl) (fun aa44 HH44 => ?_)
        clear HH43
        refine LG_val (HH44.want rfl rfl rfl) rfl rfl HH44 (Y_fad (off := 0) (r := 0) HH44 rfl (by kernel_rfl) rfl rfl) (fun aa45 HH45 => ?_)
        clear HH44
        refine LG_val (HH45.want rfl rfl rfl) rfl rfl HH45 (Y_fad (off := 2) (r := 2) HH45 rfl (by kernel_rfl) rfl rfl) (fun aa46 HH46 => ?_)
        clear HH45
        refine LG_val (HH46.want rfl rfl rfl) rfl rfl HH46 (Y_load HH46 rfl (by kernel_rfl) rfl (SS7.cell 2)) (fun aa47 HH47 => ?_)
        clear HH46
        refine LG_val (HH47.want rfl rfl rfl) rfl rfl HH47 (Y_no (Y_neq HH47 rfl rfl rfl) (by omega)) (fun aa48 HH48 => ?_)
        clear HH47
        refine LG_val (HH48.want rfl rfl rfl) rfl rfl HH48 (Y_pickT HH48 rfl rfl rfl) (fun aa49 HH49 => ?_)
        clear HH48
        refine LG_val (want0 rfl) rfl rfl HH49 (Y_pickF HH49 rfl rfl rfl) (fun aa50 HH50 => ?_)
        clear HH49
        refine L_end (t_norm (hKK9 _ _ ?_))
        refine c_no HH50 rfl ?_
        refine wp_skip (t_norm ?_)
        exact ⟨HH50.sub rfl, HRep.open.2 ⟨_, _, _, _, _, vs, hvs, SS7.p1.p1⟩⟩
      ·
        refine LG_val (HH38.want rfl rfl rfl) rfl rfl HH38 (Y_no (Y_gtr HH38 rfl rfl rfl) (q7)) (fun aa51 HH51 => ?_)
        clear HH38
        refine LG_val (HH51.want rfl rfl rfl) rfl rfl HH51 (Y_mov HH51 rfl rfl) (fun aa52 HH52 => ?_)
        clear HH51
        refine LG_skip (HH52.unwant rfl rfl rfl rfl) rfl rfl HH52 (fun aa53 HH53 => ?_)
        clear HH52
        refine LG_skip (HH53.unwant rfl rfl rfl rfl) rfl rfl HH53 (fun aa54 HH54 => ?_)
        clear HH53
        refine LG_skip (HH54.unwant rfl rfl rfl rfl) rfl rfl HH54 (fun aa55 HH55 => ?_)
        clear HH54
        refine LG_skip (HH55.unwant rfl rfl rfl rfl) rfl rfl HH55 (fun aa56 HH56 => ?_)
        clear HH55
        refine LG_skip (HH56.unwant rfl rfl rfl rfl) rfl rfl HH56 (fun aa57 HH57 => ?_)
        clear HH56
        refine LG_skip (HH57.unwant rfl rfl rfl rfl) rfl rfl HH57 (fun aa58 HH58 => ?_)
        clear HH57
        refine LG_skip (HH58.unwant rfl rfl rfl rfl) rfl rfl HH58 (fun aa59 HH59 => ?_)
        clear HH58
        refine LG_skip (HH59.unwant rfl rfl rfl rfl) rfl rfl HH59 (fun aa60 HH60 => ?_)
        clear HH59
        refine LG_val (HH60.want rfl rfl rfl) rfl rfl HH60 (Y_pickF HH60 rfl rfl rfl) (fun aa61 HH61 => ?_)
        clear HH60
        refine LG_val (want0 rfl) rfl rfl HH61 (Y_pickF HH61 rfl rfl rfl) (fun aa62 HH62 => ?_)
        clear HH61
        refine L_end (t_norm (hKK9 _ _ ?_))
        refine c_no HH62 rfl ?_
        refine wp_skip (t_norm ?_)
        exact ⟨HH62.sub rfl, HRep.open.2 ⟨_, _, _, _, _, vs, hvs, SS7.p1.p1⟩⟩
    ·
      refine LG_val (HH30.want rfl rfl rfl) rfl rfl HH30 (Y_no (Y_eql HH30 rfl rfl rfl) (q6)) (fun aa63 HH63 => ?_)
      clear HH30
      refine LG_val (HH63.want rfl rfl rfl) rfl rfl HH63 (Y_mov HH63 rfl rfl) (fun aa64 HH64 => ?_)
      clear HH63
      refine LG_val (HH64.want rfl rfl rfl) rfl rfl HH64 (Y_no (Y_eql HH64 rfl rfl rfl) (by omega)) (fun aa65 HH65 => ?_)
      clear HH64
      refine LG_val (HH65.want rfl rfl rfl) rfl rfl HH65 (Y_to (Y_neqB HH65 rfl (by kernel_rfl) rfl rfl) (rfl)) (fun aa66 HH66 => ?_)
      clear HH65
      refine LG_val (want0 rfl) rfl rfl HH66 (Y_pickF HH66 rfl rfl rfl) (fun aa67 HH67 => ?_)
      clear HH66
      refine LG_val (want0 rfl) rfl rfl HH67 (Y_mov HH67 rfl rfl) (fun aa68 HH68 => ?_)
      clear HH67
      refine LG_val (HH68.want rfl rfl rfl) rfl rfl HH68 (Y_mov HH68 rfl rfl) (fun aa69 HH69 => ?_)
      clear HH68
      refine LG_val (HH69.want rfl rfl rfl) rfl rfl HH69 (Y_lenS HH69 rfl (by kernel_rfl) rfl) (fun aa70 HH70 => ?_)
      clear HH69
      by_cases q7 : 0 < (data.length : Int)
      ·
        refine LG_val (HH70.want rfl rfl rfl) rfl rfl HH70 (Y_yes (Y_gtr HH70 rfl rfl rfl) (q7)) (fun aa71 HH71 => ?_)
        clear HH70
        refine LG_val (HH71.want rfl rfl rfl) rfl rfl HH71 (Y_mov HH71 rfl rfl) (fun aa72 HH72 => ?_)
        clear HH71
        refine LG_val (HH72.want rfl rfl rfl) rfl rfl HH72 (Y_mov HH72 rfl rfl) (fun aa73 HH73 => ?_)
        clear HH72
        refine LG_val (HH73.want rfl rfl rfl) rfl rfl HH73 (Y_lenS HH73 rfl (by kernel_rfl) rfl) (fun aa74 HH74 => ?_)
        clear HH73
        refine LG_val (HH74.want rfl rfl rfl) rfl rfl HH74 (Y_mov HH74 rfl rfl) (fun aa75 HH75 => ?_)
        clear HH74
        refine LG_val (HH75.want rfl rfl rfl) rfl rfl HH75 (Y_chk HH75 rfl rfl) (fun aa76 HH76 => ?_)
        clear HH75
        refine LG_val (HH76.want rfl rfl rfl) rfl rfl HH76 (Y_fad (off := 0) (r := 0) HH76 rfl (by kernel_rfl) rfl rfl) (fun aa77 HH77 => ?_)
        clear HH76
        refine LG_val (HH77.want rfl rfl rfl) rfl rfl HH77 (Y_fad (off := 2) (r := 2) HH77 rfl (by kernel_rfl) rfl rfl) (fun aa78 HH78 => ?_)
        clear HH77
        refine LG_val (HH78.want rfl rfl rfl) rfl rfl HH78 (Y_load HH78 rfl (by kernel_rfl) rfl (SS7.cell 2)) (fun aa79 HH79 => ?_)
        clear HH78
        refine LG_val (HH79.want rfl rfl rfl) rfl rfl HH79 (Y_no (Y_neq HH79 rfl rfl rfl) (by omega)) (fun aa80 HH80 => ?_)
        clear HH79
        refine LG_val (HH80.want rfl rfl rfl) rfl rfl HH80 (Y_pickT HH80 rfl rfl rfl) (fun aa81 HH81 => ?_)
        clear HH80
        refine LG_val (want0 rfl) rfl rfl HH81 (Y_pickF HH81 rfl rfl rfl) (fun aa82 HH82 => ?_)
        clear HH81
        refine L_end (t_norm (hKK9 _ _ ?_))
        refine c_no HH82 rfl ?_
        refine wp_skip (t_norm ?_)
        exact ⟨HH82.sub rfl, HRep.open.2 ⟨_, _, _, _, _, vs, hvs, SS7.p1.p1⟩⟩
      ·
        refine LG_val (HH70.want rfl rfl rfl) rfl rfl HH70 (Y_no (Y_gtr HH70 rfl rfl rfl) (q7)) (fun aa83 HH83 => ?_)
        clear HH70
        refine LG_val (HH83.want rfl rfl rfl) rfl rfl HH83 (Y_mov HH83 rfl rfl) (fun aa84 HH84 => ?_)
        clear HH83
        refine LG_skip (HH84.unwant rfl rfl rfl rfl) rfl rfl HH84 (fun aa85 HH85 => ?_)
        clear HH84
        refine LG_skip (HH85.unwant rfl rfl rfl rfl) rfl rfl HH85 (fun aa86 HH86 => ?_)
        clear HH85
        refine LG_skip (HH86.unwant rfl rfl rfl rfl) rfl rfl HH86 (fun aa87 HH87 => ?_)
        clear HH86
        refine LG_skip (HH87.unwant rfl rfl rfl rfl) rfl rfl HH87 (fun aa88 HH88 => ?_)
        clear HH87
        refine LG_skip (HH88.unwant rfl rfl rfl rfl) rfl rfl HH88 (fun aa89 HH89 => ?_)
        clear HH88
        refine LG_skip (HH89.unwant rfl rfl rfl rfl) rfl rfl HH89 (fun aa90 HH90 => ?_)
        clear HH89
        refine LG_skip (HH90.unwant rfl rfl rfl rfl) rfl rfl HH90 (fun aa91 HH91 => ?_)
        clear HH90
        refine LG_skip (HH91.unwant rfl rfl rfl rfl) rfl rfl HH91 (fun aa92 HH92 => ?_)
        clear HH91
        refine LG_val (HH92.want rfl rfl rfl) rfl rfl HH92 (Y_pickF HH92 rfl rfl rfl) (fun aa93 HH93 => ?_)
        clear HH92
        refine LG_val (want0 rfl) rfl rfl HH93 (Y_pickF HH93 rfl rfl rfl) (fun aa94 HH94 => ?_)
        clear HH93
        refine L_end (t_norm (hKK9 _ _ ?_))
        refine c_no HH94 rfl ?_
        refine wp_skip (t_norm ?_)
        exact ⟨HH94.sub rfl, HRep.open.2 ⟨_, _, _, _, _, vs, hvs, SS7.p1.p1⟩⟩
  clear HH8
  clear SS7
  rintro aa95 ww95 ⟨HH95, SS95⟩
  refine wp_seq_k fun KK96 hKK96 => ?_
  obtain ⟨pa, pn, pc, ra, rk, vs, hvs, S1⟩ := HRep.open.1 SS95
  clear SS95
  have SS95 := S1
  clear S1
  obtain ⟨v, hv⟩ := rw_at hvs hr
  obtain ⟨va, vc, rfl, _, _⟩ := Rd.val (Ints.rd (Sat.mem SS95.tail.tail (List.mem_append_left _ (rwData_mem _ _ _ _ _ hr hv))))
  obtain ⟨rb, ro, era⟩ := Sl.some SS95.p1 (by omega)
  refine wp_region_lit ?_
  refine LG_val (want0 rfl) rfl rfl HH95 (Y_mov HH95 rfl rfl) (fun aa97 HH97 => ?_)
  clear HH95
  refine LG_val (want0 rfl) rfl rfl HH97 (Y_mov HH97 rfl rfl) (fun aa98 HH98 => ?_)
  clear HH97
  refine LG_val (want0 rfl) rfl rfl HH98 (Y_mov HH98 rfl rfl) (fun aa99 HH99 => ?_)
  clear HH98
  refine LG_val (want0 rfl) rfl rfl HH99 (Y_chk HH99 rfl rfl) (fun aa100 HH100 => ?_)
  clear HH99
  refine LG_val (want0 rfl) rfl rfl HH100 (Y_fad (off := 9) (r := 9) HH100 rfl (by kernel_rfl) rfl rfl) (fun aa101 HH101 => ?_)
  clear HH100
  refine LG_val (want0 rfl) rfl rfl HH101 (Y_load HH101 rfl (by kernel_rfl) rfl (SS95.cell 9)) (fun aa102 HH102 => ?_)
  clear HH101
  refine LG_val (want0 rfl) rfl rfl HH102 (Y_mov HH102 rfl rfl) (fun aa103 HH103 => ?_)
  clear HH102
  refine LG_val (want0 rfl) rfl rfl HH103 (Y_idxE (q := ro + y * 3) HH103 rfl ty_rows rfl era rfl (by omega) (by omega) (by simp)) (fun aa104 HH104 => ?_)
  clear HH103
  refine LG_val (want0 rfl) rfl rfl HH104 (Y_fad (off := 2) (r := ro + y * 3 + 2) HH104 rfl (by kernel_rfl) rfl rfl) (fun aa105 HH105 => ?_)
  clear HH104
  refine LG_val (want0 rfl) rfl rfl HH105 (Y_load HH105 rfl (by kernel_rfl) rfl (Sl.cellE era SS95.p1 _ (y * 3 + 2) (Nat.add_assoc _ _ _) _ (rwCells_get _ _ hvs y r _ hr hv 2 _ rfl))) (fun aa106 HH106 => ?_)
  clear HH105
  refine LG_val (want0 rfl) rfl rfl HH106 (Y_build (cs := [VI st, VI hd, .slice va r.data.length vc]) HH106 rfl st_chapletref07_Row rfl rfl) (fun aa107 HH107 => ?_)
  clear HH106
  refine LG_do (want0 rfl) rfl rfl HH107 (M_alloc HH107 rfl st_chapletref07_Row.zero SS95) ?_
  rintro _ ww108 ⟨b11, rfl, SS108, _⟩ aa108 HH108
  clear HH107
  clear SS95
  refine LG_do0 (want0 rfl) rfl HH108 (M_storeS HH108 rfl rfl rfl SS108 st_chapletref07_Row.size rfl rfl (one_row _ _ _ _ _)) ?_
  rintro _ ww109 ⟨SS109, _⟩ aa109 HH109
  clear HH108
  clear SS108
  refine L_end (t_norm (hKK96 _ _ ?_))
  refine wp_seq_k fun KK110 hKK110 => ?_
  refine wp_seq_k fun KK111 hKK111 => ?_
  refine wp_region_lit ?_
  refine LG_val (want0 rfl) rfl rfl HH109 (Y_mov HH109 rfl rfl) (fun aa112 HH112 => ?_)
  clear HH109
  refine LG_val (want0 rfl) rfl rfl HH112 (Y_lenS HH112 rfl (by kernel_rfl) rfl) (fun aa113 HH113 => ?_)
  clear HH112
  by_cases q9 : 0 < (data.length : Int)
  ·
    refine LG_val (want0 rfl) rfl rfl HH113 (Y_yes (Y_gtr HH113 rfl rfl rfl) (q9)) (fun aa114 HH114 => ?_)
    clear HH113
    refine L_end (t_norm (hKK111 _ _ ?_))
    refine c_yes HH114 rfl ?_
    refine wp_region_lit ?_
    refine LG_val (want0 rfl) rfl rfl HH114 (Y_mov HH114 rfl rfl) (fun aa115 HH115 => ?_)
    clear HH114
    refine LG_do (want0 rfl) rfl rfl HH115 (M_appNil HH115 rfl rfl rfl (hrd _ (Sat.right SS109.p2.p2.p2.tail.tail.tail)) (by have := hc.w1; omega) SS109) ?_
    rintro _ ww116 ⟨a7, c7, rfl, SS116⟩ aa116 HH116
    clear HH115
    clear SS109
    refine LG_val (want0 rfl) rfl rfl HH116 (Y_fad (off := 2) (r := 2) HH116 rfl (by kernel_rfl) rfl rfl) (fun aa117 HH117 => ?_)
    clear HH116
    refine LG_do0 (want0 rfl) rfl HH117 (M_store HH117 rfl (by kernel_rfl) rfl rfl rfl rfl SS116.p1 rfl rfl) ?_
    rintro _ ww118 ⟨SS118, _⟩ aa118 HH118
    clear HH117
    clear SS116
    refine L_end (t_norm (hKK110 _ _ ?_))
    refine wp_seq_k fun KK119 hKK119 => ?_
    -- region 8, drawn
    refine N_begin (fun w' => Sat w' _) (.val 0 (.val 1 (.val 2 (.val 3 (.val 4 (.val 5 (.val 6 (.one 7 .fin)))))))) (by kernel_rfl) (by kernel_rfl) (by kernel_rfl) (by kernel_rfl) (fun _ _ _ _ _ h => h) (SS118.p2.t2.drew) (fun ww120 SN120 hw120 => ?_)
    have SS120 := SS118.drew
    rw [← hw120] at SS120
    clear hw120 SN120
    clear SS118
    refine N_val rfl (want0 rfl) rfl rfl HH118 (fun ww120 SN => Y_mov HH118 rfl rfl) (fun aa121 HH121 => ?_)
    clear HH118
    refine N_val rfl (want0 rfl) rfl rfl HH121 (fun ww120 SN => Y_chk HH121 rfl rfl) (fun aa122 HH122 => ?_)
    clear HH121
    refine N_val rfl (want0 rfl) rfl rfl HH122 (fun ww120 SN => Y_fad (off := 9) (r := 9) HH122 rfl (by kernel_rfl) rfl rfl) (fun aa123 HH123 => ?_)
    clear HH122
    refine N_val rfl (want0 rfl) rfl rfl HH123 (fun ww120 SN => Y_load HH123 rfl (by kernel_rfl) rfl (SN.cell 9)) (fun aa124 HH124 => ?_)
    clear HH123
    refine N_val rfl (want0 rfl) rfl rfl HH124 (fun ww120 SN => Y_mov HH124 rfl rfl) (fun aa125 HH125 => ?_)
    clear HH124
    refine N_val rfl (want0 rfl) rfl rfl HH125 (fun ww120 SN => Y_loadS HH125 rfl rfl SN.p1 st_chapletref07_Row.und st_chapletref07_Row.size) (fun aa126 HH126 => ?_)
    clear HH125
    refine N_val rfl (want0 rfl) rfl rfl HH126 (fun ww120 SN => Y_idxE (q := ro + y * 3) HH126 rfl ty_rows rfl era rfl (by omega) (by omega) (by simp)) (fun aa127 HH127 => ?_)
    clear HH126
    refine N_do0 rfl (want0 rfl) rfl HH127 (M_storeEl (off := ro) HH127 rfl y rfl rfl era SS120.p3 (by kernel_rfl) rfl (by omega) (one_row _ _ _ _ _)) ?_
    rintro _ ww128 SS128
    refine ⟨SS128.p1.p3.t2, fun aa128 HH128 => ?_⟩
    clear HH127
    clear SS120
    refine N_end (t_norm (hKK119 _ _ ?_))
    refine wp_seq_k fun KK129 hKK129 => ?_
    refine wp_region_lit ?_
    refine LG_val (want0 rfl) rfl rfl HH128 (Y_asg HH128 rfl rfl) (fun aa130 HH130 => ?_)
    clear HH128
    refine L_end (t_norm (hKK129 _ _ ?_))
    refine wp_ret (ret1 rfl HH130 rfl ?_)
    refine ⟨rfl, ?_⟩
    rw [if_neg (by omega)]
    exact HRep.set_new (r' := ⟨y, st, hd, data⟩) hvs (List.getElem?_eq_some_iff.1 hr).1 SS128.p3.p3.p3.tail
  ·
    refine LG_val (want0 rfl) rfl rfl HH113 (Y_no (Y_gtr HH113 rfl rfl rfl) (q9)) (fun aa131 HH131 => ?_)
    clear HH113
    refine L_end (t_norm (hKK111 _ _ ?_))
    refine c_no HH131 rfl ?_
    refine wp_skip (t_norm (hKK110 _ _ ?_))
    refine wp_seq_k fun KK132 hKK132 => ?_
    -- region 8, drawn
    refine N_begin (fun w' => Sat w' _) (.val 0 (.val 1 (.val 2 (.val 3 (.val 4 (.val 5 (.val 6 (.one 7 .fin)))))))) (by kernel_rfl) (by kernel_rfl) (by kernel_rfl) (by kernel_rfl) (fun _ _ _ _ _ h => h) (SS109.p1.t2.drew) (fun ww133 SN133 hw133 => ?_)
    have SS133 := SS109.drew
    rw [← hw133] at SS133
    clear hw133 SN133
    clear SS109
    refine N_val rfl (want0 rfl) rfl rfl HH131 (fun ww133 SN => Y_mov HH131 rfl rfl) (fun aa134 HH134 => ?_)
    clear HH131
    refine N_val rfl (want0 rfl) rfl rfl HH134 (fun ww133 SN => Y_chk HH134 rfl rfl) (fun aa135 HH135 => ?_)
    clear HH134
    refine N_val rfl (want0 rfl) rfl rfl HH135 (fun ww133 SN => Y_fad (off := 9) (r := 9) HH135 rfl (by kernel_rfl) rfl rfl) (fun aa136 HH136 => ?_)
    clear HH135
    refine N_val rfl (want0 rfl) rfl rfl HH136 (fun ww133 SN => Y_load HH136 rfl (by kernel_rfl) rfl (SN.cell 9)) (fun aa137 HH137 => ?_)
    clear HH136
    refine N_val rfl (want0 rfl) rfl rfl HH137 (fun ww133 SN => Y_mov HH137 rfl rfl) (fun aa138 HH138 => ?_)
    clear HH137
    refine N_val rfl (want0 rfl) rfl rfl HH138 (fun ww133 SN => Y_loadS HH138 rfl rfl SN.p1 st_chapletref07_Row.und st_chapletref07_Row.size) (fun aa139 HH139 => ?_)
    clear HH138
    refine N_val rfl (want0 rfl) rfl rfl HH139 (fun ww133 SN => Y_idxE (q := ro + y * 3) HH139 rfl ty_rows rfl era rfl (by omega) (by omega) (by simp)) (fun aa140 HH140 => ?_)
    clear HH139
    refine N_do0 rfl (want0 rfl) rfl HH140 (M_storeEl (off := ro) HH140 rfl y rfl rfl era SS133.p2 (by kernel_rfl) rfl (by omega) (one_row _ _ _ _ _)) ?_
    rintro _ ww141 SS141
    refine ⟨SS141.p1.p2.t2, fun aa141 HH141 => ?_⟩
    clear HH140
    clear SS133
    refine N_end (t_norm (hKK132 _ _ ?_))
    refine wp_seq_k fun KK142 hKK142 => ?_
    refine wp_region_lit ?_
    refine LG_val (want0 rfl) rfl rfl HH141 (Y_asg HH141 rfl rfl) (fun aa143 HH143 => ?_)
    clear HH141
    refine L_end (t_norm (hKK142 _ _ ?_))
    refine wp_ret (ret1 rfl HH143 rfl ?_)
    refine ⟨rfl, ?_⟩
    rw [if_pos (by omega)]
    exact HRep.set_same (r' := ⟨y, st, hd, r.data⟩) hvs hr hv rfl SS141.p2.p2.tail

set_option maxRecDepth 100000 in
theorem samerow_ok {w : World} {l : List HProp} (st hd : Int) (a1 a2 : Option Addr) (n1 c1 n2 c2 : Nat) (data : List Int) (hu : ∀ w', Sat w' l → RdI w' (.slice a1 n1 c1) data) (hv : ∀ w', Sat w' l → RdI w' (.slice a2 n2 c2) data) (S : Sat w l) :
    Calls Try.prog 54 #[.agg #[VI st, VI hd, .slice a1 n1 c1], .agg #[VI st, VI hd, .slice a2 n2 c2]] w fun e w' => e = .returned (VB true) ∧ Sat w' l := by
  refine enter (n := 24) Try.func54 rfl [(0, .agg #[VI st, VI hd, .slice a1 n1 c1]), (1, .agg #[VI st, VI hd, .slice a2 n2 c2])] rfl rfl fun aa0 HH0 => ?_
  refine wp_seq_k fun KK1 hKK1 => ?_
  refine wp_region_lit ?_
  refine LG_do (want0 rfl) rfl rfl HH0 (M_box HH0 rfl rfl rfl S) ?_
  rintro _ ww2 ⟨b2, rfl, SS2, _⟩ aa2 HH2
  clear HH0
  clear S
  refine LG_do (want0 rfl) rfl rfl HH2 (M_box HH2 rfl rfl rfl SS2) ?_
  rintro _ ww3 ⟨b3, rfl, SS3, _⟩ aa3 HH3
  clear HH2
  clear SS2
  refine LG_val (want0 rfl) rfl rfl HH3 (Y_asg HH3 rfl rfl) (fun aa4 HH4 => ?_)
  clear HH3
  refine L_end (t_norm (hKK1 _ _ ?_))
  refine wp_seq_k fun KK5 hKK5 => ?_
  refine wp_region_lit ?_
  refine LG_val (want0 rfl) rfl rfl HH4 (Y_fad (off := 0) (r := 0) HH4 rfl (by kernel_rfl) rfl rfl) (fun aa6 HH6 => ?_)
  clear HH4
  refine LG_val (want0 rfl) rfl rfl HH6 (Y_load HH6 rfl (by kernel_rfl) rfl (SS3.p1.cell 0)) (fun aa7 HH7 => ?_)
  clear HH6
  refine LG_val (want0 rfl) rfl rfl HH7 (Y_fad (off := 0) (r := 0) HH7 rfl (by kernel_rfl) rfl rfl) (fun aa8 HH8 => ?_)
  clear HH7
  refine LG_val (want0 rfl) rfl rfl HH8 (Y_load HH8 rfl (by kernel_rfl) rfl (SS3.cell 0)) (fun aa9 HH9 => ?_)
  clear HH8
  refine LG_val (want0 rfl) rfl rfl HH9 (Y_yes (Y_eql HH9 rfl rfl rfl) (rfl)) (fun aa10 HH10 => ?_)
  clear HH9
  refine LG_val (want0 rfl) rfl rfl HH10 (Y_mov HH10 rfl rfl) (fun aa11 HH11 => ?_)
  clear HH10
  refine LG_val (HH11.want rfl rfl rfl) rfl rfl HH11 (Y_fad (off := 1) (r := 1) HH11 rfl (by kernel_rfl) rfl rfl) (fun aa12 HH12 => ?_)
  clear HH11
  refine LG_val (HH12.want rfl rfl rfl) rfl rfl HH12 (Y_load HH12 rfl (by kernel_rfl) rfl (SS3.p1.cell 1)) (fun aa13 HH13 => ?_)
  clear HH12
  refine LG_val (HH13.want rfl rfl rfl) rfl rfl HH13 (Y_fad (off := 1) (r := 1) HH13 rfl (by kernel_rfl) rfl rfl) (fun aa14 HH14 => ?_)
  clear HH13
  refine LG_val (HH14.want rfl rfl rfl) rfl rfl HH14 (Y_load HH14 rfl (by kernel_rfl) rfl (SS3.cell 1)) (fun aa15 HH15 => ?_)
  clear HH14
  refine LG_val (HH15.want rfl rfl rfl) rfl rfl HH15 (Y_yes (Y_eql HH15 rfl rfl rfl) (rfl)) (fun aa16 HH16 => ?_)
  clear HH15
  refine LG_val (want0 rfl) rfl rfl HH16 (Y_pickT HH16 rfl rfl rfl) (fun aa17 HH17 => ?_)
  clear HH16
  refine LG_val (want0 rfl) rfl rfl HH17 (Y_mov HH17 rfl rfl) (fun aa18 HH18 => ?_)
  clear HH17
  refine LG_val (HH18.want rfl rfl rfl) rfl rfl HH18 (Y_fad (off := 2) (r := 2) HH18 rfl (by kernel_rfl) rfl rfl) (fun aa19 HH19 => ?_)
  clear HH18
  refine LG_val (HH19.want rfl rfl rfl) rfl rfl HH19 (Y_load HH19 rfl (by kernel_rfl) rfl (SS3.p1.cell 2)) (fun aa20 HH20 => ?_)
  clear HH19
  refine LG_val (HH20.want rfl rfl rfl) rfl rfl HH20 (Y_fad (off := 2) (r := 2) HH20 rfl (by kernel_rfl) rfl rfl) (fun aa21 HH21 => ?_)
  clear HH20
  refine LG_val (HH21.want rfl rfl rfl) rfl rfl HH21 (Y_load HH21 rfl (by kernel_rfl) rfl (SS3.cell 2)) (fun aa22 HH22 => ?_)
  clear HH21
  refine LG_call (HH22.want rfl rfl rfl) rfl rfl rfl Try.func38 (by kernel_rfl) rfl HH22 (ksame_ok (hu _ SS3.p1.tail.tail) (hv _ SS3.p1.tail.tail)) rfl ?_
  rintro e ww23 ⟨rfl, hk⟩
  have SS23 := hk.sat SS3
  rw [show (data == data) = true from by simp]
  refine ⟨_, rfl, fun aa23 HH23 => ?_⟩
  clear HH22
  clear SS3
  refine LG_val (want0 rfl) rfl rfl HH23 (Y_pickT HH23 rfl rfl rfl) (fun aa24 HH24 => ?_)
  clear HH23
  refine LG_val (want0 rfl) rfl rfl HH24 (Y_asg HH24 rfl rfl) (fun aa25 HH25 => ?_)
  clear HH24
  refine L_end (t_norm (hKK5 _ _ ?_))
  refine wp_ret (ret1 rfl HH25 rfl ?_)
  exact ⟨rfl, SS23.p1.tail.tail⟩
end Go.Proofs.Ytaekiecidbhjhaa
