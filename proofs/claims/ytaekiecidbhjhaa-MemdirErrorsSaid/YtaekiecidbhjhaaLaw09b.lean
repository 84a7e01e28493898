/- MemdirErrors: the walk of the law. Printed by wip/specs/law09b.py. -/
import Derived.Test.YtaekiecidbhjhaaLaw09
import Derived.Test.YtaekiecidbhjhaaKsame
namespace Go.Proofs.Ytaekiecidbhjhaa
open Go.RowKit

set_option maxRecDepth 100000 in
theorem memdirErrors_ok {w : World} (s : Stp) (v1 v2 v3 v4 v5 : Value) (n0 : Int) (hr1 : RdI w v1 s.init) (hb : s.init.length * 8 ≤ 140737488355328) :
    Calls Try.prog 6 #[s.val v1 v2 v3 v4 v5, VI n0] w fun e w' => e = .returned (VB true) ∧ Below w.heap.size w w' := by
  have S := Sat.old w
  have hc := cfgOf_small s
  have hnd0 := hc.n0
  have hnd1 := hc.n1
  have hln0 := hc.l0
  have hln1 := hc.l1
  have hwd0 := hc.w0
  have hwd1 := hc.w1
  refine enter (n := 133) Try.func6 rfl [(0, s.val v1 v2 v3 v4 v5), (1, VI n0)] rfl rfl fun aa0 HH0 => ?_
  refine wp_seq_k fun KK1 hKK1 => ?_
  refine wp_region_lit ?_
  refine LG_do (want0 rfl) rfl rfl HH0 (M_box HH0 rfl rfl rfl S) ?_
  rintro _ ww2 ⟨b2, rfl, SS2, _⟩ aa2 HH2
  clear HH0
  clear S
  refine LG_val (want0 rfl) rfl rfl HH2 (Y_asg HH2 rfl rfl) (fun aa3 HH3 => ?_)
  clear HH2
  refine L_end (t_norm (hKK1 _ _ ?_))
  refine wp_seq_k fun KK4 hKK4 => ?_
  refine wp_region_lit ?_
  refine LG_val (want0 rfl) rfl rfl HH3 (Y_loadS HH3 rfl rfl SS2 st_chapletplay_Setup.und st_chapletplay_Setup.size) (fun aa5 HH5 => ?_)
  clear HH3
  refine LG_call (want0 rfl) rfl rfl rfl Try.func12 (by kernel_rfl) rfl HH5 (config_ok s v1 v2 v3 v4 v5 (fun w' h => RdI.old hr1 h.p1) hb SS2) rfl ?_
  rintro e ww6 ⟨v6, rfl, SS6⟩
  obtain ⟨pa, pc, rfl, _, _⟩ := Ints.val SS6
  refine ⟨_, rfl, fun aa6 HH6 => ?_⟩
  clear HH5
  clear SS2
  refine LG_do (want0 rfl) rfl rfl HH6 (M_alloc HH6 rfl st_api_Config.zero SS6) ?_
  rintro _ ww7 ⟨b5, rfl, SS7, _⟩ aa7 HH7
  clear HH6
  clear SS6
  refine LG_do0 (want0 rfl) rfl HH7 (M_storeS HH7 rfl rfl rfl SS7 st_api_Config.size rfl rfl (one_cfg (cfgOf s) _ _ _)) ?_
  rintro _ ww8 ⟨SS8, _⟩ aa8 HH8
  clear HH7
  clear SS7
  refine L_end (t_norm (hKK4 _ _ ?_))
  refine wp_seq_k fun KK9 hKK9 => ?_
  refine wp_region_lit ?_
  refine LG_val (want0 rfl) rfl rfl HH8 (Y_loadS HH8 rfl rfl SS8 st_api_Config.und st_api_Config.size) (fun aa10 HH10 => ?_)
  clear HH8
  refine LG_call (want0 rfl) rfl rfl rfl Try.func13 (by kernel_rfl) rfl HH10 (dnew_ok (cfgOf s) hc _ 0 (fun w' h => Ints.rd h.p1) SS8.p3.p3.p3.p3) rfl ?_
  rintro e ww11 ⟨d, rfl, SS11⟩
  refine ⟨_, rfl, fun aa11 HH11 => ?_⟩
  clear HH10
  clear SS8
  refine LG_val (want0 rfl) rfl rfl HH11 (Y_asg HH11 rfl rfl) (fun aa12 HH12 => ?_)
  clear HH11
  refine L_end (t_norm (hKK9 _ _ ?_))
  refine wp_seq_k fun KK13 hKK13 => ?_
  refine wp_seq_k fun KK14 hKK14 => ?_
  refine wp_region_lit ?_
  refine LG_val (want0 rfl) rfl rfl HH12 (Y_mov HH12 rfl rfl) (fun aa15 HH15 => ?_)
  clear HH12
  refine LG_val (want0 rfl) rfl rfl HH15 (Y_to (Y_eqlP HH15 rfl (by kernel_rfl) rfl rfl) (rfl)) (fun aa16 HH16 => ?_)
  clear HH15
  refine L_end (t_norm (hKK14 _ _ ?_))
  refine c_no HH16 rfl ?_
  refine wp_skip (t_norm (hKK13 _ _ ?_))
  refine wp_seq_k fun KK17 hKK17 => ?_
  refine wp_region_lit ?_
  refine LG_val (want0 rfl) rfl rfl HH16 (Y_mov HH16 rfl rfl) (fun aa18 HH18 => ?_)
  clear HH16
  refine LG_val (want0 rfl) rfl rfl HH18 (Y_fad (off := 0) (r := 0) HH18 rfl (by kernel_rfl) rfl rfl) (fun aa19 HH19 => ?_)
  clear HH18
  refine LG_val (want0 rfl) rfl rfl HH19 (Y_load HH19 rfl (by kernel_rfl) rfl (SS11.p1.cell 0)) (fun aa20 HH20 => ?_)
  clear HH19
  refine LG_call (want0 rfl) rfl rfl rfl Try.func17 (by kernel_rfl) rfl HH20 (within_ok n0 ((cfgOf s).nodes : Int) (by omega)) rfl ?_
  rintro e ww21 ⟨rfl, rfl⟩
  have hn0 := within_lo n0 ((cfgOf s).nodes : Int)
  have hn1 := within_hi n0 ((cfgOf s).nodes : Int) (by omega)
  obtain ⟨nn, hnn⟩ : ∃ k, within n0 ((cfgOf s).nodes : Int) = k := ⟨_, rfl⟩
  rw [hnn] at hn0 hn1 ⊢
  refine ⟨_, rfl, fun aa21 HH21 => ?_⟩
  clear HH20
  refine LG_val (want0 rfl) rfl rfl HH21 (Y_asg HH21 rfl rfl) (fun aa22 HH22 => ?_)
  clear HH21
  refine L_end (t_norm (hKK17 _ _ ?_))
  refine wp_seq_k fun KK23 hKK23 => ?_
  refine wp_region_lit ?_
  refine LG_val (want0 rfl) rfl rfl HH22 (Y_fad (off := 2) (r := 2) HH22 rfl (by kernel_rfl) rfl rfl) (fun aa24 HH24 => ?_)
  clear HH22
  refine LG_val (want0 rfl) rfl rfl HH24 (Y_load HH24 rfl (by kernel_rfl) rfl (SS11.p1.cell 2)) (fun aa25 HH25 => ?_)
  clear HH24
  refine LG_val (want0 rfl) rfl rfl HH25 (Y_add (r := (((cfgOf s).words + 1 : Nat) : Int)) HH25 rfl rfl rfl (by rw [IntWalk.i64_in _ (by omega)]; omega)) (fun aa26 HH26 => ?_)
  clear HH25
  refine LG_do (want0 rfl) rfl rfl HH26 (M_make (N := (cfgOf s).words + 1) (zv := VI 0) HH26 rfl ty_ints (by kernel_rfl) rfl rfl (by omega) SS11) ?_
  rintro _ ww27 ⟨b7, rfl, SS27⟩ aa27 HH27
  clear HH26
  clear SS11
  refine LG_val (want0 rfl) rfl rfl HH27 (Y_asg HH27 rfl rfl) (fun aa28 HH28 => ?_)
  clear HH27
  refine L_end (t_norm (hKK23 _ _ ?_))
  refine wp_seq_k fun KK29 hKK29 => ?_
  refine wp_seq_k fun KK30 hKK30 => ?_
  obtain ⟨j, hj, hr⟩ := rows0_at (cfgOf s) 0 (cfgOf s).lines 0 (by omega) (Nat.zero_mod _)
  replace SS27 := Sat.zeroInts SS27
  -- region 7, drawn
  refine N_begin (fun w' => Sat w' _) (.val 0 (.val 1 (.val 3 (.val 5 (.val 6 (.val 7 (.val 9 (.val 11 (.val 12 (.val 14 (.val 16 (.val 18 (.val 19 (.val 20 (.val 24 (.one 2 (.one 4 (.one 8 (.one 10 (.one 13 (.one 15 (.one 17 (.one 21 (.one 22 (.val 23 .fin))))))))))))))))))))))))) (by kernel_rfl) (by kernel_rfl) (by kernel_rfl) (by kernel_rfl) (fun _ _ _ _ _ h => h) (SS27.drew) (fun ww31 SS31 _ => ?_)
  clear SS27
  refine N_val rfl (want0 rfl) rfl rfl HH28 (fun ww31 SS31 => Y_mov HH28 rfl rfl) (fun aa32 HH32 => ?_)
  clear HH28
  refine N_val rfl (want0 rfl) rfl rfl HH32 (fun ww31 SS31 => Y_mov HH32 rfl rfl) (fun aa33 HH33 => ?_)
  clear HH32
  refine N_val rfl (want0 rfl) rfl rfl HH33 (fun ww31 SS31 => Y_mov HH33 rfl rfl) (fun aa34 HH34 => ?_)
  clear HH33
  refine N_val rfl (want0 rfl) rfl rfl HH34 (fun ww31 SS31 => Y_mov HH34 rfl rfl) (fun aa35 HH35 => ?_)
  clear HH34
  refine N_val rfl (want0 rfl) rfl rfl HH35 (fun ww31 SS31 => Y_fad (off := 0) (r := 0) HH35 rfl (by kernel_rfl) rfl rfl) (fun aa36 HH36 => ?_)
  clear HH35
  refine N_val rfl (want0 rfl) rfl rfl HH36 (fun ww31 SS31 => Y_load HH36 rfl (by kernel_rfl) rfl (SS31.p2.cell 0)) (fun aa37 HH37 => ?_)
  clear HH36
  refine N_val rfl (want0 rfl) rfl rfl HH37 (fun ww31 SS31 => Y_mov HH37 rfl rfl) (fun aa38 HH38 => ?_)
  clear HH37
  refine N_val rfl (want0 rfl) rfl rfl HH38 (fun ww31 SS31 => Y_mov HH38 rfl rfl) (fun aa39 HH39 => ?_)
  clear HH38
  refine N_val rfl (want0 rfl) rfl rfl HH39 (fun ww31 SS31 => Y_mov HH39 rfl rfl) (fun aa40 HH40 => ?_)
  clear HH39
  refine N_val rfl (want0 rfl) rfl rfl HH40 (fun ww31 SS31 => Y_mov HH40 rfl rfl) (fun aa41 HH41 => ?_)
  clear HH40
  refine N_val rfl (want0 rfl) rfl rfl HH41 (fun ww31 SS31 => Y_mov HH41 rfl rfl) (fun aa42 HH42 => ?_)
  clear HH41
  refine N_val rfl (want0 rfl) rfl rfl HH42 (fun ww31 SS31 => Y_mov HH42 rfl rfl) (fun aa43 HH43 => ?_)
  clear HH42
  refine N_val rfl (want0 rfl) rfl rfl HH43 (fun ww31 SS31 => Y_mov HH43 rfl rfl) (fun aa44 HH44 => ?_)
  clear HH43
  refine N_val rfl (want0 rfl) rfl rfl HH44 (fun ww31 SS31 => Y_mov HH44 rfl rfl) (fun aa45 HH45 => ?_)
  clear HH44
  refine N_val rfl (want0 rfl) rfl rfl HH45 (fun ww31 SS31 => Y_mov HH45 rfl rfl) (fun aa46 HH46 => ?_)
  clear HH45
  refine N_call rfl (want0 rfl) rfl rfl rfl Try.func37 (by kernel_rfl) rfl HH46 (dset_bad SS31.p1 0 (3) (nn) none 0 [] rfl hj hr (.inr (.inl (by omega)))) rfl ?_
  rintro e ww47 ⟨rfl, SS47⟩
  refine ⟨_, rfl, SS47.p5.p5.p5.p5.p4.p5, fun aa47 HH47 => ?_⟩
  clear HH46
  clear SS31
  refine N_call rfl (want0 rfl) rfl rfl rfl Try.func37 (by kernel_rfl) rfl HH47 (dset_bad SS47 0 (-1) (-1) none 0 [] rfl hj hr (.inl (by omega))) rfl ?_
  rintro e ww48 ⟨rfl, SS48⟩
  refine ⟨_, rfl, SS48.p5.p5.p5.p5.p4.p5, fun aa48 HH48 => ?_⟩
  clear HH47
  clear SS47
  refine N_call rfl (want0 rfl) rfl rfl rfl Try.func37 (by kernel_rfl) rfl HH48 (dset_bad SS48 0 (1) (((cfgOf s).nodes : Int)) none 0 [] rfl hj hr (.inr (.inr (.inr (.inl (by omega)))))) rfl ?_
  rintro e ww49 ⟨rfl, SS49⟩
  refine ⟨_, rfl, SS49.p5.p5.p5.p5.p4.p5, fun aa49 HH49 => ?_⟩
  clear HH48
  clear SS48
  refine N_call rfl (want0 rfl) rfl rfl rfl Try.func37 (by kernel_rfl) rfl HH49 (dset_bad SS49 0 (2) (-2) none 0 [] rfl hj hr (.inr (.inr (.inl (by omega))))) rfl ?_
  rintro e ww50 ⟨rfl, SS50⟩
  refine ⟨_, rfl, SS50.p5.p5.p5.p5.p4.p5, fun aa50 HH50 => ?_⟩
  clear HH49
  clear SS49
  refine N_call rfl (want0 rfl) rfl rfl rfl Try.func37 (by kernel_rfl) rfl HH50 (dset_bad SS50 0 (0) (nn) none 0 [] rfl hj hr (.inr (.inr (.inr (.inr (.inr (.inl ⟨by omega, rfl⟩))))))) rfl ?_
  rintro e ww51 ⟨rfl, SS51⟩
  refine ⟨_, rfl, SS51.p5.p5.p5.p5.p4.p5, fun aa51 HH51 => ?_⟩
  clear HH50
  clear SS50
  refine N_call rfl (want0 rfl) rfl rfl rfl Try.func37 (by kernel_rfl) rfl HH51 (dset_bad SS51 0 (1) (-1) none 0 [] rfl hj hr (.inr (.inr (.inr (.inr (.inl ⟨rfl, by decide⟩)))))) rfl ?_
  rintro e ww52 ⟨rfl, SS52⟩
  refine ⟨_, rfl, SS52.p5.p5.p5.p5.p4.p5, fun aa52 HH52 => ?_⟩
  clear HH51
  clear SS51
  refine N_call rfl (want0 rfl) rfl rfl rfl Try.func37 (by kernel_rfl) rfl HH52 (dset_bad SS52 0 (2) (-1) none 0 [] rfl hj hr (.inr (.inr (.inr (.inr (.inl ⟨rfl, by decide⟩)))))) rfl ?_
  rintro e ww53 ⟨rfl, SS53⟩
  refine ⟨_, rfl, SS53.p5.p5.p5.p5.p4.p5, fun aa53 HH53 => ?_⟩
  clear HH52
  clear SS52
  refine N_call rfl (want0 rfl) rfl rfl rfl Try.func37 (by kernel_rfl) rfl HH53 (dset_bad SS53 0 1 nn _ _ (List.replicate ((cfgOf s).words + 1) 0) List.length_replicate hj hr (by rw [List.length_replicate]; omega)) rfl ?_
  rintro e ww54 ⟨rfl, SS54⟩
  refine ⟨_, rfl, SS54.p5.p5.p5.p5.p4.p5, fun aa54 HH54 => ?_⟩
  clear HH53
  clear SS53
  refine N_do rfl (want0 rfl) rfl rfl HH54 (M_buildSlice (cs := List.replicate 8 (VI 1)) HH54 rfl ty_errs rfl rfl rfl (by simp [Value.cells]) rfl SS54) ?_
  rintro _ ww55 ⟨b49, rfl, SS55, _⟩
  refine ⟨SS55.p6.p6.p6.p6.p5.p6.p6.tail, fun aa55 HH55 => ?_⟩
  clear HH54
  clear SS54
  refine N_val rfl (want0 rfl) rfl rfl HH55 (fun ww55 SS55 => Y_lenS HH55 rfl (by kernel_rfl) rfl) (fun aa56 HH56 => ?_)
  clear HH55
  refine N_end (t_norm (hKK30 _ _ ?_))
  refine wp_block ?_
  refine c_loop (σ := Nat) (fun (i : Nat) a wx => Fr a 133 [(1, VI nn), (4, VB false), (5, VPt b5 0), (6, VP d 0), (7, .slice (some ⟨b7, 0, none⟩) ((cfgOf s).words + 1) ((cfgOf s).words + 1)), (49, .slice (some ⟨b49, 0, none⟩) 8 8), (50, VI 8), (51, VI i)] ∧ i ≤ 8 ∧ Sat wx [Sl 44 1 (.slice (some ⟨b49, 0, none⟩) 8 8) 8 (List.replicate 8 (VI 1)), DRep d (cfgOf s) (rows0 (cfgOf s) 0 (cfgOf s).lines), Ints (.slice (some ⟨b7, 0, none⟩) ((cfgOf s).words + 1) ((cfgOf s).words + 1)) (List.replicate ((cfgOf s).words + 1) 0), cel b5 26 ((cfgOf s).cells (.slice pa (cfgOf s).init.length pc)), Old w]) (fun i => 8 - i) (0) ?_ ?_
  · exact ⟨HH56.sub rfl, by omega, SS55.p6.p4.p4.p4.p4.t5⟩
  clear HH56
  clear SS55
  rintro i aa57 ww57 ⟨HH57, hi, SS57⟩
  refine wp_seq_k fun KK58 hKK58 => ?_
  refine wp_region_lit ?_
  by_cases hlt : (i : Int) < 8
  ·
    refine LG_val (want0 rfl) rfl rfl HH57 (Y_yes (Y_lss HH57 rfl rfl rfl) (hlt)) (fun aa59 HH59 => ?_)
    clear HH57
    refine L_end (t_norm (hKK58 _ _ ?_))
    refine wp_seq_k fun KK60 hKK60 => ?_
    refine c_yes HH59 rfl ?_
    refine wp_skip (t_norm (hKK60 _ _ ?_))
    refine wp_seq_k fun KK61 hKK61 => ?_
    refine wp_block ?_
    refine wp_seq_k fun KK62 hKK62 => ?_
    refine wp_region_lit ?_
    refine LG_val (want0 rfl) rfl rfl HH59 (Y_idx (q := 0 + i) HH59 rfl ty_errs rfl rfl (by omega) (by omega) (by simp)) (fun aa63 HH63 => ?_)
    clear HH59
    refine LG_val (want0 rfl) rfl rfl HH63 (Y_load HH63 rfl (by kernel_rfl) rfl (Sl.atE rfl SS57 i (VI 1) (by rw [List.getElem?_replicate, if_pos (by omega)]))) (fun aa64 HH64 => ?_)
    clear HH63
    refine LG_val (want0 rfl) rfl rfl HH64 (Y_asg HH64 rfl rfl) (fun aa65 HH65 => ?_)
    clear HH64
    refine L_end (t_norm (hKK62 _ _ ?_))
    refine wp_seq_k fun KK66 hKK66 => ?_
    refine wp_region_lit ?_
    refine LG_val (want0 rfl) rfl rfl HH65 (Y_mov HH65 rfl rfl) (fun aa67 HH67 => ?_)
    clear HH65
    refine LG_val (want0 rfl) rfl rfl HH67 (Y_no (Y_neq HH67 rfl rfl rfl) (by simp)) (fun aa68 HH68 => ?_)
    clear HH67
    refine L_end (t_norm (hKK66 _ _ ?_))
    refine c_no HH68 rfl ?_
    refine wp_skip (b_norm (t_norm (hKK61 _ _ ?_)))
    refine wp_region_lit ?_
    refine LG_val (want0 rfl) rfl rfl HH68 (Y_add HH68 rfl rfl rfl (IntWalk.i64_in _ (by omega))) (fun aa69 HH69 => ?_)
    clear HH68
    refine LG_val (want0 rfl) rfl rfl HH69 (Y_mov HH69 rfl rfl) (fun aa70 HH70 => ?_)
    clear HH69
    refine L_end (t_norm ?_)
    exact ⟨i + 1, ⟨HH70.sub rfl, by omega, SS57.p4.p4.p4.p4.p4.t5⟩, by first | omega | (dsimp only; omega)⟩
  ·
    refine LG_val (want0 rfl) rfl rfl HH57 (Y_no (Y_lss HH57 rfl rfl rfl) (hlt)) (fun aa71 HH71 => ?_)
    clear HH57
    refine L_end (t_norm (hKK58 _ _ ?_))
    refine wp_seq_k fun KK72 hKK72 => ?_
    refine c_no HH71 rfl ?_
    refine wp_exit (t_exit (t_exit (b_exit (t_norm (hKK29 _ _ ?_)))))
    refine c_cut (fun a wx => Fr a 133 [(1, VI nn), (4, VB false), (5, VPt b5 0), (6, VP d 0), (7, .slice (some ⟨b7, 0, none⟩) ((cfgOf s).words + 1) ((cfgOf s).words + 1))] ∧ Sat wx [DRep d (cfgOf s) (rows0 (cfgOf s) 0 (cfgOf s).lines), Ints (.slice (some ⟨b7, 0, none⟩) ((cfgOf s).words + 1) ((cfgOf s).words + 1)) (List.replicate ((cfgOf s).words + 1) 0), cel b5 26 ((cfgOf s).cells (.slice pa (cfgOf s).init.length pc)), Old w]) ?_ ?_
    ·
      refine wp_seq_k fun KK73 hKK73 => ?_
      refine wp_region_lit ?_
      refine LG_val (want0 rfl) rfl rfl HH71 (Y_mov HH71 rfl rfl) (fun aa74 HH74 => ?_)
      clear HH71
      refine LG_val (want0 rfl) rfl rfl HH74 (Y_mov HH74 rfl rfl) (fun aa75 HH75 => ?_)
      clear HH74
      refine LG_call (want0 rfl) rfl rfl rfl Try.func37 (by kernel_rfl) rfl HH75 (dset_none SS57.p1 (-1) 1 nn VNil (rows0_not _ _ _ _ (fun y h => by omega))) rfl ?_
      rintro e ww76 ⟨rfl, SS76⟩
      refine ⟨_, rfl, fun aa76 HH76 => ?_⟩
      clear HH75
      clear SS57
      refine LG_val (want0 rfl) rfl rfl HH76 (Y_no (Y_neq HH76 rfl rfl rfl) (by simp)) (fun aa77 HH77 => ?_)
      clear HH76
      refine LG_val (want0 rfl) rfl rfl HH77 (Y_mov HH77 rfl rfl) (fun aa78 HH78 => ?_)
      clear HH77
      refine LG_val (HH78.want rfl rfl rfl) rfl rfl HH78 (Y_mov HH78 rfl rfl) (fun aa79 HH79 => ?_)
      clear HH78
      refine LG_val (HH79.want rfl rfl rfl) rfl rfl HH79 (Y_fad (off := 1) (r := 1) HH79 rfl (by kernel_rfl) rfl rfl) (fun aa80 HH80 => ?_)
      clear HH79
      refine LG_val (HH80.want rfl rfl rfl) rfl rfl HH80 (Y_load HH80 rfl (by kernel_rfl) rfl (SS76.p3.cell 1)) (fun aa81 HH81 => ?_)
      clear HH80
      refine LG_val (HH81.want rfl rfl rfl) rfl rfl HH81 (Y_mov HH81 rfl rfl) (fun aa82 HH82 => ?_)
      clear HH81
      refine LG_call (HH82.want rfl rfl rfl) rfl rfl rfl Try.func37 (by kernel_rfl) rfl HH82 (dset_none SS76 ((cfgOf s).lines : Int) 1 nn VNil (rows0_none _ _ _ _ (Int.le_refl _))) rfl ?_
      rintro e ww83 ⟨rfl, SS83⟩
      refine ⟨_, rfl, fun aa83 HH83 => ?_⟩
      clear HH82
      clear SS76
      refine LG_val (HH83.want rfl rfl rfl) rfl rfl HH83 (Y_no (Y_neq HH83 rfl rfl rfl) (by simp)) (fun aa84 HH84 => ?_)
      clear HH83
      refine LG_val (want0 rfl) rfl rfl HH84 (Y_pickF HH84 rfl rfl rfl) (fun aa85 HH85 => ?_)
      clear HH84
      refine LG_val (want0 rfl) rfl rfl HH85 (Y_mov HH85 rfl rfl) (fun aa86 HH86 => ?_)
      clear HH85
      refine LG_val (HH86.want rfl rfl rfl) rfl rfl HH86 (Y_fad (off := 0) (r := 0) HH86 rfl (by kernel_rfl) rfl rfl) (fun aa87 HH87 => ?_)
      clear HH86
      refine LG_val (HH87.want rfl rfl rfl) rfl rfl HH87 (Y_load HH87 rfl (by kernel_rfl) rfl (SS83.p3.cell 0)) (fun aa88 HH88 => ?_)
      clear HH87
      by_cases h1n : 1 < ((cfgOf s).nodes : Int)
      ·
        refine LG_val (HH88.want rfl rfl rfl) rfl rfl HH88 (Y_yes (Y_gtr HH88 rfl rfl rfl) (h1n)) (fun aa89 HH89 => ?_)
        clear HH88
        refine LG_val (HH89.want rfl rfl rfl) rfl rfl HH89 (Y_mov HH89 rfl rfl) (fun aa90 HH90 => ?_)
        clear HH89
        refine LG_val (HH90.want rfl rfl rfl) rfl rfl HH90 (Y_mov HH90 rfl rfl) (fun aa91 HH91 => ?_)
        clear HH90
        refine LG_val (HH91.want rfl rfl rfl) rfl rfl HH91 (Y_mov HH91 rfl rfl) (fun aa92 HH92 => ?_)
        clear HH91
        refine LG_call (HH92.want rfl rfl rfl) rfl rfl rfl Try.func37 (by kernel_rfl) rfl HH92 (dset_none SS83 1 1 nn VNil (rows0_not _ _ _ _ (fun y h h1 h2 => by have e : y = 1 := (by omega); subst e; rw [Nat.mod_eq_of_lt (by omega)] at h2; omega))) rfl ?_
        rintro e ww93 ⟨rfl, SS93⟩
        refine ⟨_, rfl, fun aa93 HH93 => ?_⟩
        clear HH92
        clear SS83
        refine LG_val (HH93.want rfl rfl rfl) rfl rfl HH93 (Y_no (Y_neq HH93 rfl rfl rfl) (by simp)) (fun aa94 HH94 => ?_)
        clear HH93
        refine LG_val (HH94.want rfl rfl rfl) rfl rfl HH94 (Y_pickT HH94 rfl rfl rfl) (fun aa95 HH95 => ?_)
        clear HH94
        refine LG_val (want0 rfl) rfl rfl HH95 (Y_pickF HH95 rfl rfl rfl) (fun aa96 HH96 => ?_)
        clear HH95
        refine L_end (t_norm (hKK73 _ _ ?_))
        refine c_no HH96 rfl ?_
        refine wp_skip (t_norm ?_)
        exact ⟨HH96.sub rfl, SS93.p4.p4.p4.p3.t4⟩
      ·
        refine LG_val (HH88.want rfl rfl rfl) rfl rfl HH88 (Y_no (Y_gtr HH88 rfl rfl rfl) (h1n)) (fun aa97 HH97 => ?_)
        clear HH88
        refine LG_val (HH97.want rfl rfl rfl) rfl rfl HH97 (Y_mov HH97 rfl rfl) (fun aa98 HH98 => ?_)
        clear HH97
        refine LG_skip (HH98.unwant rfl rfl rfl rfl) rfl rfl HH98 (fun aa99 HH99 => ?_)
        clear HH98
        refine LG_skip (HH99.unwant rfl rfl rfl rfl) rfl rfl HH99 (fun aa100 HH100 => ?_)
        clear HH99
        refine LG_skip (HH100.unwant rfl rfl rfl rfl) rfl rfl HH100 (fun aa101 HH101 => ?_)
        clear HH100
        refine LG_skip (HH101.unwant rfl rfl rfl rfl) rfl rfl HH101 (fun aa102 HH102 => ?_)
        clear HH101
        refine LG_val (HH102.want rfl rfl rfl) rfl rfl HH102 (Y_pickF HH102 rfl rfl rfl) (fun aa103 HH103 => ?_)
        clear HH102
        refine LG_val (want0 rfl) rfl rfl HH103 (Y_pickF HH103 rfl rfl rfl) (fun aa104 HH104 => ?_)
        clear HH103
        refine L_end (t_norm (hKK73 _ _ ?_))
        refine c_no HH104 rfl ?_
        refine wp_skip (t_norm ?_)
        exact ⟨HH104.sub rfl, SS83.p4.p4.p4.p3.t4⟩
    clear HH71
    clear SS57
    rintro aa105 ww105 ⟨HH105, SS105⟩
    refine wp_seq_k fun KK106 hKK106 => ?_
    refine wp_region_lit ?_
    refine LG_val (want0 rfl) rfl rfl HH105 (Y_mov HH105 rfl rfl) (fun aa107 HH107 => ?_)
    clear HH105
    refine LG_call (want0 rfl) rfl rfl rfl Try.func15 (by kernel_rfl) rfl HH107 (drow_some SS105 0 hj hr (by show (cwords (cfgOf s) 0).length ≤ 1000; rw [cwords_len]; omega)) rfl ?_
    rintro e ww108 ⟨u2, rfl, SS108⟩
    obtain ⟨a2, c2, rfl, _, _⟩ := Ints.val SS108
    refine ⟨_, rfl, fun aa108 HH108 => ?_⟩
    clear HH107
    clear SS105
    refine LG_val (want0 rfl) rfl rfl HH108 (Y_mov HH108 rfl rfl) (fun aa109 HH109 => ?_)
    clear HH108
    refine LG_val (want0 rfl) rfl rfl HH109 (Y_ext HH109 rfl rfl rfl) (fun aa110 HH110 => ?_)
    clear HH109
    refine LG_val (want0 rfl) rfl rfl HH110 (Y_ext HH110 rfl rfl rfl) (fun aa111 HH111 => ?_)
    clear HH110
    refine LG_do (want0 rfl) rfl rfl HH111 (M_alloc HH111 rfl st_memdir_Row.zero SS108) ?_
    rintro _ ww112 ⟨b10, rfl, SS112, _⟩ aa112 HH112
    clear HH111
    clear SS108
    refine LG_do0 (want0 rfl) rfl HH112 (M_storeS HH112 rfl rfl rfl SS112 st_memdir_Row.size rfl rfl (one_row _ _ _ _ _)) ?_
    rintro _ ww113 ⟨SS113, _⟩ aa113 HH113
    clear HH112
    clear SS112
    refine LG_val (want0 rfl) rfl rfl HH113 (Y_asg HH113 rfl rfl) (fun aa114 HH114 => ?_)
    clear HH113
    refine L_end (t_norm (hKK106 _ _ ?_))
    refine wp_seq_k fun KK115 hKK115 => ?_
    refine wp_seq_k fun KK116 hKK116 => ?_
    refine wp_region_lit ?_
    refine LG_val (want0 rfl) rfl rfl HH114 (Y_mov HH114 rfl rfl) (fun aa117 HH117 => ?_)
    clear HH114
    refine LG_val (want0 rfl) rfl rfl HH117 (Y_not HH117 rfl rfl) (fun aa118 HH118 => ?_)
    clear HH117
    refine LG_val (want0 rfl) rfl rfl HH118 (Y_mov HH118 rfl rfl) (fun aa119 HH119 => ?_)
    clear HH118
    refine LG_val (HH119.want rfl rfl rfl) rfl rfl HH119 (Y_fad (off := 0) (r := 0) HH119 rfl (by kernel_rfl) rfl rfl) (fun aa120 HH120 => ?_)
    clear HH119
    refine LG_val (HH120.want rfl rfl rfl) rfl rfl HH120 (Y_load HH120 rfl (by kernel_rfl) rfl (SS113.cell 0)) (fun aa121 HH121 => ?_)
    clear HH120
    refine LG_val (HH121.want rfl rfl rfl) rfl rfl HH121 (Y_no (Y_neq HH121 rfl rfl rfl) (by simp)) (fun aa122 HH122 => ?_)
    clear HH121
    refine LG_val (want0 rfl) rfl rfl HH122 (Y_pickF HH122 rfl rfl rfl) (fun aa123 HH123 => ?_)
    clear HH122
    refine LG_val (want0 rfl) rfl rfl HH123 (Y_mov HH123 rfl rfl) (fun aa124 HH124 => ?_)
    clear HH123
    refine LG_val (HH124.want rfl rfl rfl) rfl rfl HH124 (Y_fad (off := 1) (r := 1) HH124 rfl (by kernel_rfl) rfl rfl) (fun aa125 HH125 => ?_)
    clear HH124
    refine LG_val (HH125.want rfl rfl rfl) rfl rfl HH125 (Y_load HH125 rfl (by kernel_rfl) rfl (SS113.cell 1)) (fun aa126 HH126 => ?_)
    clear HH125
    refine LG_val (HH126.want rfl rfl rfl) rfl rfl HH126 (Y_no (Y_neq HH126 rfl rfl rfl) (by simp)) (fun aa127 HH127 => ?_)
    clear HH126
    refine LG_val (want0 rfl) rfl rfl HH127 (Y_pickF HH127 rfl rfl rfl) (fun aa128 HH128 => ?_)
    clear HH127
    refine L_end (t_norm (hKK116 _ _ ?_))
    refine c_no HH128 rfl ?_
    refine wp_skip (t_norm (hKK115 _ _ ?_))
    refine wp_seq_k fun KK129 hKK129 => ?_
    refine wp_region_lit ?_
    refine LG_val (want0 rfl) rfl rfl HH128 (Y_fad (off := 2) (r := 2) HH128 rfl (by kernel_rfl) rfl rfl) (fun aa130 HH130 => ?_)
    clear HH128
    refine LG_val (want0 rfl) rfl rfl HH130 (Y_load HH130 rfl (by kernel_rfl) rfl (SS113.cell 2)) (fun aa131 HH131 => ?_)
    clear HH130
    refine LG_val (want0 rfl) rfl rfl HH131 (Y_asg HH131 rfl rfl) (fun aa132 HH132 => ?_)
    clear HH131
    refine L_end (t_norm (hKK129 _ _ ?_))
    refine wp_seq_k fun KK133 hKK133 => ?_
    refine wp_seq_k fun KK134 hKK134 => ?_
    refine wp_region_lit ?_
    refine LG_val (want0 rfl) rfl rfl HH132 (Y_mov HH132 rfl rfl) (fun aa135 HH135 => ?_)
    clear HH132
    refine LG_val (want0 rfl) rfl rfl HH135 (Y_mov HH135 rfl rfl) (fun aa136 HH136 => ?_)
    clear HH135
    refine LG_call (want0 rfl) rfl rfl rfl Try.func37 (by kernel_rfl) rfl HH136 (dset_ok hc SS113.p2 0 2 nn none 0 [] rfl hj hr (fun _ _ => Rd.nil _ _) (by omega) (by omega) (by omega) (by omega) (by omega) (by simp)) rfl ?_
    rintro e ww137 ⟨rfl, SS137⟩
    refine ⟨_, rfl, fun aa137 HH137 => ?_⟩
    clear HH136
    clear SS113
    refine LG_val (want0 rfl) rfl rfl HH137 (Y_no (Y_neq HH137 rfl rfl rfl) (by simp)) (fun aa138 HH138 => ?_)
    clear HH137
    refine L_end (t_norm (hKK134 _ _ ?_))
    refine c_no HH138 rfl ?_
    refine wp_skip (t_norm (hKK133 _ _ ?_))
    refine wp_seq_k fun KK139 hKK139 => ?_
    obtain ⟨j2, hj2, hr2⟩ : ∃ j2, keyAt (rwKeys ((rows0 (cfgOf s) 0 (cfgOf s).lines).set j ⟨0, 2, nn, if ([] : List Int).length = 0 then (cwords (cfgOf s) 0) else []⟩)) 0 = some j2 ∧ ((rows0 (cfgOf s) 0 (cfgOf s).lines).set j ⟨0, 2, nn, if ([] : List Int).length = 0 then (cwords (cfgOf s) 0) else []⟩)[j2]? = some ⟨0, 2, nn, cwords (cfgOf s) 0⟩ := ⟨j, by rw [rwKeys_set (r' := ⟨0, 2, nn, _⟩) hr rfl]; exact hj, by rw [List.getElem?_set]; simp [(List.getElem?_eq_some_iff.1 hr).1]⟩
    refine wp_region_lit ?_
    refine LG_val (want0 rfl) rfl rfl HH138 (Y_mov HH138 rfl rfl) (fun aa140 HH140 => ?_)
    clear HH138
    refine LG_call (want0 rfl) rfl rfl rfl Try.func15 (by kernel_rfl) rfl HH140 (drow_some SS137 0 hj2 hr2 (by show (cwords (cfgOf s) 0).length ≤ 1000; rw [cwords_len]; omega)) rfl ?_
    rintro e ww141 ⟨u3, rfl, SS141⟩
    obtain ⟨a3, c3, rfl, _, _⟩ := Ints.val SS141
    refine ⟨_, rfl, fun aa141 HH141 => ?_⟩
    clear HH140
    clear SS137
    refine LG_val (want0 rfl) rfl rfl HH141 (Y_mov HH141 rfl rfl) (fun aa142 HH142 => ?_)
    clear HH141
    refine LG_val (want0 rfl) rfl rfl HH142 (Y_ext HH142 rfl rfl rfl) (fun aa143 HH143 => ?_)
    clear HH142
    refine LG_val (want0 rfl) rfl rfl HH143 (Y_ext HH143 rfl rfl rfl) (fun aa144 HH144 => ?_)
    clear HH143
    refine LG_do0 (want0 rfl) rfl HH144 (M_storeS HH144 rfl rfl rfl SS141.p2 st_memdir_Row.size rfl rfl (one_row _ _ _ _ _)) ?_
    rintro _ ww145 ⟨SS145, _⟩ aa145 HH145
    clear HH144
    clear SS141
    refine L_end (t_norm (hKK139 _ _ ?_))
    refine wp_seq_k fun KK146 hKK146 => ?_
    refine wp_seq_k fun KK147 hKK147 => ?_
    refine wp_region_lit ?_
    refine LG_val (want0 rfl) rfl rfl HH145 (Y_fad (off := 0) (r := 0) HH145 rfl (by kernel_rfl) rfl rfl) (fun aa148 HH148 => ?_)
    clear HH145
    refine LG_val (want0 rfl) rfl rfl HH148 (Y_load HH148 rfl (by kernel_rfl) rfl (SS145.cell 0)) (fun aa149 HH149 => ?_)
    clear HH148
    refine LG_val (want0 rfl) rfl rfl HH149 (Y_no (Y_neq HH149 rfl rfl rfl) (by simp)) (fun aa150 HH150 => ?_)
    clear HH149
    refine LG_val (want0 rfl) rfl rfl HH150 (Y_mov HH150 rfl rfl) (fun aa151 HH151 => ?_)
    clear HH150
    refine LG_val (HH151.want rfl rfl rfl) rfl rfl HH151 (Y_fad (off := 1) (r := 1) HH151 rfl (by kernel_rfl) rfl rfl) (fun aa152 HH152 => ?_)
    clear HH151
    refine LG_val (HH152.want rfl rfl rfl) rfl rfl HH152 (Y_load HH152 rfl (by kernel_rfl) rfl (SS145.cell 1)) (fun aa153 HH153 => ?_)
    clear HH152
    refine LG_val (HH153.want rfl rfl rfl) rfl rfl HH153 (Y_mov HH153 rfl rfl) (fun aa154 HH154 => ?_)
    clear HH153
    refine LG_val (HH154.want rfl rfl rfl) rfl rfl HH154 (Y_no (Y_neq HH154 rfl rfl rfl) (by simp)) (fun aa155 HH155 => ?_)
    clear HH154
    refine LG_val (want0 rfl) rfl rfl HH155 (Y_pickF HH155 rfl rfl rfl) (fun aa156 HH156 => ?_)
    clear HH155
    refine LG_val (want0 rfl) rfl rfl HH156 (Y_mov HH156 rfl rfl) (fun aa157 HH157 => ?_)
    clear HH156
    refine LG_val (HH157.want rfl rfl rfl) rfl rfl HH157 (Y_fad (off := 2) (r := 2) HH157 rfl (by kernel_rfl) rfl rfl) (fun aa158 HH158 => ?_)
    clear HH157
    refine LG_val (HH158.want rfl rfl rfl) rfl rfl HH158 (Y_load HH158 rfl (by kernel_rfl) rfl (SS145.cell 2)) (fun aa159 HH159 => ?_)
    clear HH158
    refine LG_val (HH159.want rfl rfl rfl) rfl rfl HH159 (Y_mov HH159 rfl rfl) (fun aa160 HH160 => ?_)
    clear HH159
    refine LG_call (HH160.want rfl rfl rfl) rfl rfl rfl Try.func38 (by kernel_rfl) rfl HH160 (ksame_ok (Ints.rd SS145.p1) (Ints.rd SS145.p3)) rfl ?_
    rintro e ww161 ⟨rfl, hk⟩
    have SS161 := hk.sat SS145
    rw [show (cwords (cfgOf s) 0 == cwords (cfgOf s) 0) = true from by simp]
    refine ⟨_, rfl, fun aa161 HH161 => ?_⟩
    clear HH160
    clear SS145
    refine LG_val (HH161.want rfl rfl rfl) rfl rfl HH161 (Y_not HH161 rfl rfl) (fun aa162 HH162 => ?_)
    clear HH161
    refine LG_val (want0 rfl) rfl rfl HH162 (Y_pickF HH162 rfl rfl rfl) (fun aa163 HH163 => ?_)
    clear HH162
    refine L_end (t_norm (hKK147 _ _ ?_))
    refine c_no HH163 rfl ?_
    refine wp_skip (t_norm (hKK146 _ _ ?_))
    refine wp_seq_k fun KK164 hKK164 => ?_
    refine wp_region_lit ?_
    refine LG_val (want0 rfl) rfl rfl HH163 (Y_mov HH163 rfl rfl) (fun aa165 HH165 => ?_)
    clear HH163
    refine LG_val (want0 rfl) rfl rfl HH165 (Y_mov HH165 rfl rfl) (fun aa166 HH166 => ?_)
    clear HH165
    refine LG_val (want0 rfl) rfl rfl HH166 (Y_sliceFrom (lo := 1) HH166 rfl ty_ints rfl rfl (by omega)) (fun aa167 HH167 => ?_)
    clear HH166
    refine LG_call (want0 rfl) rfl rfl rfl Try.func37 (by kernel_rfl) rfl HH167 (dset_ok hc SS161.p4.p3 0 0 (-1) _ _ (List.replicate (cfgOf s).words 0) List.length_replicate hj2 hr2 (fun w' h => by have h1 := RdI.behind (i := 1) (Ints.rd h) List.length_replicate (by omega); rw [List.map_replicate, List.drop_replicate] at h1; unfold RdI; rw [List.length_replicate, List.map_replicate]; exact h1) (by omega) (by omega) (by omega) (by omega) (by omega) (by simp)) rfl ?_
    rintro e ww168 ⟨rfl, SS168⟩
    refine ⟨_, rfl, fun aa168 HH168 => ?_⟩
    clear HH167
    clear SS161
    refine LG_val (want0 rfl) rfl rfl HH168 (Y_yes (Y_eql HH168 rfl rfl rfl) (by simp)) (fun aa169 HH169 => ?_)
    clear HH168
    refine LG_val (want0 rfl) rfl rfl HH169 (Y_mov HH169 rfl rfl) (fun aa170 HH170 => ?_)
    clear HH169
    refine LG_call (HH170.want rfl rfl rfl) rfl rfl rfl Try.func16 (by kernel_rfl) rfl HH170 (wakes09_ok SS168) rfl ?_
    rintro e ww171 ⟨rfl, SS171⟩
    refine ⟨_, rfl, fun aa171 HH171 => ?_⟩
    clear HH170
    clear SS168
    refine LG_val (want0 rfl) rfl rfl HH171 (Y_pickT HH171 rfl rfl rfl) (fun aa172 HH172 => ?_)
    clear HH171
    refine LG_val (want0 rfl) rfl rfl HH172 (Y_asg HH172 rfl rfl) (fun aa173 HH173 => ?_)
    clear HH172
    refine L_end (t_norm (hKK164 _ _ ?_))
    refine wp_ret (ret1 rfl HH173 rfl ?_)
    exact ⟨rfl, SS171.p6.below⟩
end Go.Proofs.Ytaekiecidbhjhaa
