/- MemdirPlays: the walk of the law. Printed by wip/specs/law09c.py. -/
import Derived.Test.YtaekiecidbhjhaaInv9
namespace Go.Proofs.Ytaekiecidbhjhaa
open Go.RowKit

set_option maxRecDepth 100000 in
theorem memdirPlays_ok {w : World} (s : Stp) (v1 v2 v3 v4 v5 : Value) (n0 k : Int) (vx vt vh vd : Value) (xs sts hds data : List Int) (hr1 : RdI w v1 s.init) (hb : s.init.length * 8 ≤ 140737488355328) (hrx : RdI w vx xs) (hrs_ : RdI w vt sts) (hrh : RdI w vh hds) (hrd : RdI w vd data) (hdb : data.length * 8 ≤ 140737488355328) :
    Calls Try.prog 8 #[s.val v1 v2 v3 v4 v5, VI n0, vx, vt, vh, vd, VI k] w fun e w' => e = .returned (VB true) ∧ Below w.heap.size w w' := by
  obtain ⟨a2, c2, rfl, _, _⟩ := hrx.val
  obtain ⟨a3, c3, rfl, _, _⟩ := hrs_.val
  obtain ⟨a4, c4, rfl, _, _⟩ := hrh.val
  obtain ⟨a5, c5, rfl, _, _⟩ := hrd.val
  have S := Sat.old w
  have hc := cfgOf_small s
  have hnd0 := hc.n0
  have hnd1 := hc.n1
  have hln0 := hc.l0
  have hln1 := hc.l1
  have hwd0 := hc.w0
  have hwd1 := hc.w1
  refine enter (n := 237) Try.func8 rfl [(0, s.val v1 v2 v3 v4 v5), (1, VI n0), (2, .slice a2 xs.length c2), (3, .slice a3 sts.length c3), (4, .slice a4 hds.length c4), (5, .slice a5 data.length c5), (6, VI k)] rfl rfl fun aa0 HH0 => ?_
  refine wp_seq_k fun KK1 hKK1 => ?_
  refine wp_region_lit ?_
  refine LG_do (want0 rfl) rfl rfl HH0 (M_box HH0 rfl rfl rfl S) ?_
  rintro _ ww2 ⟨b7, rfl, SS2, _⟩ aa2 HH2
  clear HH0
  clear S
  refine LG_val (want0 rfl) rfl rfl HH2 (Y_asg HH2 rfl rfl) (fun aa3 HH3 => ?_)
  clear HH2
  refine L_end (t_norm (hKK1 _ _ ?_))
  refine wp_seq_k fun KK4 hKK4 => ?_
  refine wp_region_lit ?_
  refine LG_val (want0 rfl) rfl rfl HH3 (Y_loadS HH3 rfl rfl SS2 st_chapletplay_Setup.und st_chapletplay_Setup.size) (fun aa5 HH5 => ?_)
  clear HH3
  refine LG_call (want0 rfl) rfl rfl rfl Try.func12 (by kernel_rfl) rfl HH5 (config_ok s v1 v2 v3 v4 v5 (fun w' h => RdI.old hr1 h.p1) hb SS2) rfl ?_
  rintro e ww6 ⟨v6, rfl, SS6⟩
  obtain ⟨pa, pc, rfl, _, _⟩ := Ints.val SS6
  refine ⟨_, rfl, fun aa6 HH6 => ?_⟩
  clear HH5
  clear SS2
  refine LG_do (want0 rfl) rfl rfl HH6 (M_alloc HH6 rfl st_api_Config.zero SS6) ?_
  rintro _ ww7 ⟨b15, rfl, SS7, _⟩ aa7 HH7
  clear HH6
  clear SS6
  refine LG_do0 (want0 rfl) rfl HH7 (M_storeS HH7 rfl rfl rfl SS7 st_api_Config.size rfl rfl (one_cfg (cfgOf s) _ _ _)) ?_
  rintro _ ww8 ⟨SS8, _⟩ aa8 HH8
  clear HH7
  clear SS7
  refine L_end (t_norm (hKK4 _ _ ?_))
  refine wp_seq_k fun KK9 hKK9 => ?_
  refine wp_region_lit ?_
  refine LG_val (want0 rfl) rfl rfl HH8 (Y_mov HH8 rfl rfl) (fun aa10 HH10 => ?_)
  clear HH8
  refine LG_val (want0 rfl) rfl rfl HH10 (Y_fad (off := 0) (r := 0) HH10 rfl (by kernel_rfl) rfl rfl) (fun aa11 HH11 => ?_)
  clear HH10
  refine LG_val (want0 rfl) rfl rfl HH11 (Y_load HH11 rfl (by kernel_rfl) rfl (SS8.cell 0)) (fun aa12 HH12 => ?_)
  clear HH11
  refine LG_call (want0 rfl) rfl rfl rfl Try.func17 (by kernel_rfl) rfl HH12 (within_ok (n0) (((cfgOf s).nodes : Int)) (by omega)) rfl ?_
  rintro e ww13 ⟨rfl, rfl⟩
  have hn0 := within_lo n0 ((cfgOf s).nodes : Int)
  have hn1 := within_hi n0 ((cfgOf s).nodes : Int) (by omega)
  obtain ⟨nn, hnn⟩ : ∃ k : Nat, within n0 ((cfgOf s).nodes : Int) = (k : Int) := ⟨(within n0 ((cfgOf s).nodes : Int)).toNat, by omega⟩
  rw [hnn] at hn0 hn1 ⊢
  refine ⟨_, rfl, fun aa13 HH13 => ?_⟩
  clear HH12
  refine LG_val (want0 rfl) rfl rfl HH13 (Y_asg HH13 rfl rfl) (fun aa14 HH14 => ?_)
  clear HH13
  refine L_end (t_norm (hKK9 _ _ ?_))
  refine wp_seq_k fun KK15 hKK15 => ?_
  -- region 3, drawn
  refine N_begin (fun w' => Sat w' _) (.val 0 (.val 1 (.val 3 (.val 4 (.one 2 (.one 5 (.val 6 (.val 7 .fin)))))))) (by kernel_rfl) (by kernel_rfl) (by kernel_rfl) (by kernel_rfl) (fun _ _ _ _ _ h => h) (SS8.drew) (fun ww16 SS16 _ => ?_)
  clear SS8
  refine N_val rfl (want0 rfl) rfl rfl HH14 (fun ww16 SS16 => Y_loadS HH14 rfl rfl SS16 st_api_Config.und st_api_Config.size) (fun aa17 HH17 => ?_)
  clear HH14
  refine N_val rfl (want0 rfl) rfl rfl HH17 (fun ww16 SS16 => Y_mov HH17 rfl rfl) (fun aa18 HH18 => ?_)
  clear HH17
  refine N_val rfl (want0 rfl) rfl rfl HH18 (fun ww16 SS16 => Y_loadS HH18 rfl rfl SS16 st_api_Config.und st_api_Config.size) (fun aa19 HH19 => ?_)
  clear HH18
  refine N_val rfl (want0 rfl) rfl rfl HH19 (fun ww16 SS16 => Y_mov HH19 rfl rfl) (fun aa20 HH20 => ?_)
  clear HH19
  refine N_call rfl (want0 rfl) rfl rfl rfl Try.func13 (by kernel_rfl) rfl HH20 (dnew_ok (cfgOf s) hc _ nn (fun w' h => Ints.rd h.p1) SS16.p1.p1) rfl ?_
  rintro e ww21 ⟨d, rfl, SS21⟩
  refine ⟨_, rfl, SS21.p4.p4.p4.p4.p4.tail, fun aa21 HH21 => ?_⟩
  clear HH20
  clear SS16
  refine N_call rfl (want0 rfl) rfl rfl rfl Try.func50 (by kernel_rfl) rfl HH21 (hnew_ok (cfgOf s) hc _ nn (fun w' h => Ints.rd h.p2) SS21.p2.p2.p2) rfl ?_
  rintro e ww22 ⟨h, rfl, SS22⟩
  refine ⟨_, rfl, SS22.p5.p5.p5.p5.p5.p5.tail.tail, fun aa22 HH22 => ?_⟩
  clear HH21
  clear SS21
  refine N_val rfl (want0 rfl) rfl rfl HH22 (fun ww22 SS22 => Y_asg HH22 rfl rfl) (fun aa23 HH23 => ?_)
  clear HH22
  refine N_val rfl (want0 rfl) rfl rfl HH23 (fun ww22 SS22 => Y_asg HH23 rfl rfl) (fun aa24 HH24 => ?_)
  clear HH23
  refine N_end (t_norm (hKK15 _ _ ?_))
  refine wp_seq_k fun KK25 hKK25 => ?_
  refine wp_seq_k fun KK26 hKK26 => ?_
  refine wp_region_lit ?_
  refine LG_val (want0 rfl) rfl rfl HH24 (Y_mov HH24 rfl rfl) (fun aa27 HH27 => ?_)
  clear HH24
  refine LG_val (want0 rfl) rfl rfl HH27 (Y_to (Y_eqlP HH27 rfl (by kernel_rfl) rfl rfl) (rfl)) (fun aa28 HH28 => ?_)
  clear HH27
  refine L_end (t_norm (hKK26 _ _ ?_))
  refine c_no HH28 rfl ?_
  refine wp_skip (t_norm (hKK25 _ _ ?_))
  refine c_cut (fun a wx => ∃ mrs hrs : List Rw, Fr a 237 [(1, VI (nn : Int)), (14, VB false), (15, VPt b15 0), (16, VP d 0), (17, VP h 0)] ∧ Inv (cfgOf s) nn mrs hrs ∧ Sat wx [DRep d (cfgOf s) mrs, HRep h (cfgOf s) nn hrs, cel b15 26 ((cfgOf s).cells (.slice pa (cfgOf s).init.length pc)), Old w]) ?_ ?_
  ·
    refine wp_seq_k fun KK29 hKK29 => ?_
    refine wp_region_lit ?_
    refine LG_val (want0 rfl) rfl rfl HH28 (Y_asg HH28 rfl rfl) (fun aa30 HH30 => ?_)
    clear HH28
    refine L_end (t_norm (hKK29 _ _ ?_))
    refine wp_block ?_
    refine c_loop (σ := Nat) (fun (i : Nat) a wx => ∃ mrs hrs : List Rw, Fr a 237 [(1, VI (nn : Int)), (2, .slice a2 xs.length c2), (3, .slice a3 sts.length c3), (4, .slice a4 hds.length c4), (5, .slice a5 data.length c5), (6, VI k), (14, VB false), (15, VPt b15 0), (16, VP d 0), (17, VP h 0), (18, VI (i : Int))] ∧ i ≤ 14 ∧ Inv (cfgOf s) nn mrs hrs ∧ Sat wx [DRep d (cfgOf s) mrs, HRep h (cfgOf s) nn hrs, cel b15 26 ((cfgOf s).cells (.slice pa (cfgOf s).init.length pc)), Old w]) (fun i => 14 - i) (0) ?_ ?_
    · exact ⟨_, _, HH30.sub rfl, by omega, Inv.init _ _, SS22.p5.p3.p2.p3.t4⟩
    clear HH30
    clear SS22
    rintro i aa31 ww31 ⟨mrs, hrs, HH31, hi14, inv, SS31⟩
    refine wp_seq_k fun KK32 hKK32 => ?_
    refine wp_seq_k fun KK33 hKK33 => ?_
    refine wp_region_lit ?_
    refine LG_val (want0 rfl) rfl rfl HH31 (Y_mov HH31 rfl rfl) (fun aa34 HH34 => ?_)
    clear HH31
    refine LG_val (want0 rfl) rfl rfl HH34 (Y_mov HH34 rfl rfl) (fun aa35 HH35 => ?_)
    clear HH34
    refine LG_val (want0 rfl) rfl rfl HH35 (Y_lenS HH35 rfl (by kernel_rfl) rfl) (fun aa36 HH36 => ?_)
    clear HH35
    by_cases hx1 : (i : Int) < (xs.length : Int)
    ·
      refine LG_val (want0 rfl) rfl rfl HH36 (Y_yes (Y_lss HH36 rfl rfl rfl) (hx1)) (fun aa37 HH37 => ?_)
      clear HH36
      refine LG_val (want0 rfl) rfl rfl HH37 (Y_mov HH37 rfl rfl) (fun aa38 HH38 => ?_)
      clear HH37
      refine LG_val (HH38.want rfl rfl rfl) rfl rfl HH38 (Y_mov HH38 rfl rfl) (fun aa39 HH39 => ?_)
      clear HH38
      refine LG_val (HH39.want rfl rfl rfl) rfl rfl HH39 (Y_mov HH39 rfl rfl) (fun aa40 HH40 => ?_)
      clear HH39
      refine LG_val (HH40.want rfl rfl rfl) rfl rfl HH40 (Y_lenS HH40 rfl (by kernel_rfl) rfl) (fun aa41 HH41 => ?_)
      clear HH40
      by_cases hx2 : (i : Int) < (sts.length : Int)
      ·
        refine LG_val (HH41.want rfl rfl rfl) rfl rfl HH41 (Y_yes (Y_lss HH41 rfl rfl rfl) (hx2)) (fun aa42 HH42 => ?_)
        clear HH41
        refine LG_val (want0 rfl) rfl rfl HH42 (Y_pickT HH42 rfl rfl rfl) (fun aa43 HH43 => ?_)
        clear HH42
        refine LG_val (want0 rfl) rfl rfl HH43 (Y_mov HH43 rfl rfl) (fun aa44 HH44 => ?_)
        clear HH43
        refine LG_val (HH44.want rfl rfl rfl) rfl rfl HH44 (Y_mov HH44 rfl rfl) (fun aa45 HH45 => ?_)
        clear HH44
        refine LG_val (HH45.want rfl rfl rfl) rfl rfl HH45 (Y_mov HH45 rfl rfl) (fun aa46 HH46 => ?_)
        clear HH45
        refine LG_val (HH46.want rfl rfl rfl) rfl rfl HH46 (Y_lenS HH46 rfl (by kernel_rfl) rfl) (fun aa47 HH47 => ?_)
        clear HH46
        by_cases hx3 : (i : Int) < (hds.length : Int)
        ·
          refine LG_val (HH47.want rfl rfl rfl) rfl rfl HH47 (Y_yes (Y_lss HH47 rfl rfl rfl) (hx3)) (fun aa48 HH48 => ?_)
          clear HH47
          refine LG_val (want0 rfl) rfl rfl HH48 (Y_pickT HH48 rfl rfl rfl) (fun aa49 HH49 => ?_)
          clear HH48
          refine LG_val (want0 rfl) rfl rfl HH49 (Y_mov HH49 rfl rfl) (fun aa50 HH50 => ?_)
          clear HH49
          refine LG_val (HH50.want rfl rfl rfl) rfl rfl HH50 (Y_mov HH50 rfl rfl) (fun aa51 HH51 => ?_)
          clear HH50
          by_cases hx4 : (i : Int) < 14
          ·
            refine LG_val (HH51.want rfl rfl rfl) rfl rfl HH51 (Y_yes (Y_lss HH51 rfl rfl rfl) (hx4)) (fun aa52 HH52 => ?_)
            clear HH51
            refine LG_val (want0 rfl) rfl rfl HH52 (Y_pickT HH52 rfl rfl rfl) (fun aa53 HH53 => ?_)
            clear HH52
            refine L_end (t_norm (hKK33 _ _ ?_))
            refine c_yes HH53 rfl ?_
            refine wp_skip (t_norm (hKK32 _ _ ?_))
            refine wp_seq_k fun KK54 hKK54 => ?_
            refine wp_block ?_
            refine wp_seq_k fun KK55 hKK55 => ?_
            -- region 9, drawn
            obtain ⟨bx, ox, ex, _⟩ := RdI.some (RdI.old hrx SS31.p3) (by omega)
            obtain ⟨bs, os, es, _⟩ := RdI.some (RdI.old hrs_ SS31.p3) (by omega)
            obtain ⟨bh, oh, eh, _⟩ := RdI.some (RdI.old hrh SS31.p3) (by omega)
            refine N_begin (fun w' => Sat w' _) (.val 0 (.val 1 (.val 2 (.val 3 (.val 4 (.val 5 (.val 6 (.val 8 (.val 9 (.val 10 (.val 11 (.val 13 (.val 14 (.val 15 (.val 16 (.val 17 (.val 18 (.val 19 (.one 7 (.one 12 (.one 20 (.val 21 (.val 22 (.val 23 (.val 24 .fin))))))))))))))))))))))))) (by kernel_rfl) (by kernel_rfl) (by kernel_rfl) (by kernel_rfl) (fun _ _ _ _ _ h => h) (SS31.p3.p3.t2.drew) (fun ww56 SN56 hw56 => ?_)
            have SS56 := SS31.drew
            rw [← hw56] at SS56
            clear hw56 SN56
            clear SS31
            refine N_val rfl (want0 rfl) rfl rfl HH53 (fun ww56 SN => Y_mov HH53 rfl rfl) (fun aa57 HH57 => ?_)
            clear HH53
            refine N_val rfl (want0 rfl) rfl rfl HH57 (fun ww56 SN => Y_mov HH57 rfl rfl) (fun aa58 HH58 => ?_)
            clear HH57
            refine N_val rfl (want0 rfl) rfl rfl HH58 (fun ww56 SN => Y_idxE (q := ox + i) HH58 rfl ty_ints rfl ex rfl (by omega) (by omega) (by simp)) (fun aa59 HH59 => ?_)
            clear HH58
            refine N_val rfl (want0 rfl) rfl rfl HH59 (fun ww56 SN => Y_load HH59 rfl (by kernel_rfl) rfl (RdI.atE (RdI.old hrx SN.p1) ex i (by omega))) (fun aa60 HH60 => ?_)
            clear HH59
            refine N_val rfl (want0 rfl) rfl rfl HH60 (fun ww56 SN => Y_fad (off := 1) (r := 1) HH60 rfl (by kernel_rfl) rfl rfl) (fun aa61 HH61 => ?_)
            clear HH60
            refine N_val rfl (want0 rfl) rfl rfl HH61 (fun ww56 SN => Y_load HH61 rfl (by kernel_rfl) rfl (SN.cell 1)) (fun aa62 HH62 => ?_)
            clear HH61
            refine N_val rfl (want0 rfl) rfl rfl HH62 (fun ww56 SN => Y_add (r := (((cfgOf s).lines + 1 : Nat) : Int)) HH62 rfl rfl rfl (by rw [IntWalk.i64_in _ (by omega)]; omega)) (fun aa63 HH63 => ?_)
            clear HH62
            refine N_val rfl (want0 rfl) rfl rfl HH63 (fun ww56 SN => Y_mov HH63 rfl rfl) (fun aa64 HH64 => ?_)
            clear HH63
            refine N_val rfl (want0 rfl) rfl rfl HH64 (fun ww56 SN => Y_mov HH64 rfl rfl) (fun aa65 HH65 => ?_)
            clear HH64
            refine N_val rfl (want0 rfl) rfl rfl HH65 (fun ww56 SN => Y_idxE (q := os + i) HH65 rfl ty_ints rfl es rfl (by omega) (by omega) (by simp)) (fun aa66 HH66 => ?_)
            clear HH65
            refine N_val rfl (want0 rfl) rfl rfl HH66 (fun ww56 SN => Y_load HH66 rfl (by kernel_rfl) rfl (RdI.atE (RdI.old hrs_ SN.p1) es i (by omega))) (fun aa67 HH67 => ?_)
            clear HH66
            refine N_val rfl (want0 rfl) rfl rfl HH67 (fun ww56 SN => Y_mov HH67 rfl rfl) (fun aa68 HH68 => ?_)
            clear HH67
            refine N_val rfl (want0 rfl) rfl rfl HH68 (fun ww56 SN => Y_mov HH68 rfl rfl) (fun aa69 HH69 => ?_)
            clear HH68
            refine N_val rfl (want0 rfl) rfl rfl HH69 (fun ww56 SN => Y_idxE (q := oh + i) HH69 rfl ty_ints rfl eh rfl (by omega) (by omega) (by simp)) (fun aa70 HH70 => ?_)
            clear HH69
            refine N_val rfl (want0 rfl) rfl rfl HH70 (fun ww56 SN => Y_load HH70 rfl (by kernel_rfl) rfl (RdI.atE (RdI.old hrh SN.p1) eh i (by omega))) (fun aa71 HH71 => ?_)
            clear HH70
            refine N_val rfl (want0 rfl) rfl rfl HH71 (fun ww56 SN => Y_fad (off := 0) (r := 0) HH71 rfl (by kernel_rfl) rfl rfl) (fun aa72 HH72 => ?_)
            clear HH71
            refine N_val rfl (want0 rfl) rfl rfl HH72 (fun ww56 SN => Y_load HH72 rfl (by kernel_rfl) rfl (SN.cell 0)) (fun aa73 HH73 => ?_)
            clear HH72
            refine N_val rfl (want0 rfl) rfl rfl HH73 (fun ww56 SN => Y_add (r := (((cfgOf s).nodes + 2 : Nat) : Int)) HH73 rfl rfl rfl (by rw [IntWalk.i64_in _ (by omega)]; omega)) (fun aa74 HH74 => ?_)
            clear HH73
            refine N_call rfl (want0 rfl) rfl rfl rfl Try.func17 (by kernel_rfl) rfl HH74 (within_ok (xs.getD i 0) ((((cfgOf s).lines + 1 : Nat) : Int)) (by omega)) rfl ?_
            rintro e ww75 ⟨rfl, rfl⟩
            refine ⟨_, rfl, SS56.p3.p3.t2, fun aa75 HH75 => ?_⟩
            clear HH74
            refine N_call rfl (want0 rfl) rfl rfl rfl Try.func17 (by kernel_rfl) rfl HH75 (within_ok (sts.getD i 0) (4) (by omega)) rfl ?_
            rintro e ww76 ⟨rfl, rfl⟩
            refine ⟨_, rfl, SS56.p3.p3.t2, fun aa76 HH76 => ?_⟩
            clear HH75
            refine N_call rfl (want0 rfl) rfl rfl rfl Try.func17 (by kernel_rfl) rfl HH76 (within_ok (hds.getD i 0) ((((cfgOf s).nodes + 2 : Nat) : Int)) (by omega)) rfl ?_
            rintro e ww77 ⟨rfl, rfl⟩
            have hh0 := within_lo (hds.getD i 0) (((cfgOf s).nodes + 2 : Nat) : Int)
            have hh1 := within_hi (hds.getD i 0) (((cfgOf s).nodes + 2 : Nat) : Int) (by omega)
            obtain ⟨hd0, hhd0⟩ : ∃ q, within (hds.getD i 0) (((cfgOf s).nodes + 2 : Nat) : Int) = q := ⟨_, rfl⟩
            rw [hhd0] at hh0 hh1 ⊢
            refine ⟨_, rfl, SS56.p3.p3.t2, fun aa77 HH77 => ?_⟩
            clear HH76
            refine N_val rfl (want0 rfl) rfl rfl HH77 (fun ww56 SN => Y_sub HH77 rfl rfl rfl (IntWalk.i64_in _ (by omega))) (fun aa78 HH78 => ?_)
            clear HH77
            refine N_val rfl (want0 rfl) rfl rfl HH78 (fun ww56 SN => Y_asg HH78 rfl rfl) (fun aa79 HH79 => ?_)
            clear HH78
            refine N_val rfl (want0 rfl) rfl rfl HH79 (fun ww56 SN => Y_asg HH79 rfl rfl) (fun aa80 HH80 => ?_)
            clear HH79
            refine N_val rfl (want0 rfl) rfl rfl HH80 (fun ww56 SN => Y_asg HH80 rfl rfl) (fun aa81 HH81 => ?_)
            clear HH80
            refine N_end (t_norm (hKK55 _ _ ?_))
            refine c_cut (fun a wx => ∃ x st hd : Int, Fr a 237 [(1, VI (nn : Int)), (2, .slice a2 xs.length c2), (3, .slice a3 sts.length c3), (4, .slice a4 hds.length c4), (5, .slice a5 data.length c5), (6, VI k), (14, VB false), (15, VPt b15 0), (16, VP d 0), (17, VP h 0), (18, VI (i : Int)), (19, VI x), (20, VI st), (21, VI hd)] ∧ Sat wx [DRep d (cfgOf s) mrs, HRep h (cfgOf s) nn hrs, cel b15 26 ((cfgOf s).cells (.slice pa (cfgOf s).init.length pc)), Old w]) ?_ ?_
            ·
              refine wp_seq_k fun KK82 hKK82 => ?_
              refine wp_region_lit ?_
              refine LG_val (want0 rfl) rfl rfl HH81 (Y_mov HH81 rfl rfl) (fun aa83 HH83 => ?_)
              clear HH81
              refine LG_val (want0 rfl) rfl rfl HH83 (Y_rem (r := k.tmod 7) HH83 rfl rfl rfl (by omega) (rfl)) (fun aa84 HH84 => ?_)
              clear HH83
              by_cases h76 : k.tmod 7 = 6
              ·
                refine LG_val (want0 rfl) rfl rfl HH84 (Y_yes (Y_eql HH84 rfl rfl rfl) (h76)) (fun aa85 HH85 => ?_)
                clear HH84
                refine L_end (t_norm (hKK82 _ _ ?_))
                refine c_yes HH85 rfl ?_
                -- region 11, drawn
                refine N_begin (fun w' => Sat w' _) (.val 0 (.val 1 (.val 2 (.val 3 (.val 4 (.val 5 (.val 6 (.val 7 (.val 8 (.val 9 (.val 10 (.val 11 (.val 12 (.val 13 (.val 14 .fin))))))))))))))) (by kernel_rfl) (by kernel_rfl) (by kernel_rfl) (by kernel_rfl) (fun _ _ _ _ _ h => h) (SS56.p3.p3.t2.drew) (fun ww86 SN86 hw86 => ?_)
                have SS86 := SS56.drew
                rw [← hw86] at SS86
                clear hw86 SN86
                clear SS56
                refine N_val rfl (want0 rfl) rfl rfl HH85 (fun ww86 SN => Y_mov HH85 rfl rfl) (fun aa87 HH87 => ?_)
                clear HH85
                refine N_val rfl (want0 rfl) rfl rfl HH87 (fun ww86 SN => Y_mov HH87 rfl rfl) (fun aa88 HH88 => ?_)
                clear HH87
                refine N_val rfl (want0 rfl) rfl rfl HH88 (fun ww86 SN => Y_idxE (q := ox + i) HH88 rfl ty_ints rfl ex rfl (by omega) (by omega) (by simp)) (fun aa89 HH89 => ?_)
                clear HH88
                refine N_val rfl (want0 rfl) rfl rfl HH89 (fun ww86 SN => Y_load HH89 rfl (by kernel_rfl) rfl (RdI.atE (RdI.old hrx SN.p1) ex i (by omega))) (fun aa90 HH90 => ?_)
                clear HH89
                refine N_val rfl (want0 rfl) rfl rfl HH90 (fun ww86 SN => Y_mov HH90 rfl rfl) (fun aa91 HH91 => ?_)
                clear HH90
                refine N_val rfl (want0 rfl) rfl rfl HH91 (fun ww86 SN => Y_mov HH91 rfl rfl) (fun aa92 HH92 => ?_)
                clear HH91
                refine N_val rfl (want0 rfl) rfl rfl HH92 (fun ww86 SN => Y_idxE (q := os + i) HH92 rfl ty_ints rfl es rfl (by omega) (by omega) (by simp)) (fun aa93 HH93 => ?_)
                clear HH92
                refine N_val rfl (want0 rfl) rfl rfl HH93 (fun ww86 SN => Y_load HH93 rfl (by kernel_rfl) rfl (RdI.atE (RdI.old hrs_ SN.p1) es i (by omega))) (fun aa94 HH94 => ?_)
                clear HH93
                refine N_val rfl (want0 rfl) rfl rfl HH94 (fun ww86 SN => Y_mov HH94 rfl rfl) (fun aa95 HH95 => ?_)
                clear HH94
                refine N_val rfl (want0 rfl) rfl rfl HH95 (fun ww86 SN => Y_mov HH95 rfl rfl) (fun aa96 HH96 => ?_)
                clear HH95
                refine N_val rfl (want0 rfl) rfl rfl HH96 (fun ww86 SN => Y_idxE (q := oh + i) HH96 rfl ty_ints rfl eh rfl (by omega) (by omega) (by simp)) (fun aa97 HH97 => ?_)
                clear HH96
                refine N_val rfl (want0 rfl) rfl rfl HH97 (fun ww86 SN => Y_load HH97 rfl (by kernel_rfl) rfl (RdI.atE (RdI.old hrh SN.p1) eh i (by omega))) (fun aa98 HH98 => ?_)
                clear HH97
                refine N_val rfl (want0 rfl) rfl rfl HH98 (fun ww86 SN => Y_asg HH98 rfl rfl) (fun aa99 HH99 => ?_)
                clear HH98
                refine N_val rfl (want0 rfl) rfl rfl HH99 (fun ww86 SN => Y_asg HH99 rfl rfl) (fun aa100 HH100 => ?_)
                clear HH99
                refine N_val rfl (want0 rfl) rfl rfl HH100 (fun ww86 SN => Y_asg HH100 rfl rfl) (fun aa101 HH101 => ?_)
                clear HH100
                refine N_end (t_norm ?_)
                exact ⟨_, _, _, HH101.sub rfl, SS86.p3.p3.p3.p3.t4⟩
              ·
                refine LG_val (want0 rfl) rfl rfl HH84 (Y_no (Y_eql HH84 rfl rfl rfl) (h76)) (fun aa102 HH102 => ?_)
                clear HH84
                refine L_end (t_norm (hKK82 _ _ ?_))
                refine c_no HH102 rfl ?_
                refine wp_skip (t_norm ?_)
                exact ⟨_, _, _, HH102.sub rfl, SS56.p3.p3.p3.p3.t4⟩
            clear HH81
            clear SS56
            rintro aa103 ww103 ⟨x, st, hd, HH103, SS103⟩
            refine wp_seq_k fun KK104 hKK104 => ?_
            -- region 12, drawn
            refine N_begin (fun w' => Sat w' _) (.val 0 (.val 1 (.val 2 (.val 3 (.val 5 (.val 6 (.one 4 (.val 7 (.one 8 (.val 9 .fin)))))))))) (by kernel_rfl) (by kernel_rfl) (by kernel_rfl) (by kernel_rfl) (fun _ _ _ _ _ h => h) (SS103.drew) (fun ww105 SS105 _ => ?_)
            clear SS103
            refine N_val rfl (want0 rfl) rfl rfl HH103 (fun ww105 SS105 => Y_mov HH103 rfl rfl) (fun aa106 HH106 => ?_)
            clear HH103
            refine N_val rfl (want0 rfl) rfl rfl HH106 (fun ww105 SS105 => Y_mov HH106 rfl rfl) (fun aa107 HH107 => ?_)
            clear HH106
            refine N_val rfl (want0 rfl) rfl rfl HH107 (fun ww105 SS105 => Y_mov HH107 rfl rfl) (fun aa108 HH108 => ?_)
            clear HH107
            refine N_val rfl (want0 rfl) rfl rfl HH108 (fun ww105 SS105 => Y_add HH108 rfl rfl rfl (rfl)) (fun aa109 HH109 => ?_)
            clear HH108
            refine N_val rfl (want0 rfl) rfl rfl HH109 (fun ww105 SS105 => Y_fad (off := 2) (r := 2) HH109 rfl (by kernel_rfl) rfl rfl) (fun aa110 HH110 => ?_)
            clear HH109
            refine N_val rfl (want0 rfl) rfl rfl HH110 (fun ww105 SS105 => Y_load HH110 rfl (by kernel_rfl) rfl (SS105.p2.cell 2)) (fun aa111 HH111 => ?_)
            clear HH110
            refine N_call rfl (want0 rfl) rfl rfl rfl Try.func17 (by kernel_rfl) rfl HH111 (within_ok (IntKind.i64.wrap ((i : Int) + k)) (2) (by omega)) rfl ?_
            rintro e ww112 ⟨rfl, rfl⟩
            have hq0 := within_lo (IntKind.i64.wrap ((i : Int) + k)) 2
            have hq1 := within_hi (IntKind.i64.wrap ((i : Int) + k)) 2 (by omega)
            obtain ⟨q, hq⟩ : ∃ q : Nat, within (IntKind.i64.wrap ((i : Int) + k)) 2 = (q : Int) := ⟨(within (IntKind.i64.wrap ((i : Int) + k)) 2).toNat, by omega⟩
            rw [hq] at hq0 hq1 ⊢
            refine ⟨_, rfl, SS105.p3.p3.p3.p3, fun aa112 HH112 => ?_⟩
            clear HH111
            refine N_val rfl (want0 rfl) rfl rfl HH112 (fun ww105 SS105 => Y_mul (r := ((q * (cfgOf s).words : Nat) : Int)) HH112 rfl rfl rfl (mul_wrap _ _ (Nat.le_trans (Nat.mul_le_mul (show q ≤ 1 by omega) hwd1) (by decide)))) (fun aa113 HH113 => ?_)
            clear HH112
            refine N_call rfl (want0 rfl) rfl rfl rfl Try.func51 (by kernel_rfl) rfl HH113 (cut_ok (RdI.old hrd SS105.p3) (q * (cfgOf s).words) hdb SS105) rfl ?_
            rintro e ww114 ⟨v22, rfl, SS114⟩
            obtain ⟨a22, c22, rfl, _, _⟩ := Ints.val SS114
            refine ⟨_, rfl, SS114.p4.p4.p4.p4.p4.tail, fun aa114 HH114 => ?_⟩
            clear HH113
            clear SS105
            refine N_val rfl (want0 rfl) rfl rfl HH114 (fun ww114 SS114 => Y_asg HH114 rfl rfl) (fun aa115 HH115 => ?_)
            clear HH114
            refine N_end (t_norm (hKK104 _ _ ?_))
            refine c_cut (fun a wx => ∃ (a22 : Option Addr) (c22 : Nat) (dd : List Int), Fr a 237 [(1, VI (nn : Int)), (2, .slice a2 xs.length c2), (3, .slice a3 sts.length c3), (4, .slice a4 hds.length c4), (5, .slice a5 data.length c5), (6, VI k), (14, VB false), (15, VPt b15 0), (16, VP d 0), (17, VP h 0), (18, VI (i : Int)), (19, VI x), (20, VI st), (21, VI hd), (22, .slice a22 dd.length c22)] ∧ dd.length ≤ data.length ∧ Sat wx [Ints (.slice a22 dd.length c22) dd, DRep d (cfgOf s) mrs, HRep h (cfgOf s) nn hrs, cel b15 26 ((cfgOf s).cells (.slice pa (cfgOf s).init.length pc)), Old w]) ?_ ?_
            ·
              refine wp_seq_k fun KK116 hKK116 => ?_
              refine wp_region_lit ?_
              refine LG_val (want0 rfl) rfl rfl HH115 (Y_mov HH115 rfl rfl) (fun aa117 HH117 => ?_)
              clear HH115
              refine LG_val (want0 rfl) rfl rfl HH117 (Y_rem (r := k.tmod 5) HH117 rfl rfl rfl (by omega) (rfl)) (fun aa118 HH118 => ?_)
              clear HH117
              by_cases h54 : k.tmod 5 = 4
              ·
                refine LG_val (want0 rfl) rfl rfl HH118 (Y_yes (Y_eql HH118 rfl rfl rfl) (h54)) (fun aa119 HH119 => ?_)
                clear HH118
                refine L_end (t_norm (hKK116 _ _ ?_))
                refine c_yes HH119 rfl ?_
                refine wp_region_lit ?_
                refine LG_val (want0 rfl) rfl rfl HH119 (Y_mov HH119 rfl rfl) (fun aa120 HH120 => ?_)
                clear HH119
                refine LG_call (want0 rfl) rfl rfl rfl Try.func51 (by kernel_rfl) rfl HH120 (cut_ok (RdI.old hrd SS114.p4) 3 hdb SS114) rfl ?_
                rintro e ww121 ⟨v23, rfl, SS121⟩
                obtain ⟨a23, c23, rfl, _, _⟩ := Ints.val SS121
                refine ⟨_, rfl, fun aa121 HH121 => ?_⟩
                clear HH120
                clear SS114
                refine LG_val (want0 rfl) rfl rfl HH121 (Y_asg HH121 rfl rfl) (fun aa122 HH122 => ?_)
                clear HH121
                refine L_end (t_norm ?_)
                exact ⟨_, _, _, HH122.sub rfl, by rw [List.length_take]; omega, SS121.p5.p5.p5.p5.p4.t5⟩
              ·
                refine LG_val (want0 rfl) rfl rfl HH118 (Y_no (Y_eql HH118 rfl rfl rfl) (h54)) (fun aa123 HH123 => ?_)
                clear HH118
                refine L_end (t_norm (hKK116 _ _ ?_))
                refine c_no HH123 rfl ?_
                refine wp_skip (t_norm ?_)
                exact ⟨_, _, _, HH123.sub rfl, by rw [List.length_take]; omega, SS114.p4.p4.p4.p4.p4.t5⟩
            clear HH115
            clear SS114
            rintro aa124 ww124 ⟨a22, c22, dd, HH124, hdd, SS124⟩
            refine c_cut (fun a wx => ∃ mrs hrs : List Rw, Fr a 237 [(1, VI (nn : Int)), (2, .slice a2 xs.length c2), (3, .slice a3 sts.length c3), (4, .slice a4 hds.length c4), (5, .slice a5 data.length c5), (6, VI k), (14, VB false), (15, VPt b15 0), (16, VP d 0), (17, VP h 0), (18, VI (i : Int)), (22, .slice a22 dd.length c22)] ∧ Inv (cfgOf s) nn mrs hrs ∧ Sat wx [Ints (.slice a22 dd.length c22) dd, DRep d (cfgOf s) mrs, HRep h (cfgOf s) nn hrs, cel b15 26 ((cfgOf s).cells (.slice pa (cfgOf s).init.length pc)), Old w]) ?_ ?_
            ·
              refine wp_seq_k fun KK125 hKK125 => ?_
              rcases set_cls (cfgOf s) nn x st hd dd.length with hh | ⟨hh, hbad⟩ | ⟨hh, g1, g2, g3, g4, g5, g6⟩
              ·
                refine wp_region_lit ?_
                refine LG_val (want0 rfl) rfl rfl HH124 (Y_mov HH124 rfl rfl) (fun aa126 HH126 => ?_)
                clear HH124
                refine LG_val (want0 rfl) rfl rfl HH126 (Y_mov HH126 rfl rfl) (fun aa127 HH127 => ?_)
                clear HH126
                refine LG_val (want0 rfl) rfl rfl HH127 (Y_mov HH127 rfl rfl) (fun aa128 HH128 => ?_)
                clear HH127
                refine LG_val (want0 rfl) rfl rfl HH128 (Y_mov HH128 rfl rfl) (fun aa129 HH129 => ?_)
                clear HH128
                refine LG_val (want0 rfl) rfl rfl HH129 (Y_mov HH129 rfl rfl) (fun aa130 HH130 => ?_)
                clear HH129
                refine LG_call (want0 rfl) rfl rfl rfl Try.func37 (by kernel_rfl) rfl HH130 (dset_none SS124.p1 x st hd _ (inv.not hh)) rfl ?_
                rintro e ww131 ⟨rfl, SS131⟩
                refine ⟨_, rfl, fun aa131 HH131 => ?_⟩
                clear HH130
                clear SS124
                refine LG_val (want0 rfl) rfl rfl HH131 (Y_mov HH131 rfl rfl) (fun aa132 HH132 => ?_)
                clear HH131
                refine LG_val (want0 rfl) rfl rfl HH132 (Y_mov HH132 rfl rfl) (fun aa133 HH133 => ?_)
                clear HH132
                refine LG_val (want0 rfl) rfl rfl HH133 (Y_mov HH133 rfl rfl) (fun aa134 HH134 => ?_)
                clear HH133
                refine LG_val (want0 rfl) rfl rfl HH134 (Y_mov HH134 rfl rfl) (fun aa135 HH135 => ?_)
                clear HH134
                refine LG_val (want0 rfl) rfl rfl HH135 (Y_mov HH135 rfl rfl) (fun aa136 HH136 => ?_)
                clear HH135
                refine LG_call (want0 rfl) rfl rfl rfl Try.func52 (by kernel_rfl) rfl HH136 (hset_none hc x st hd _ hh SS131.p2) rfl ?_
                rintro e ww137 ⟨rfl, SS137⟩
                refine ⟨_, rfl, fun aa137 HH137 => ?_⟩
                clear HH136
                clear SS131
                refine LG_val (want0 rfl) rfl rfl HH137 (Y_no (Y_neq HH137 rfl rfl rfl) (by simp)) (fun aa138 HH138 => ?_)
                clear HH137
                refine L_end (t_norm (hKK125 _ _ ?_))
                refine c_no HH138 rfl ?_
                refine wp_skip (t_norm ?_)
                exact ⟨mrs, hrs, HH138.sub rfl, inv, SS137.p4.p4.p2.p3.p4.t5⟩
              ·
                obtain ⟨y, j, r, rfl, hj, hr, hr2, hrl, hy, hdl⟩ := inv.find hh
                refine wp_region_lit ?_
                refine LG_val (want0 rfl) rfl rfl HH124 (Y_mov HH124 rfl rfl) (fun aa139 HH139 => ?_)
                clear HH124
                refine LG_val (want0 rfl) rfl rfl HH139 (Y_mov HH139 rfl rfl) (fun aa140 HH140 => ?_)
                clear HH139
                refine LG_val (want0 rfl) rfl rfl HH140 (Y_mov HH140 rfl rfl) (fun aa141 HH141 => ?_)
                clear HH140
                refine LG_val (want0 rfl) rfl rfl HH141 (Y_mov HH141 rfl rfl) (fun aa142 HH142 => ?_)
                clear HH141
                refine LG_val (want0 rfl) rfl rfl HH142 (Y_mov HH142 rfl rfl) (fun aa143 HH143 => ?_)
                clear HH142
                refine LG_call (want0 rfl) rfl rfl rfl Try.func37 (by kernel_rfl) rfl HH143 (dset_bad SS124.p1 (y : Int) st hd _ _ dd rfl hj hr hbad) rfl ?_
                rintro e ww144 ⟨rfl, SS144⟩
                refine ⟨_, rfl, fun aa144 HH144 => ?_⟩
                clear HH143
                clear SS124
                refine LG_val (want0 rfl) rfl rfl HH144 (Y_mov HH144 rfl rfl) (fun aa145 HH145 => ?_)
                clear HH144
                refine LG_val (want0 rfl) rfl rfl HH145 (Y_mov HH145 rfl rfl) (fun aa146 HH146 => ?_)
                clear HH145
                refine LG_val (want0 rfl) rfl rfl HH146 (Y_mov HH146 rfl rfl) (fun aa147 HH147 => ?_)
                clear HH146
                refine LG_val (want0 rfl) rfl rfl HH147 (Y_mov HH147 rfl rfl) (fun aa148 HH148 => ?_)
                clear HH147
                refine LG_val (want0 rfl) rfl rfl HH148 (Y_mov HH148 rfl rfl) (fun aa149 HH149 => ?_)
                clear HH148
                refine LG_call (want0 rfl) rfl rfl rfl Try.func52 (by kernel_rfl) rfl HH149 (hset_bad hc (y : Int) st hd _ _ dd rfl hh hbad SS144.p2) rfl ?_
                rintro e ww150 ⟨rfl, SS150⟩
                refine ⟨_, rfl, fun aa150 HH150 => ?_⟩
                clear HH149
                clear SS144
                refine LG_val (want0 rfl) rfl rfl HH150 (Y_no (Y_neq HH150 rfl rfl rfl) (by simp)) (fun aa151 HH151 => ?_)
                clear HH150
                refine L_end (t_norm (hKK125 _ _ ?_))
                refine c_no HH151 rfl ?_
                refine wp_skip (t_norm ?_)
                exact ⟨mrs, hrs, HH151.sub rfl, inv, SS150.p4.p4.p2.p3.p4.t5⟩
              ·
                obtain ⟨y, j, r, rfl, hj, hr, hr2, hrl, hy, hdl⟩ := inv.find hh
                refine wp_region_lit ?_
                refine LG_val (want0 rfl) rfl rfl HH124 (Y_mov HH124 rfl rfl) (fun aa152 HH152 => ?_)
                clear HH124
                refine LG_val (want0 rfl) rfl rfl HH152 (Y_mov HH152 rfl rfl) (fun aa153 HH153 => ?_)
                clear HH152
                refine LG_val (want0 rfl) rfl rfl HH153 (Y_mov HH153 rfl rfl) (fun aa154 HH154 => ?_)
                clear HH153
                refine LG_val (want0 rfl) rfl rfl HH154 (Y_mov HH154 rfl rfl) (fun aa155 HH155 => ?_)
                clear HH154
                refine LG_val (want0 rfl) rfl rfl HH155 (Y_mov HH155 rfl rfl) (fun aa156 HH156 => ?_)
                clear HH155
                refine LG_call (want0 rfl) rfl rfl rfl Try.func37 (by kernel_rfl) rfl HH156 (dset_ok hc SS124.p1 (y : Int) st hd _ _ dd rfl hj hr (fun w' h => Ints.rd h) g1 g2 g3 g4 g5 g6) rfl ?_
                rintro e ww157 ⟨rfl, SS157⟩
                refine ⟨_, rfl, fun aa157 HH157 => ?_⟩
                clear HH156
                clear SS124
                refine LG_val (want0 rfl) rfl rfl HH157 (Y_mov HH157 rfl rfl) (fun aa158 HH158 => ?_)
                clear HH157
                refine LG_val (want0 rfl) rfl rfl HH158 (Y_mov HH158 rfl rfl) (fun aa159 HH159 => ?_)
                clear HH158
                refine LG_val (want0 rfl) rfl rfl HH159 (Y_mov HH159 rfl rfl) (fun aa160 HH160 => ?_)
                clear HH159
                refine LG_val (want0 rfl) rfl rfl HH160 (Y_mov HH160 rfl rfl) (fun aa161 HH161 => ?_)
                clear HH160
                refine LG_val (want0 rfl) rfl rfl HH161 (Y_mov HH161 rfl rfl) (fun aa162 HH162 => ?_)
                clear HH161
                refine LG_call (want0 rfl) rfl rfl rfl Try.func52 (by kernel_rfl) rfl HH162 (hset_ok hc y st hd _ _ dd rfl hh hr2 (by have := inv.len; omega) (fun w' h => Ints.rd h) g1 g2 g3 g4 g5 g6 SS157.p1.p2) rfl ?_
                rintro e ww163 ⟨rfl, SS163⟩
                refine ⟨_, rfl, fun aa163 HH163 => ?_⟩
                clear HH162
                clear SS157
                refine LG_val (want0 rfl) rfl rfl HH163 (Y_no (Y_neq HH163 rfl rfl rfl) (by simp)) (fun aa164 HH164 => ?_)
                clear HH163
                refine L_end (t_norm (hKK125 _ _ ?_))
                refine c_no HH164 rfl ?_
                refine wp_skip (t_norm ?_)
                exact ⟨_, _, HH164.sub rfl, inv.set (r' := ⟨(y : Int), st, hd, if dd.length = 0 then r.data else dd⟩) hj hr hrl hy rfl (by show (if dd.length = 0 then r.data else dd).length = _; split <;> omega), SS163.p4.p4.p2.p4.p4.t5⟩
            clear inv
            clear HH124
            clear SS124
            rintro aa165 ww165 ⟨mrs, hrs, HH165, inv, SS165⟩
            refine wp_seq_k fun KK166 hKK166 => ?_
            refine wp_region_lit ?_
            refine LG_val (want0 rfl) rfl rfl HH165 (Y_mov HH165 rfl rfl) (fun aa167 HH167 => ?_)
            clear HH165
            refine LG_val (want0 rfl) rfl rfl HH167 (Y_lenS HH167 rfl (by kernel_rfl) rfl) (fun aa168 HH168 => ?_)
            clear HH167
            refine LG_val (want0 rfl) rfl rfl HH168 (Y_mov HH168 rfl rfl) (fun aa169 HH169 => ?_)
            clear HH168
            refine L_end (t_norm (hKK166 _ _ ?_))
            refine wp_block ?_
            refine c_loop (σ := Nat) (fun (j : Nat) a wx => ∃ ys : List Int, Fr a 237 [(1, VI (nn : Int)), (2, .slice a2 xs.length c2), (3, .slice a3 sts.length c3), (4, .slice a4 hds.length c4), (5, .slice a5 data.length c5), (6, VI k), (14, VB false), (15, VPt b15 0), (16, VP d 0), (17, VP h 0), (18, VI (i : Int)), (22, .slice a22 dd.length c22), (132, VI dd.length), (133, VI j)] ∧ j ≤ dd.length ∧ ys.length = dd.length ∧ Sat wx [Ints (.slice a22 dd.length c22) ys, DRep d (cfgOf s) mrs, HRep h (cfgOf s) nn hrs, cel b15 26 ((cfgOf s).cells (.slice pa (cfgOf s).init.length pc)), Old w]) (fun j => dd.length - j) (0) ?_ ?_
            · exact ⟨dd, HH169.sub rfl, Nat.zero_le _, rfl, SS165.p4.p4.p4.p4.p4.t5⟩
            clear HH169
            clear SS165
            rintro j aa170 ww170 ⟨ys, HH170, hj, hys, SS170⟩
            refine wp_seq_k fun KK171 hKK171 => ?_
            refine wp_region_lit ?_
            by_cases hjl : (j : Int) < (dd.length : Int)
            ·
              refine LG_val (want0 rfl) rfl rfl HH170 (Y_yes (Y_lss HH170 rfl rfl rfl) (hjl)) (fun aa172 HH172 => ?_)
              clear HH170
              refine L_end (t_norm (hKK171 _ _ ?_))
              refine wp_seq_k fun KK173 hKK173 => ?_
              refine c_yes HH172 rfl ?_
              refine wp_skip (t_norm (hKK173 _ _ ?_))
              refine wp_seq_k fun KK174 hKK174 => ?_
              refine wp_block ?_
              refine wp_seq_k fun KK175 hKK175 => ?_
              refine wp_region_lit ?_
              refine LG_val (want0 rfl) rfl rfl HH172 (Y_mov HH172 rfl rfl) (fun aa176 HH176 => ?_)
              clear HH172
              refine LG_val (want0 rfl) rfl rfl HH176 (Y_asg HH176 rfl rfl) (fun aa177 HH177 => ?_)
              clear HH176
              refine L_end (t_norm (hKK175 _ _ ?_))
              obtain ⟨b5, o5, e5⟩ := Ints.some SS170 hys (by omega)
              have cj := Ints.atE e5 hys SS170 j (by omega)
              refine wp_region_lit ?_
              refine LG_val (want0 rfl) rfl rfl HH177 (Y_mov HH177 rfl rfl) (fun aa178 HH178 => ?_)
              clear HH177
              refine LG_val (want0 rfl) rfl rfl HH178 (Y_mov HH178 rfl rfl) (fun aa179 HH179 => ?_)
              clear HH178
              refine LG_val (want0 rfl) rfl rfl HH179 (Y_idxE (q := o5 + j) HH179 rfl ty_ints rfl e5 rfl (by omega) (by omega) (by simp)) (fun aa180 HH180 => ?_)
              clear HH179
              refine LG_val (want0 rfl) rfl rfl HH180 (Y_load HH180 rfl (by kernel_rfl) rfl cj) (fun aa181 HH181 => ?_)
              clear HH180
              refine LG_val (want0 rfl) rfl rfl HH181 (Y_xor HH181 rfl rfl rfl (rfl)) (fun aa182 HH182 => ?_)
              clear HH181
              refine LG_val (want0 rfl) rfl rfl HH182 (Y_idxE (q := o5 + j) HH182 rfl ty_ints rfl e5 rfl (by omega) (by omega) (by simp)) (fun aa183 HH183 => ?_)
              clear HH182
              refine LG_do0 (want0 rfl) rfl HH183 (M_storeI HH183 rfl j rfl rfl e5 SS170 hys (by omega)) ?_
              rintro _ ww184 SS184 aa184 HH184
              clear HH183
              clear SS170
              refine L_end (b_norm (t_norm (hKK174 _ _ ?_)))
              refine wp_region_lit ?_
              refine LG_val (want0 rfl) rfl rfl HH184 (Y_add HH184 rfl rfl rfl (IntWalk.i64_in _ (by omega))) (fun aa185 HH185 => ?_)
              clear HH184
              refine LG_val (want0 rfl) rfl rfl HH185 (Y_mov HH185 rfl rfl) (fun aa186 HH186 => ?_)
              clear HH185
              refine L_end (t_norm ?_)
              exact ⟨j + 1, ⟨_, HH186.sub rfl, by omega, (by rw [List.length_set]; exact hys), SS184.p4.p4.p4.p4.p4.t5⟩, by first | omega | (dsimp only; omega)⟩
            ·
              refine LG_val (want0 rfl) rfl rfl HH170 (Y_no (Y_lss HH170 rfl rfl rfl) (hjl)) (fun aa187 HH187 => ?_)
              clear HH170
              refine L_end (t_norm (hKK171 _ _ ?_))
              refine wp_seq_k fun KK188 hKK188 => ?_
              refine c_no HH187 rfl ?_
              refine wp_exit (t_exit (t_exit (b_exit (b_norm (t_norm (hKK54 _ _ ?_))))))
              refine wp_region_lit ?_
              refine LG_val (want0 rfl) rfl rfl HH187 (Y_mov HH187 rfl rfl) (fun aa189 HH189 => ?_)
              clear HH187
              refine LG_val (want0 rfl) rfl rfl HH189 (Y_add HH189 rfl rfl rfl (IntWalk.i64_in _ (by omega))) (fun aa190 HH190 => ?_)
              clear HH189
              refine LG_val (want0 rfl) rfl rfl HH190 (Y_asg HH190 rfl rfl) (fun aa191 HH191 => ?_)
              clear HH190
              refine L_end (t_norm ?_)
              exact ⟨i + 1, ⟨mrs, hrs, HH191.sub rfl, by omega, inv, SS170.p4.p4.p4.p4.t4⟩, by first | omega | (dsimp only; omega)⟩
          ·
            refine LG_val (HH51.want rfl rfl rfl) rfl rfl HH51 (Y_no (Y_lss HH51 rfl rfl rfl) (hx4)) (fun aa192 HH192 => ?_)
            clear HH51
            refine LG_val (want0 rfl) rfl rfl HH192 (Y_pickT HH192 rfl rfl rfl) (fun aa193 HH193 => ?_)
            clear HH192
            refine L_end (t_norm (hKK33 _ _ ?_))
            refine c_no HH193 rfl ?_
            refine wp_exit (t_exit (t_exit (b_exit (t_norm ?_))))
            exact ⟨mrs, hrs, HH193.sub rfl, inv, SS31.p3.p3.p3.p3.t4⟩
        ·
          refine LG_val (HH47.want rfl rfl rfl) rfl rfl HH47 (Y_no (Y_lss HH47 rfl rfl rfl) (hx3)) (fun aa194 HH194 => ?_)
          clear HH47
          refine LG_val (want0 rfl) rfl rfl HH194 (Y_pickT HH194 rfl rfl rfl) (fun aa195 HH195 => ?_)
          clear HH194
          refine LG_val (want0 rfl) rfl rfl HH195 (Y_mov HH195 rfl rfl) (fun aa196 HH196 => ?_)
          clear HH195
          refine LG_skip (HH196.unwant rfl rfl rfl rfl) rfl rfl HH196 (fun aa197 HH197 => ?_)
          clear HH196
          refine LG_skip (HH197.unwant rfl rfl rfl rfl) rfl rfl HH197 (fun aa198 HH198 => ?_)
          clear HH197
          refine LG_val (want0 rfl) rfl rfl HH198 (Y_pickF HH198 rfl rfl rfl) (fun aa199 HH199 => ?_)
          clear HH198
          refine L_end (t_norm (hKK33 _ _ ?_))
          refine c_no HH199 rfl ?_
          refine wp_exit (t_exit (t_exit (b_exit (t_norm ?_))))
          exact ⟨mrs, hrs, HH199.sub rfl, inv, SS31.p3.p3.p3.p3.t4⟩
      ·
        refine LG_val (HH41.want rfl rfl rfl) rfl rfl HH41 (Y_no (Y_lss HH41 rfl rfl rfl) (hx2)) (fun aa200 HH200 => ?_)
        clear HH41
        refine LG_val (want0 rfl) rfl rfl HH200 (Y_pickT HH200 rfl rfl rfl) (fun aa201 HH201 => ?_)
        clear HH200
        refine LG_val (want0 rfl) rfl rfl HH201 (Y_mov HH201 rfl rfl) (fun aa202 HH202 => ?_)
        clear HH201
        refine LG_skip (HH202.unwant rfl rfl rfl rfl) rfl rfl HH202 (fun aa203 HH203 => ?_)
        clear HH202
        refine LG_skip (HH203.unwant rfl rfl rfl rfl) rfl rfl HH203 (fun aa204 HH204 => ?_)
        clear HH203
        refine LG_skip (HH204.unwant rfl rfl rfl rfl) rfl rfl HH204 (fun aa205 HH205 => ?_)
        clear HH204
        refine LG_skip (HH205.unwant rfl rfl rfl rfl) rfl rfl HH205 (fun aa206 HH206 => ?_)
        clear HH205
        refine LG_val (want0 rfl) rfl rfl HH206 (Y_pickF HH206 rfl rfl rfl) (fun aa207 HH207 => ?_)
        clear HH206
        refine LG_val (want0 rfl) rfl rfl HH207 (Y_mov HH207 rfl rfl) (fun aa208 HH208 => ?_)
        clear HH207
        refine LG_skip (HH208.unwant rfl rfl rfl rfl) rfl rfl HH208 (fun aa209 HH209 => ?_)
        clear HH208
        refine LG_skip (HH209.unwant rfl rfl rfl rfl) rfl rfl HH209 (fun aa210 HH210 => ?_)
        clear HH209
        refine LG_val (want0 rfl) rfl rfl HH210 (Y_pickF HH210 rfl rfl rfl) (fun aa211 HH211 => ?_)
        clear HH210
        refine L_end (t_norm (hKK33 _ _ ?_))
        refine c_no HH211 rfl ?_
        refine wp_exit (t_exit (t_exit (b_exit (t_norm ?_))))
        exact ⟨mrs, hrs, HH211.sub rfl, inv, SS31.p3.p3.p3.p3.t4⟩
    ·
      refine LG_val (want0 rfl) rfl rfl HH36 (Y_no (Y_lss HH36 rfl rfl rfl) (hx1)) (fun aa212 HH212 => ?_)
      clear HH36
      refine LG_val (want0 rfl) rfl rfl HH212 (Y_mov HH212 rfl rfl) (fun aa213 HH213 => ?_)
      clear HH212
      refine LG_skip (HH213.unwant rfl rfl rfl rfl) rfl rfl HH213 (fun aa214 HH214 => ?_)
      clear HH213
      refine LG_skip (HH214.unwant rfl rfl rfl rfl) rfl rfl HH214 (fun aa215 HH215 => ?_)
      clear HH214
      refine LG_skip (HH215.unwant rfl rfl rfl rfl) rfl rfl HH215 (fun aa216 HH216 => ?_)
      clear HH215
      refine LG_skip (HH216.unwant rfl rfl rfl rfl) rfl rfl HH216 (fun aa217 HH217 => ?_)
      clear HH216
      refine LG_val (want0 rfl) rfl rfl HH217 (Y_pickF HH217 rfl rfl rfl) (fun aa218 HH218 => ?_)
      clear HH217
      refine LG_val (want0 rfl) rfl rfl HH218 (Y_mov HH218 rfl rfl) (fun aa219 HH219 => ?_)
      clear HH218
      refine LG_skip (HH219.unwant rfl rfl rfl rfl) rfl rfl HH219 (fun aa220 HH220 => ?_)
      clear HH219
      refine LG_skip (HH220.unwant rfl rfl rfl rfl) rfl rfl HH220 (fun aa221 HH221 => ?_)
      clear HH220
      refine LG_skip (HH221.unwant rfl rfl rfl rfl) rfl rfl HH221 (fun aa222 HH222 => ?_)
      clear HH221
      refine LG_skip (HH222.unwant rfl rfl rfl rfl) rfl rfl HH222 (fun aa223 HH223 => ?_)
      clear HH222
      refine LG_val (want0 rfl) rfl rfl HH223 (Y_pickF HH223 rfl rfl rfl) (fun aa224 HH224 => ?_)
      clear HH223
      refine LG_val (want0 rfl) rfl rfl HH224 (Y_mov HH224 rfl rfl) (fun aa225 HH225 => ?_)
      clear HH224
      refine LG_skip (HH225.unwant rfl rfl rfl rfl) rfl rfl HH225 (fun aa226 HH226 => ?_)
      clear HH225
      refine LG_skip (HH226.unwant rfl rfl rfl rfl) rfl rfl HH226 (fun aa227 HH227 => ?_)
      clear HH226
      refine LG_val (want0 rfl) rfl rfl HH227 (Y_pickF HH227 rfl rfl rfl) (fun aa228 HH228 => ?_)
      clear HH227
      refine L_end (t_norm (hKK33 _ _ ?_))
      refine c_no HH228 rfl ?_
      refine wp_exit (t_exit (t_exit (b_exit (t_norm ?_))))
      exact ⟨mrs, hrs, HH228.sub rfl, inv, SS31.p3.p3.p3.p3.t4⟩
  clear HH28
  clear SS22
  rintro aa229 ww229 ⟨mrs, hrs, HH229, inv, SS229⟩
  refine wp_seq_k fun KK230 hKK230 => ?_
  refine wp_region_lit ?_
  refine LG_val (want0 rfl) rfl rfl HH229 (Y_asg HH229 rfl rfl) (fun aa231 HH231 => ?_)
  clear HH229
  refine L_end (t_norm (hKK230 _ _ ?_))
  refine wp_seq_k fun KK232 hKK232 => ?_
  refine wp_seq_k fun KK233 hKK233 => ?_
  refine wp_region_lit ?_
  refine LG_val (want0 rfl) rfl rfl HH231 (Y_asg HH231 rfl rfl) (fun aa234 HH234 => ?_)
  clear HH231
  refine L_end (t_norm (hKK233 _ _ ?_))
  refine wp_block ?_
  refine c_loop (σ := Nat) (fun (l : Nat) a wx => ∃ wv : Value, Fr a 237 [(1, VI (nn : Int)), (14, VB false), (15, VPt b15 0), (16, VP d 0), (17, VP h 0), (24, wv), (25, VI ((l : Int) - 1))] ∧ l ≤ (cfgOf s).lines + 2 ∧ Sat wx [Ints wv (linesOf (cfgOf s) mrs (l - 1)), DRep d (cfgOf s) mrs, HRep h (cfgOf s) nn hrs, cel b15 26 ((cfgOf s).cells (.slice pa (cfgOf s).init.length pc)), Old w]) (fun l => (cfgOf s).lines + 2 - l) (0) ?_ ?_
  · exact ⟨_, HH234.sub rfl, by omega, Ints.nil _ _ SS229.p3.p3.p3.p3.t4⟩
  clear HH234
  clear SS229
  rintro l aa235 ww235 ⟨wv, HH235, hl, SS235⟩
  refine wp_seq_k fun KK236 hKK236 => ?_
  refine wp_seq_k fun KK237 hKK237 => ?_
  refine wp_region_lit ?_
  refine LG_val (want0 rfl) rfl rfl HH235 (Y_mov HH235 rfl rfl) (fun aa238 HH238 => ?_)
  clear HH235
  refine LG_val (want0 rfl) rfl rfl HH238 (Y_fad (off := 1) (r := 1) HH238 rfl (by kernel_rfl) rfl rfl) (fun aa239 HH239 => ?_)
  clear HH238
  refine LG_val (want0 rfl) rfl rfl HH239 (Y_load HH239 rfl (by kernel_rfl) rfl (SS235.p3.cell 1)) (fun aa240 HH240 => ?_)
  clear HH239
  by_cases hle : ((l : Int) - 1) ≤ ((cfgOf s).lines : Int)
  ·
    refine LG_val (want0 rfl) rfl rfl HH240 (Y_yes (Y_leq HH240 rfl rfl rfl) (hle)) (fun aa241 HH241 => ?_)
    clear HH240
    refine L_end (t_norm (hKK237 _ _ ?_))
    refine c_yes HH241 rfl ?_
    refine wp_skip (t_norm (hKK236 _ _ ?_))
    refine wp_seq_k fun KK242 hKK242 => ?_
    refine wp_block ?_
    refine wp_seq_k fun KK243 hKK243 => ?_
    by_cases hh : isHere (cfgOf s) nn ((l : Int) - 1)
    ·
      obtain ⟨y, j, r, hxy, hj, hr, hr2, hrl, hy, hdl⟩ := inv.find hh
      have hry : r.data.length ≤ 1000 := by omega
      refine wp_region_lit ?_
      refine LG_val (want0 rfl) rfl rfl HH241 (Y_mov HH241 rfl rfl) (fun aa244 HH244 => ?_)
      clear HH241
      refine LG_val (want0 rfl) rfl rfl HH244 (Y_mov HH244 rfl rfl) (fun aa245 HH245 => ?_)
      clear HH244
      refine LG_call (want0 rfl) rfl rfl rfl Try.func15 (by kernel_rfl) rfl HH245 (drow_some SS235.p1 ((l : Int) - 1) (by rw [hxy]; exact hj) hr hry) rfl ?_
      rintro e ww246 ⟨u6, rfl, SS246⟩
      obtain ⟨a6, c6, rfl, _, _⟩ := Ints.val SS246
      refine ⟨_, rfl, fun aa246 HH246 => ?_⟩
      clear HH245
      clear SS235
      refine LG_val (want0 rfl) rfl rfl HH246 (Y_mov HH246 rfl rfl) (fun aa247 HH247 => ?_)
      clear HH246
      refine LG_val (want0 rfl) rfl rfl HH247 (Y_ext HH247 rfl rfl rfl) (fun aa248 HH248 => ?_)
      clear HH247
      refine LG_val (want0 rfl) rfl rfl HH248 (Y_ext HH248 rfl rfl rfl) (fun aa249 HH249 => ?_)
      clear HH248
      refine LG_do (want0 rfl) rfl rfl HH249 (M_alloc HH249 rfl st_memdir_Row.zero SS246) ?_
      rintro _ ww250 ⟨b26, rfl, SS250, _⟩ aa250 HH250
      clear HH249
      clear SS246
      refine LG_do0 (want0 rfl) rfl HH250 (M_storeS HH250 rfl rfl rfl SS250 st_memdir_Row.size rfl rfl (one_row _ _ _ _ _)) ?_
      rintro _ ww251 ⟨SS251, _⟩ aa251 HH251
      clear HH250
      clear SS250
      refine LG_val (want0 rfl) rfl rfl HH251 (Y_asg HH251 rfl rfl) (fun aa252 HH252 => ?_)
      clear HH251
      refine L_end (t_norm (hKK243 _ _ ?_))
      refine wp_seq_k fun KK253 hKK253 => ?_
      refine wp_seq_k fun KK254 hKK254 => ?_
      obtain ⟨pa9, pn9, pc9, ra, rk, vs, hvs, S9⟩ := HRep.open2 SS251.p4.p1.p2
      clear SS251
      have SS251 := S9
      clear S9
      obtain ⟨v, hv⟩ := rw_at hvs hr2
      obtain ⟨va, vc, rfl, _, _⟩ := Rd.val (Ints.rd (Sat.mem SS251.tail.tail.tail.tail (List.mem_append_left _ (rwData_mem _ _ _ _ _ hr2 hv))))
      obtain ⟨rb, ro, era⟩ := Sl.some SS251.p3 (by have := inv.len; omega)
      -- region 27, drawn
      refine N_begin (fun w' => Sat w' _) (.val 0 (.val 1 (.val 2 (.one 3 (.val 4 (.val 5 (.val 6 (.val 7 (.val 8 (.val 9 (.val 10 (.val 11 (.val 12 (.val 13 (.val 14 (.val 15 (.one 16 (.val 17 (.val 18 (.val 19 (.val 20 (.val 21 (.val 22 (.val 23 (.val 24 (.val 25 (.val 26 (.val 27 (.val 28 (.val 29 (.val 30 (.val 31 (.val 32 (.val 33 (.val 34 (.val 35 (.val 36 (.val 37 (.val 38 (.val 39 .fin)))))))))))))))))))))))))))))))))))))))) (by kernel_rfl) (by kernel_rfl) (by kernel_rfl) (by kernel_rfl) (fun _ _ _ _ _ h => h) (SS251.p3.p3.p3.p3.t4.drew) (fun ww255 SN255 hw255 => ?_)
      have SS255 := SS251.drew
      rw [← hw255] at SS255
      clear hw255 SN255
      clear SS251
      refine N_val rfl (want0 rfl) rfl rfl HH252 (fun ww255 SN => Y_mov HH252 rfl rfl) (fun aa256 HH256 => ?_)
      clear HH252
      refine N_val rfl (want0 rfl) rfl rfl HH256 (fun ww255 SN => Y_mov HH256 rfl rfl) (fun aa257 HH257 => ?_)
      clear HH256
      refine N_val rfl (want0 rfl) rfl rfl HH257 (fun ww255 SN => Y_mov HH257 rfl rfl) (fun aa258 HH258 => ?_)
      clear HH257
      refine N_call rfl (want0 rfl) rfl rfl rfl Try.func53 (by kernel_rfl) rfl HH258 (here_cel hc ((l : Int) - 1) SS255.p2) rfl ?_
      rintro e ww259 ⟨rfl, SS259⟩
      rw [show decide (isHere (cfgOf s) nn ((l : Int) - 1)) = true from decide_eq_true hh]
      refine ⟨_, rfl, SS259.p3.p1.p3.p3.t4, fun aa259 HH259 => ?_⟩
      clear HH258
      clear SS255
      refine N_val rfl (want0 rfl) rfl rfl HH259 (fun ww259 SN => Y_to (Y_neqB HH259 rfl (by kernel_rfl) rfl rfl) (rfl)) (fun aa260 HH260 => ?_)
      clear HH259
      refine N_val rfl (want0 rfl) rfl rfl HH260 (fun ww259 SN => Y_mov HH260 rfl rfl) (fun aa261 HH261 => ?_)
      clear HH260
      refine N_val rfl (HH261.want rfl rfl rfl) rfl rfl HH261 (fun ww259 SN => Y_mov HH261 rfl rfl) (fun aa262 HH262 => ?_)
      clear HH261
      refine N_val rfl (HH262.want rfl rfl rfl) rfl rfl HH262 (fun ww259 SN => Y_mov HH262 rfl rfl) (fun aa263 HH263 => ?_)
      clear HH262
      refine N_val rfl (HH263.want rfl rfl rfl) rfl rfl HH263 (fun ww259 SN => Y_loadS HH263 rfl rfl SN.p1 st_memdir_Row.und st_memdir_Row.size) (fun aa264 HH264 => ?_)
      clear HH263
      refine N_val rfl (HH264.want rfl rfl rfl) rfl rfl HH264 (fun ww259 SN => Y_mov HH264 rfl rfl) (fun aa265 HH265 => ?_)
      clear HH264
      refine N_val rfl (HH265.want rfl rfl rfl) rfl rfl HH265 (fun ww259 SN => Y_chk HH265 rfl rfl) (fun aa266 HH266 => ?_)
      clear HH265
      refine N_val rfl (HH266.want rfl rfl rfl) rfl rfl HH266 (fun ww259 SN => Y_fad (off := 9) (r := 9) HH266 rfl (by kernel_rfl) rfl rfl) (fun aa267 HH267 => ?_)
      clear HH266
      refine N_val rfl (HH267.want rfl rfl rfl) rfl rfl HH267 (fun ww259 SN => Y_load HH267 rfl (by kernel_rfl) rfl (SN.p2.cell 9)) (fun aa268 HH268 => ?_)
      clear HH267
      refine N_val rfl (HH268.want rfl rfl rfl) rfl rfl HH268 (fun ww259 SN => Y_mov HH268 rfl rfl) (fun aa269 HH269 => ?_)
      clear HH268
      refine N_val rfl (HH269.want rfl rfl rfl) rfl rfl HH269 (fun ww259 SN => Y_idxE (q := ro + y * 3) HH269 rfl ty_rows rfl era rfl (by omega) (by have := inv.len; omega) (by rw [hxy, Int.toNat_natCast])) (fun aa270 HH270 => ?_)
      clear HH269
      refine N_val rfl (HH270.want rfl rfl rfl) rfl rfl HH270 (fun ww259 SN => Y_loadC HH270 rfl rfl (HRep.rowAt era hvs rfl SN.p3 y r _ hr2 hv _ rfl) st_chapletref07_Row.und st_chapletref07_Row.size) (fun aa271 HH271 => ?_)
      clear HH270
      refine N_call rfl (HH271.want rfl rfl rfl) rfl rfl rfl Try.func54 (by kernel_rfl) rfl HH271 (samerow_ok r.st r.hd a6 va r.data.length c6 r.data.length vc r.data (fun _ h => Ints.rd h) (fun _ h => Ints.rd (Sat.mem h.tail.tail.tail.tail (List.mem_append_left _ (rwData_mem _ _ _ _ _ hr2 hv)))) SS259.p3.p1.p3.p3) rfl ?_
      rintro e ww272 ⟨rfl, SS272⟩
      refine ⟨_, rfl, SS272.p3.p3.p3.p3.t4, fun aa272 HH272 => ?_⟩
      clear HH271
      clear SS259
      refine N_val rfl (HH272.want rfl rfl rfl) rfl rfl HH272 (fun ww272 SN => Y_not HH272 rfl rfl) (fun aa273 HH273 => ?_)
      clear HH272
      refine N_val rfl (HH273.want rfl rfl rfl) rfl rfl HH273 (fun ww272 SN => Y_pickT HH273 rfl rfl rfl) (fun aa274 HH274 => ?_)
      clear HH273
      refine N_val rfl (want0 rfl) rfl rfl HH274 (fun ww272 SN => Y_pickF HH274 rfl rfl rfl) (fun aa275 HH275 => ?_)
      clear HH274
      refine N_val rfl (want0 rfl) rfl rfl HH275 (fun ww272 SN => Y_mov HH275 rfl rfl) (fun aa276 HH276 => ?_)
      clear HH275
      refine N_val rfl (HH276.want rfl rfl rfl) rfl rfl HH276 (fun ww272 SN => Y_mov HH276 rfl rfl) (fun aa277 HH277 => ?_)
      clear HH276
      refine N_val rfl (HH277.want rfl rfl rfl) rfl rfl HH277 (fun ww272 SN => Y_not HH277 rfl rfl) (fun aa278 HH278 => ?_)
      clear HH277
      refine N_val rfl (HH278.want rfl rfl rfl) rfl rfl HH278 (fun ww272 SN => Y_mov HH278 rfl rfl) (fun aa279 HH279 => ?_)
      clear HH278
      refine N_skip rfl (HH279.unwant rfl rfl rfl rfl) rfl rfl HH279 (fun aa280 HH280 => ?_)
      clear HH279
      refine N_skip rfl (HH280.unwant rfl rfl rfl rfl) rfl rfl HH280 (fun aa281 HH281 => ?_)
      clear HH280
      refine N_skip rfl (HH281.unwant rfl rfl rfl rfl) rfl rfl HH281 (fun aa282 HH282 => ?_)
      clear HH281
      refine N_skip rfl (HH282.unwant rfl rfl rfl rfl) rfl rfl HH282 (fun aa283 HH283 => ?_)
      clear HH282
      refine N_skip rfl (HH283.unyielded rfl rfl rfl) rfl rfl HH283 (fun aa284 HH284 => ?_)
      clear HH283
      refine N_skip rfl (HH284.unyielded rfl rfl rfl) rfl rfl HH284 (fun aa285 HH285 => ?_)
      clear HH284
      refine N_skip rfl (HH285.unyielded rfl rfl rfl) rfl rfl HH285 (fun aa286 HH286 => ?_)
      clear HH285
      refine N_skip rfl (HH286.unwant rfl rfl rfl rfl) rfl rfl HH286 (fun aa287 HH287 => ?_)
      clear HH286
      refine N_skip rfl (HH287.unwant rfl rfl rfl rfl) rfl rfl HH287 (fun aa288 HH288 => ?_)
      clear HH287
      refine N_skip rfl (HH288.unyielded rfl rfl rfl) rfl rfl HH288 (fun aa289 HH289 => ?_)
      clear HH288
      refine N_skip rfl (HH289.unyielded rfl rfl rfl) rfl rfl HH289 (fun aa290 HH290 => ?_)
      clear HH289
      refine N_skip rfl (HH290.unyielded rfl rfl rfl) rfl rfl HH290 (fun aa291 HH291 => ?_)
      clear HH290
      refine N_skip rfl (HH291.unyielded rfl rfl rfl) rfl rfl HH291 (fun aa292 HH292 => ?_)
      clear HH291
      refine N_skip rfl (HH292.unwant rfl rfl rfl rfl) rfl rfl HH292 (fun aa293 HH293 => ?_)
      clear HH292
      refine N_val rfl (HH293.want rfl rfl rfl) rfl rfl HH293 (fun ww272 SN => Y_pickF HH293 rfl rfl rfl) (fun aa294 HH294 => ?_)
      clear HH293
      refine N_val rfl (want0 rfl) rfl rfl HH294 (fun ww272 SN => Y_pickF HH294 rfl rfl rfl) (fun aa295 HH295 => ?_)
      clear HH294
      refine N_end (t_norm (hKK254 _ _ ?_))
      refine c_no HH295 rfl ?_
      refine wp_skip (t_norm (hKK253 _ _ ?_))
      refine wp_seq_k fun KK296 hKK296 => ?_
      have S9 := HRep.shut2 hvs SS272.p3.p3.p3.p3
      clear SS272
      have SS272 := S9
      clear S9
      refine wp_region_lit ?_
      refine LG_val (want0 rfl) rfl rfl HH295 (Y_mov HH295 rfl rfl) (fun aa297 HH297 => ?_)
      clear HH295
      refine L_end (t_norm (hKK296 _ _ ?_))
      refine c_yes HH297 rfl ?_
      refine wp_seq_k fun KK298 hKK298 => ?_
      refine wp_region_lit ?_
      refine LG_val (want0 rfl) rfl rfl HH297 (Y_mov HH297 rfl rfl) (fun aa299 HH299 => ?_)
      clear HH297
      refine LG_val (want0 rfl) rfl rfl HH299 (Y_mov HH299 rfl rfl) (fun aa300 HH300 => ?_)
      clear HH299
      refine LG_do (want0 rfl) rfl rfl HH300 (M_buildSlice HH300 rfl ty_ints rfl rfl rfl (by simp [Value.cells]) rfl SS272) ?_
      rintro _ ww301 ⟨b198, rfl, SS301, _⟩ aa301 HH301
      clear HH300
      clear SS272
      refine LG_do (want0 rfl) rfl rfl HH301 (M_appI HH301 rfl rfl rfl SS301.p5.p1 (by have := linesOf_len (cfgOf s) mrs (l - 1); omega)) ?_
      rintro _ ww302 SS302 aa302 HH302
      clear HH301
      clear SS301
      refine LG_val (want0 rfl) rfl rfl HH302 (Y_asg HH302 rfl rfl) (fun aa303 HH303 => ?_)
      clear HH302
      refine L_end (t_norm (hKK298 _ _ ?_))
      refine wp_seq_k fun KK304 hKK304 => ?_
      refine wp_seq_k fun KK305 hKK305 => ?_
      refine wp_region_lit ?_
      refine LG_val (want0 rfl) rfl rfl HH303 (Y_fad (off := 2) (r := 2) HH303 rfl (by kernel_rfl) rfl rfl) (fun aa306 HH306 => ?_)
      clear HH303
      refine LG_val (want0 rfl) rfl rfl HH306 (Y_load HH306 rfl (by kernel_rfl) rfl (SS302.p3.cell 2)) (fun aa307 HH307 => ?_)
      clear HH306
      refine LG_val (want0 rfl) rfl rfl HH307 (Y_lenS HH307 rfl (by kernel_rfl) rfl) (fun aa308 HH308 => ?_)
      clear HH307
      refine LG_val (want0 rfl) rfl rfl HH308 (Y_mov HH308 rfl rfl) (fun aa309 HH309 => ?_)
      clear HH308
      refine L_end (t_norm (hKK305 _ _ ?_))
      refine wp_block ?_
      refine c_loop (σ := Nat) (fun (j2 : Nat) a wx => ∃ (ys : List Int) (wv : Value), Fr a 237 [(1, VI (nn : Int)), (14, VB false), (15, VPt b15 0), (16, VP d 0), (17, VP h 0), (24, wv), (25, VI ((l : Int) - 1)), (26, VPt b26 0), (27, VB true), (202, VI r.data.length), (203, VI j2)] ∧ j2 ≤ r.data.length ∧ ys.length = r.data.length ∧ Sat wx [Ints (.slice a6 r.data.length c6) ys, Ints wv (linesOf (cfgOf s) mrs (l - 1) ++ [((l : Int) - 1)]), DRep d (cfgOf s) mrs, HRep h (cfgOf s) nn hrs, cel b26 32 [VI r.st, VI r.hd, .slice a6 r.data.length c6], cel b15 26 ((cfgOf s).cells (.slice pa (cfgOf s).init.length pc)), Old w]) (fun j2 => r.data.length - j2) (0) ?_ ?_
      · exact ⟨r.data, _, HH309.sub rfl, Nat.zero_le _, rfl, SS302.p7.p7.p5.p6.p7.p6.p7.t7⟩
      clear HH309
      clear SS302
      rintro j2 aa310 ww310 ⟨ys, wv2, HH310, hj2, hys, SS310⟩
      refine wp_seq_k fun KK311 hKK311 => ?_
      refine wp_region_lit ?_
      by_cases hjl2 : (j2 : Int) < (r.data.length : Int)
      ·
        refine LG_val (want0 rfl) rfl rfl HH310 (Y_yes (Y_lss HH310 rfl rfl rfl) (hjl2)) (fun aa312 HH312 => ?_)
        clear HH310
        refine L_end (t_norm (hKK311 _ _ ?_))
        refine wp_seq_k fun KK313 hKK313 => ?_
        refine c_yes HH312 rfl ?_
        refine wp_skip (t_norm (hKK313 _ _ ?_))
        refine wp_seq_k fun KK314 hKK314 => ?_
        refine wp_block ?_
        refine wp_seq_k fun KK315 hKK315 => ?_
        refine wp_region_lit ?_
        refine LG_val (want0 rfl) rfl rfl HH312 (Y_mov HH312 rfl rfl) (fun aa316 HH316 => ?_)
        clear HH312
        refine LG_val (want0 rfl) rfl rfl HH316 (Y_asg HH316 rfl rfl) (fun aa317 HH317 => ?_)
        clear HH316
        refine L_end (t_norm (hKK315 _ _ ?_))
        obtain ⟨b7, o7, e7⟩ := Ints.some SS310 hys (by omega)
        have cj2 := Ints.atE e7 hys SS310 j2 (by omega)
        refine wp_region_lit ?_
        refine LG_val (want0 rfl) rfl rfl HH317 (Y_fad (off := 2) (r := 2) HH317 rfl (by kernel_rfl) rfl rfl) (fun aa318 HH318 => ?_)
        clear HH317
        refine LG_val (want0 rfl) rfl rfl HH318 (Y_load HH318 rfl (by kernel_rfl) rfl (SS310.p4.cell 2)) (fun aa319 HH319 => ?_)
        clear HH318
        refine LG_val (want0 rfl) rfl rfl HH319 (Y_mov HH319 rfl rfl) (fun aa320 HH320 => ?_)
        clear HH319
        refine LG_val (want0 rfl) rfl rfl HH320 (Y_idxE (q := o7 + j2) HH320 rfl ty_ints rfl e7 rfl (by omega) (by omega) (by simp)) (fun aa321 HH321 => ?_)
        clear HH320
        refine LG_val (want0 rfl) rfl rfl HH321 (Y_load HH321 rfl (by kernel_rfl) rfl cj2) (fun aa322 HH322 => ?_)
        clear HH321
        refine LG_val (want0 rfl) rfl rfl HH322 (Y_xor HH322 rfl rfl rfl (rfl)) (fun aa323 HH323 => ?_)
        clear HH322
        refine LG_val (want0 rfl) rfl rfl HH323 (Y_idxE (q := o7 + j2) HH323 rfl ty_ints rfl e7 rfl (by omega) (by omega) (by simp)) (fun aa324 HH324 => ?_)
        clear HH323
        refine LG_do0 (want0 rfl) rfl HH324 (M_storeI HH324 rfl j2 rfl rfl e7 SS310 hys (by omega)) ?_
        rintro _ ww325 SS325 aa325 HH325
        clear HH324
        clear SS310
        refine L_end (b_norm (t_norm (hKK314 _ _ ?_)))
        refine wp_region_lit ?_
        refine LG_val (want0 rfl) rfl rfl HH325 (Y_add HH325 rfl rfl rfl (IntWalk.i64_in _ (by omega))) (fun aa326 HH326 => ?_)
        clear HH325
        refine LG_val (want0 rfl) rfl rfl HH326 (Y_mov HH326 rfl rfl) (fun aa327 HH327 => ?_)
        clear HH326
        refine L_end (t_norm ?_)
        exact ⟨j2 + 1, ⟨_, _, HH327.sub rfl, by omega, (by rw [List.length_set]; exact hys), SS325.p6.p6.p6.p6.p6.p6.p6.t7⟩, by first | omega | (dsimp only; omega)⟩
      ·
        refine LG_val (want0 rfl) rfl rfl HH310 (Y_no (Y_lss HH310 rfl rfl rfl) (hjl2)) (fun aa328 HH328 => ?_)
        clear HH310
        refine L_end (t_norm (hKK311 _ _ ?_))
        refine wp_seq_k fun KK329 hKK329 => ?_
        refine c_no HH328 rfl ?_
        refine wp_exit (t_exit (t_exit (b_exit (t_norm (hKK304 _ _ ?_)))))
        refine wp_seq_k fun KK330 hKK330 => ?_
        refine wp_region_lit ?_
        refine LG_val (want0 rfl) rfl rfl HH328 (Y_mov HH328 rfl rfl) (fun aa331 HH331 => ?_)
        clear HH328
        refine LG_val (want0 rfl) rfl rfl HH331 (Y_mov HH331 rfl rfl) (fun aa332 HH332 => ?_)
        clear HH331
        refine LG_call (want0 rfl) rfl rfl rfl Try.func15 (by kernel_rfl) rfl HH332 (drow_some SS310.p2 ((l : Int) - 1) (by rw [hxy]; exact hj) hr hry) rfl ?_
        rintro e ww333 ⟨u7, rfl, SS333⟩
        obtain ⟨a7, c7, rfl, _, _⟩ := Ints.val SS333
        refine ⟨_, rfl, fun aa333 HH333 => ?_⟩
        clear HH332
        clear SS310
        refine LG_val (want0 rfl) rfl rfl HH333 (Y_mov HH333 rfl rfl) (fun aa334 HH334 => ?_)
        clear HH333
        refine LG_val (want0 rfl) rfl rfl HH334 (Y_ext HH334 rfl rfl rfl) (fun aa335 HH335 => ?_)
        clear HH334
        refine LG_val (want0 rfl) rfl rfl HH335 (Y_ext HH335 rfl rfl rfl) (fun aa336 HH336 => ?_)
        clear HH335
        refine LG_do (want0 rfl) rfl rfl HH336 (M_alloc HH336 rfl st_memdir_Row.zero SS333) ?_
        rintro _ ww337 ⟨b29, rfl, SS337, _⟩ aa337 HH337
        clear HH336
        clear SS333
        refine LG_do0 (want0 rfl) rfl HH337 (M_storeS HH337 rfl rfl rfl SS337 st_memdir_Row.size rfl rfl (one_row _ _ _ _ _)) ?_
        rintro _ ww338 ⟨SS338, _⟩ aa338 HH338
        clear HH337
        clear SS337
        refine LG_val (want0 rfl) rfl rfl HH338 (Y_asg HH338 rfl rfl) (fun aa339 HH339 => ?_)
        clear HH338
        refine L_end (t_norm (hKK330 _ _ ?_))
        refine wp_seq_k fun KK340 hKK340 => ?_
        obtain ⟨pa9, pn9, pc9, ra, rk, vs, hvs, S9⟩ := HRep.open2 SS338.p5.p1.p2
        clear SS338
        have SS338 := S9
        clear S9
        obtain ⟨v, hv⟩ := rw_at hvs hr2
        obtain ⟨va, vc, rfl, _, _⟩ := Rd.val (Ints.rd (Sat.mem SS338.tail.tail.tail.tail (List.mem_append_left _ (rwData_mem _ _ _ _ _ hr2 hv))))
        obtain ⟨rb, ro, era⟩ := Sl.some SS338.p3 (by have := inv.len; omega)
        -- region 37, drawn
        refine N_begin (fun w' => Sat w' _) (.val 0 (.val 1 (.val 2 (.val 3 (.val 4 (.val 5 (.val 6 (.val 7 (.one 8 (.val 9 .fin)))))))))) (by kernel_rfl) (by kernel_rfl) (by kernel_rfl) (by kernel_rfl) (fun _ _ _ _ _ h => h) (SS338.p3.p3.p3.p3.t4.drew) (fun ww341 SN341 hw341 => ?_)
        have SS341 := SS338.drew
        rw [← hw341] at SS341
        clear hw341 SN341
        clear SS338
        refine N_val rfl (want0 rfl) rfl rfl HH339 (fun ww341 SN => Y_loadS HH339 rfl rfl SN.p1 st_memdir_Row.und st_memdir_Row.size) (fun aa342 HH342 => ?_)
        clear HH339
        refine N_val rfl (want0 rfl) rfl rfl HH342 (fun ww341 SN => Y_mov HH342 rfl rfl) (fun aa343 HH343 => ?_)
        clear HH342
        refine N_val rfl (want0 rfl) rfl rfl HH343 (fun ww341 SN => Y_chk HH343 rfl rfl) (fun aa344 HH344 => ?_)
        clear HH343
        refine N_val rfl (want0 rfl) rfl rfl HH344 (fun ww341 SN => Y_fad (off := 9) (r := 9) HH344 rfl (by kernel_rfl) rfl rfl) (fun aa345 HH345 => ?_)
        clear HH344
        refine N_val rfl (want0 rfl) rfl rfl HH345 (fun ww341 SN => Y_load HH345 rfl (by kernel_rfl) rfl (SN.p2.cell 9)) (fun aa346 HH346 => ?_)
        clear HH345
        refine N_val rfl (want0 rfl) rfl rfl HH346 (fun ww341 SN => Y_mov HH346 rfl rfl) (fun aa347 HH347 => ?_)
        clear HH346
        refine N_val rfl (want0 rfl) rfl rfl HH347 (fun ww341 SN => Y_idxE (q := ro + y * 3) HH347 rfl ty_rows rfl era rfl (by omega) (by have := inv.len; omega) (by rw [hxy, Int.toNat_natCast])) (fun aa348 HH348 => ?_)
        clear HH347
        refine N_val rfl (want0 rfl) rfl rfl HH348 (fun ww341 SN => Y_loadC HH348 rfl rfl (HRep.rowAt era hvs rfl SN.p3 y r _ hr2 hv _ rfl) st_chapletref07_Row.und st_chapletref07_Row.size) (fun aa349 HH349 => ?_)
        clear HH348
        refine N_call rfl (want0 rfl) rfl rfl rfl Try.func54 (by kernel_rfl) rfl HH349 (samerow_ok r.st r.hd a7 va r.data.length c7 r.data.length vc r.data (fun _ h => Ints.rd h) (fun _ h => Ints.rd (Sat.mem h.tail.tail.tail.tail (List.mem_append_left _ (rwData_mem _ _ _ _ _ hr2 hv)))) SS341.p3.p3.p3.p3) rfl ?_
        rintro e ww350 ⟨rfl, SS350⟩
        refine ⟨_, rfl, SS350.p3.p3.p3.p3.t4, fun aa350 HH350 => ?_⟩
        clear HH349
        clear SS341
        refine N_val rfl (want0 rfl) rfl rfl HH350 (fun ww350 SN => Y_not HH350 rfl rfl) (fun aa351 HH351 => ?_)
        clear HH350
        refine N_end (t_norm (hKK340 _ _ ?_))
        refine c_no HH351 rfl ?_
        refine wp_skip (b_norm (t_norm (hKK242 _ _ ?_)))
        have S9 := HRep.shut2 hvs SS350.p3.p3.p3.p3
        clear SS350
        have SS350 := S9
        clear S9
        refine wp_region_lit ?_
        refine LG_val (want0 rfl) rfl rfl HH351 (Y_mov HH351 rfl rfl) (fun aa352 HH352 => ?_)
        clear HH351
        refine LG_val (want0 rfl) rfl rfl HH352 (Y_add (r := (((l + 1 : Nat) : Int) - 1)) HH352 rfl rfl rfl (by rw [IntWalk.i64_in _ (by omega)]; omega)) (fun aa353 HH353 => ?_)
        clear HH352
        refine LG_val (want0 rfl) rfl rfl HH353 (Y_asg HH353 rfl rfl) (fun aa354 HH354 => ?_)
        clear HH353
        refine L_end (t_norm ?_)
        have ely : l = y + 1 := by omega
        have ew : linesOf (cfgOf s) mrs (l + 1 - 1) = linesOf (cfgOf s) mrs (l - 1) ++ [((l : Int) - 1)] := by subst ely; rw [show y + 1 + 1 - 1 = y + 1 from rfl, linesOf_succ, hj, hxy]; rfl
        exact ⟨l + 1, ⟨_, HH354.sub rfl, by omega, by rw [ew]; exact SS350.p8.p8.p4.p5.p7.t5⟩, by first | omega | (dsimp only; omega)⟩
    ·
      have hno := inv.not hh
      refine wp_region_lit ?_
      refine LG_val (want0 rfl) rfl rfl HH241 (Y_mov HH241 rfl rfl) (fun aa355 HH355 => ?_)
      clear HH241
      refine LG_val (want0 rfl) rfl rfl HH355 (Y_mov HH355 rfl rfl) (fun aa356 HH356 => ?_)
      clear HH355
      refine LG_call (want0 rfl) rfl rfl rfl Try.func15 (by kernel_rfl) rfl HH356 (drow_none SS235.p1 ((l : Int) - 1) hno) rfl ?_
      rintro e ww357 ⟨u6, rfl, SS357⟩
      obtain ⟨a6, c6, rfl, _, _⟩ := Ints.val SS357
      refine ⟨_, rfl, fun aa357 HH357 => ?_⟩
      clear HH356
      clear SS235
      refine LG_val (want0 rfl) rfl rfl HH357 (Y_mov HH357 rfl rfl) (fun aa358 HH358 => ?_)
      clear HH357
      refine LG_val (want0 rfl) rfl rfl HH358 (Y_ext HH358 rfl rfl rfl) (fun aa359 HH359 => ?_)
      clear HH358
      refine LG_val (want0 rfl) rfl rfl HH359 (Y_ext HH359 rfl rfl rfl) (fun aa360 HH360 => ?_)
      clear HH359
      refine LG_do (want0 rfl) rfl rfl HH360 (M_alloc HH360 rfl st_memdir_Row.zero SS357) ?_
      rintro _ ww361 ⟨b26, rfl, SS361, _⟩ aa361 HH361
      clear HH360
      clear SS357
      refine LG_do0 (want0 rfl) rfl HH361 (M_storeS HH361 rfl rfl rfl SS361 st_memdir_Row.size rfl rfl (one_row _ _ _ _ _)) ?_
      rintro _ ww362 ⟨SS362, _⟩ aa362 HH362
      clear HH361
      clear SS361
      refine LG_val (want0 rfl) rfl rfl HH362 (Y_asg HH362 rfl rfl) (fun aa363 HH363 => ?_)
      clear HH362
      refine L_end (t_norm (hKK243 _ _ ?_))
      refine wp_seq_k fun KK364 hKK364 => ?_
      refine wp_seq_k fun KK365 hKK365 => ?_
      -- region 27, drawn
      refine N_begin (fun w' => Sat w' _) (.val 0 (.val 1 (.val 2 (.one 3 (.val 4 (.val 5 (.val 6 (.val 7 (.val 8 (.val 9 (.val 10 (.val 11 (.val 12 (.val 13 (.val 14 (.val 15 (.val 16 (.val 17 (.val 18 (.val 19 (.val 20 (.val 21 (.val 22 (.val 23 (.val 24 (.val 25 (.val 26 (.val 27 (.val 28 (.val 29 (.val 30 (.val 31 (.val 32 (.val 33 (.val 34 (.val 35 (.val 36 (.val 37 (.val 38 (.val 39 .fin)))))))))))))))))))))))))))))))))))))))) (by kernel_rfl) (by kernel_rfl) (by kernel_rfl) (by kernel_rfl) (fun _ _ _ _ _ h => h) (SS362.t1.drew) (fun ww366 SN366 hw366 => ?_)
      have SS366 := SS362.drew
      rw [← hw366] at SS366
      clear hw366 SN366
      clear SS362
      refine N_val rfl (want0 rfl) rfl rfl HH363 (fun ww366 SN => Y_mov HH363 rfl rfl) (fun aa367 HH367 => ?_)
      clear HH363
      refine N_val rfl (want0 rfl) rfl rfl HH367 (fun ww366 SN => Y_mov HH367 rfl rfl) (fun aa368 HH368 => ?_)
      clear HH367
      refine N_val rfl (want0 rfl) rfl rfl HH368 (fun ww366 SN => Y_mov HH368 rfl rfl) (fun aa369 HH369 => ?_)
      clear HH368
      refine N_call rfl (want0 rfl) rfl rfl rfl Try.func53 (by kernel_rfl) rfl HH369 (here_ok hc ((l : Int) - 1) SS366.p4) rfl ?_
      rintro e ww370 ⟨rfl, SS370⟩
      rw [show decide (isHere (cfgOf s) nn ((l : Int) - 1)) = false from decide_eq_false hh]
      refine ⟨_, rfl, SS370.p1.t1, fun aa370 HH370 => ?_⟩
      clear HH369
      clear SS366
      refine N_val rfl (want0 rfl) rfl rfl HH370 (fun ww370 SN => Y_to (Y_neqB HH370 rfl (by kernel_rfl) rfl rfl) (rfl)) (fun aa371 HH371 => ?_)
      clear HH370
      refine N_val rfl (want0 rfl) rfl rfl HH371 (fun ww370 SN => Y_mov HH371 rfl rfl) (fun aa372 HH372 => ?_)
      clear HH371
      refine N_val rfl (HH372.want rfl rfl rfl) rfl rfl HH372 (fun ww370 SN => Y_mov HH372 rfl rfl) (fun aa373 HH373 => ?_)
      clear HH372
      refine N_val rfl (HH373.want rfl rfl rfl) rfl rfl HH373 (fun ww370 SN => Y_mov HH373 rfl rfl) (fun aa374 HH374 => ?_)
      clear HH373
      refine N_skip rfl (HH374.unwant rfl rfl rfl rfl) rfl rfl HH374 (fun aa375 HH375 => ?_)
      clear HH374
      refine N_skip rfl (HH375.unwant rfl rfl rfl rfl) rfl rfl HH375 (fun aa376 HH376 => ?_)
      clear HH375
      refine N_skip rfl (HH376.unwant rfl rfl rfl rfl) rfl rfl HH376 (fun aa377 HH377 => ?_)
      clear HH376
      refine N_skip rfl (HH377.unwant rfl rfl rfl rfl) rfl rfl HH377 (fun aa378 HH378 => ?_)
      clear HH377
      refine N_skip rfl (HH378.unwant rfl rfl rfl rfl) rfl rfl HH378 (fun aa379 HH379 => ?_)
      clear HH378
      refine N_skip rfl (HH379.unwant rfl rfl rfl rfl) rfl rfl HH379 (fun aa380 HH380 => ?_)
      clear HH379
      refine N_skip rfl (HH380.unwant rfl rfl rfl rfl) rfl rfl HH380 (fun aa381 HH381 => ?_)
      clear HH380
      refine N_skip rfl (HH381.unwant rfl rfl rfl rfl) rfl rfl HH381 (fun aa382 HH382 => ?_)
      clear HH381
      refine N_skip rfl (HH382.unwant rfl rfl rfl rfl) rfl rfl HH382 (fun aa383 HH383 => ?_)
      clear HH382
      refine N_skip rfl (HH383.unwant rfl rfl rfl rfl) rfl rfl HH383 (fun aa384 HH384 => ?_)
      clear HH383
      refine N_val rfl (HH384.want rfl rfl rfl) rfl rfl HH384 (fun ww370 SN => Y_pickF HH384 rfl rfl rfl) (fun aa385 HH385 => ?_)
      clear HH384
      refine N_val rfl (want0 rfl) rfl rfl HH385 (fun ww370 SN => Y_pickF HH385 rfl rfl rfl) (fun aa386 HH386 => ?_)
      clear HH385
      refine N_val rfl (want0 rfl) rfl rfl HH386 (fun ww370 SN => Y_mov HH386 rfl rfl) (fun aa387 HH387 => ?_)
      clear HH386
      refine N_val rfl (HH387.want rfl rfl rfl) rfl rfl HH387 (fun ww370 SN => Y_mov HH387 rfl rfl) (fun aa388 HH388 => ?_)
      clear HH387
      refine N_val rfl (HH388.want rfl rfl rfl) rfl rfl HH388 (fun ww370 SN => Y_not HH388 rfl rfl) (fun aa389 HH389 => ?_)
      clear HH388
      refine N_val rfl (HH389.want rfl rfl rfl) rfl rfl HH389 (fun ww370 SN => Y_mov HH389 rfl rfl) (fun aa390 HH390 => ?_)
      clear HH389
      refine N_val rfl (HH390.want rfl rfl rfl) rfl rfl HH390 (fun ww370 SN => Y_fad (off := 1) (r := 1) HH390 rfl (by kernel_rfl) rfl rfl) (fun aa391 HH391 => ?_)
      clear HH390
      refine N_val rfl (HH391.want rfl rfl rfl) rfl rfl HH391 (fun ww370 SN => Y_load HH391 rfl (by kernel_rfl) rfl (SN.cell 1)) (fun aa392 HH392 => ?_)
      clear HH391
      refine N_val rfl (HH392.want rfl rfl rfl) rfl rfl HH392 (fun ww370 SN => Y_no (Y_neq HH392 rfl rfl rfl) (by simp)) (fun aa393 HH393 => ?_)
      clear HH392
      refine N_val rfl (HH393.want rfl rfl rfl) rfl rfl HH393 (fun ww370 SN => Y_mov HH393 rfl rfl) (fun aa394 HH394 => ?_)
      clear HH393
      refine N_val rfl (HH394.want rfl rfl rfl) rfl rfl HH394 (fun ww370 SN => Y_fad (off := 0) (r := 0) HH394 rfl (by kernel_rfl) rfl rfl) (fun aa395 HH395 => ?_)
      clear HH394
      refine N_val rfl (HH395.want rfl rfl rfl) rfl rfl HH395 (fun ww370 SN => Y_load HH395 rfl (by kernel_rfl) rfl (SN.cell 0)) (fun aa396 HH396 => ?_)
      clear HH395
      refine N_val rfl (HH396.want rfl rfl rfl) rfl rfl HH396 (fun ww370 SN => Y_no (Y_neq HH396 rfl rfl rfl) (by simp)) (fun aa397 HH397 => ?_)
      clear HH396
      refine N_val rfl (HH397.want rfl rfl rfl) rfl rfl HH397 (fun ww370 SN => Y_pickF HH397 rfl rfl rfl) (fun aa398 HH398 => ?_)
      clear HH397
      refine N_val rfl (HH398.want rfl rfl rfl) rfl rfl HH398 (fun ww370 SN => Y_mov HH398 rfl rfl) (fun aa399 HH399 => ?_)
      clear HH398
      refine N_val rfl (HH399.want rfl rfl rfl) rfl rfl HH399 (fun ww370 SN => Y_fad (off := 2) (r := 2) HH399 rfl (by kernel_rfl) rfl rfl) (fun aa400 HH400 => ?_)
      clear HH399
      refine N_val rfl (HH400.want rfl rfl rfl) rfl rfl HH400 (fun ww370 SN => Y_load HH400 rfl (by kernel_rfl) rfl (SN.cell 2)) (fun aa401 HH401 => ?_)
      clear HH400
      refine N_val rfl (HH401.want rfl rfl rfl) rfl rfl HH401 (fun ww370 SN => Y_lenS HH401 rfl (by kernel_rfl) rfl) (fun aa402 HH402 => ?_)
      clear HH401
      refine N_val rfl (HH402.want rfl rfl rfl) rfl rfl HH402 (fun ww370 SN => Y_no (Y_neq HH402 rfl rfl rfl) (by simp)) (fun aa403 HH403 => ?_)
      clear HH402
      refine N_val rfl (HH403.want rfl rfl rfl) rfl rfl HH403 (fun ww370 SN => Y_pickF HH403 rfl rfl rfl) (fun aa404 HH404 => ?_)
      clear HH403
      refine N_val rfl (HH404.want rfl rfl rfl) rfl rfl HH404 (fun ww370 SN => Y_pickT HH404 rfl rfl rfl) (fun aa405 HH405 => ?_)
      clear HH404
      refine N_val rfl (want0 rfl) rfl rfl HH405 (fun ww370 SN => Y_pickF HH405 rfl rfl rfl) (fun aa406 HH406 => ?_)
      clear HH405
      refine N_end (t_norm (hKK365 _ _ ?_))
      refine c_no HH406 rfl ?_
      refine wp_skip (t_norm (hKK364 _ _ ?_))
      refine wp_seq_k fun KK407 hKK407 => ?_
      refine wp_region_lit ?_
      refine LG_val (want0 rfl) rfl rfl HH406 (Y_mov HH406 rfl rfl) (fun aa408 HH408 => ?_)
      clear HH406
      refine L_end (t_norm (hKK407 _ _ ?_))
      refine c_no HH408 rfl ?_
      refine wp_skip (b_norm (t_norm (hKK242 _ _ ?_)))
      refine wp_region_lit ?_
      refine LG_val (want0 rfl) rfl rfl HH408 (Y_mov HH408 rfl rfl) (fun aa409 HH409 => ?_)
      clear HH408
      refine LG_val (want0 rfl) rfl rfl HH409 (Y_add (r := (((l + 1 : Nat) : Int) - 1)) HH409 rfl rfl rfl (by rw [IntWalk.i64_in _ (by omega)]; omega)) (fun aa410 HH410 => ?_)
      clear HH409
      refine LG_val (want0 rfl) rfl rfl HH410 (Y_asg HH410 rfl rfl) (fun aa411 HH411 => ?_)
      clear HH410
      refine L_end (t_norm ?_)
      have ew : linesOf (cfgOf s) mrs (l + 1 - 1) = linesOf (cfgOf s) mrs (l - 1) := by
        cases l with
        | zero => rfl
        | succ q => rw [show q + 1 + 1 - 1 = q + 1 from rfl, linesOf_succ, show ((q : Int)) = ((q + 1 : Nat) : Int) - 1 by omega, hno]; simp
      exact ⟨l + 1, ⟨_, HH411.sub rfl, by omega, by rw [ew]; exact SS370.p6.p6.p2.p5.p6.t5⟩, by first | omega | (dsimp only; omega)⟩
  ·
    refine LG_val (want0 rfl) rfl rfl HH240 (Y_no (Y_leq HH240 rfl rfl rfl) (hle)) (fun aa412 HH412 => ?_)
    clear HH240
    refine L_end (t_norm (hKK237 _ _ ?_))
    refine c_no HH412 rfl ?_
    refine wp_exit (t_exit (t_exit (b_exit (t_norm (hKK232 _ _ ?_)))))
    refine wp_seq_k fun KK413 hKK413 => ?_
    have ew : linesOf (cfgOf s) mrs (l - 1) = linesOf (cfgOf s) mrs (cfgOf s).lines := by
      rw [show l - 1 = (cfgOf s).lines + 1 by omega, linesOf_succ, inv.not (x := ((cfgOf s).lines : Int)) (fun hq => by have := hq.2.1; omega)]; simp
    rw [ew] at SS235
    refine wp_region_lit ?_
    refine LG_val (want0 rfl) rfl rfl HH412 (Y_mov HH412 rfl rfl) (fun aa414 HH414 => ?_)
    clear HH412
    refine LG_call (want0 rfl) rfl rfl rfl Try.func14 (by kernel_rfl) rfl HH414 (dlines_ok hc SS235.p1) rfl ?_
    rintro e ww415 ⟨v39, rfl, SS415⟩
    refine ⟨_, rfl, fun aa415 HH415 => ?_⟩
    clear HH414
    clear SS235
    refine LG_val (want0 rfl) rfl rfl HH415 (Y_mov HH415 rfl rfl) (fun aa416 HH416 => ?_)
    clear HH415
    refine LG_call (want0 rfl) rfl rfl rfl Try.func38 (by kernel_rfl) rfl HH416 (ksame_ok (Ints.rd SS415) (Ints.rd SS415.p2)) rfl ?_
    rintro e ww417 ⟨rfl, hk⟩
    have SS417 := hk.sat SS415
    rw [show (linesOf (cfgOf s) mrs (cfgOf s).lines == linesOf (cfgOf s) mrs (cfgOf s).lines) = true from by simp]
    refine ⟨_, rfl, fun aa417 HH417 => ?_⟩
    clear HH416
    clear SS415
    refine LG_val (want0 rfl) rfl rfl HH417 (Y_mov HH417 rfl rfl) (fun aa418 HH418 => ?_)
    clear HH417
    refine LG_call (HH418.want rfl rfl rfl) rfl rfl rfl Try.func16 (by kernel_rfl) rfl HH418 (wakes09_ok SS417) rfl ?_
    rintro e ww419 ⟨rfl, SS419⟩
    refine ⟨_, rfl, fun aa419 HH419 => ?_⟩
    clear HH418
    clear SS417
    refine LG_val (want0 rfl) rfl rfl HH419 (Y_pickT HH419 rfl rfl rfl) (fun aa420 HH420 => ?_)
    clear HH419
    refine LG_val (want0 rfl) rfl rfl HH420 (Y_asg HH420 rfl rfl) (fun aa421 HH421 => ?_)
    clear HH420
    refine L_end (t_norm (hKK413 _ _ ?_))
    refine wp_ret (ret1 rfl HH421 rfl ?_)
    exact ⟨rfl, SS419.p5.below⟩
end Go.Proofs.Ytaekiecidbhjhaa
