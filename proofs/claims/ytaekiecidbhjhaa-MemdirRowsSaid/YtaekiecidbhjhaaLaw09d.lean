/- MemdirRows: the walk of the law. Printed by wip/specs/law09d.py. -/
import Derived.Test.YtaekiecidbhjhaaRows9
namespace Go.Proofs.Ytaekiecidbhjhaa
open Go.RowKit

set_option maxRecDepth 100000 in
theorem memdirRows_ok {w : World} (s : Stp) (v1 v2 v3 v4 v5 : Value) (vx : Value) (xs : List Int) (hr1 : RdI w v1 s.init) (hb : s.init.length * 8 ≤ 140737488355328) (hrx : RdI w vx xs) :
    Calls Try.prog 9 #[s.val v1 v2 v3 v4 v5, vx] w fun e w' => e = .returned (VB true) ∧ Below w.heap.size w w' := by
  obtain ⟨a1, c1, rfl, _, _⟩ := hrx.val
  have S := Sat.old w
  have hc := cfgOf_small s
  have hnd0 := hc.n0
  have hnd1 := hc.n1
  have hln0 := hc.l0
  have hln1 := hc.l1
  have hwd0 := hc.w0
  have hwd1 := hc.w1
  refine enter (n := 146) Try.func9 rfl [(0, s.val v1 v2 v3 v4 v5), (1, .slice a1 xs.length c1)] rfl rfl fun aa0 HH0 => ?_
  refine wp_seq_k fun KK1 hKK1 => ?_
  refine wp_region_lit ?_
  refine LG_do (want0 rfl) rfl rfl HH0 (M_box HH0 rfl rfl rfl S) ?_
  rintro _ ww2 ⟨b2, rfl, SS2, _⟩ aa2 HH2
  clear HH0
  clear S
  refine LG_val (want0 rfl) rfl rfl HH2 (Y_asg HH2 rfl rfl) (fun aa3 HH3 => ?_)
  clear HH2
  refine L_end (t_norm (hKK1 _ _ ?_))
  refine wp_seq_k fun KK4 hKK4 => ?_
  refine wp_region_lit ?_
  refine LG_val (want0 rfl) rfl rfl HH3 (Y_loadS HH3 rfl rfl SS2 st_chapletplay_Setup.und st_chapletplay_Setup.size) (fun aa5 HH5 => ?_)
  clear HH3
  refine LG_call (want0 rfl) rfl rfl rfl Try.func12 (by kernel_rfl) rfl HH5 (config_ok s v1 v2 v3 v4 v5 (fun w' h => RdI.old hr1 h.p1) hb SS2) rfl ?_
  rintro e ww6 ⟨v6, rfl, SS6⟩
  obtain ⟨pa, pc, rfl, _, _⟩ := Ints.val SS6
  refine ⟨_, rfl, fun aa6 HH6 => ?_⟩
  clear HH5
  clear SS2
  refine LG_do (want0 rfl) rfl rfl HH6 (M_alloc HH6 rfl st_api_Config.zero SS6) ?_
  rintro _ ww7 ⟨b5, rfl, SS7, _⟩ aa7 HH7
  clear HH6
  clear SS6
  refine LG_do0 (want0 rfl) rfl HH7 (M_storeS HH7 rfl rfl rfl SS7 st_api_Config.size rfl rfl (one_cfg (cfgOf s) _ _ _)) ?_
  rintro _ ww8 ⟨SS8, _⟩ aa8 HH8
  clear HH7
  clear SS7
  refine L_end (t_norm (hKK4 _ _ ?_))
  refine wp_seq_k fun KK9 hKK9 => ?_
  refine wp_region_lit ?_
  refine LG_val (want0 rfl) rfl rfl HH8 (Y_loadS HH8 rfl rfl SS8 st_api_Config.und st_api_Config.size) (fun aa10 HH10 => ?_)
  clear HH8
  refine LG_call (want0 rfl) rfl rfl rfl Try.func13 (by kernel_rfl) rfl HH10 (dnew_ok (cfgOf s) hc _ 0 (fun w' h => Ints.rd h.p1) SS8.p1.p1) rfl ?_
  rintro e ww11 ⟨d, rfl, SS11⟩
  refine ⟨_, rfl, fun aa11 HH11 => ?_⟩
  clear HH10
  clear SS8
  refine LG_val (want0 rfl) rfl rfl HH11 (Y_asg HH11 rfl rfl) (fun aa12 HH12 => ?_)
  clear HH11
  refine L_end (t_norm (hKK9 _ _ ?_))
  refine wp_seq_k fun KK13 hKK13 => ?_
  refine wp_seq_k fun KK14 hKK14 => ?_
  refine wp_region_lit ?_
  refine LG_val (want0 rfl) rfl rfl HH12 (Y_mov HH12 rfl rfl) (fun aa15 HH15 => ?_)
  clear HH12
  refine LG_val (want0 rfl) rfl rfl HH15 (Y_to (Y_eqlP HH15 rfl (by kernel_rfl) rfl rfl) (rfl)) (fun aa16 HH16 => ?_)
  clear HH15
  refine L_end (t_norm (hKK14 _ _ ?_))
  refine c_no HH16 rfl ?_
  refine wp_skip (t_norm (hKK13 _ _ ?_))
  refine wp_seq_k fun KK17 hKK17 => ?_
  refine wp_region_lit ?_
  refine LG_do (want0 rfl) rfl rfl HH16 (Q_makeMap HH16 rfl SS11) ?_
  rintro _ ww18 ⟨b7, rfl, SS18⟩ aa18 HH18
  clear HH16
  clear SS11
  replace SS18 := LRep.nil SS18
  refine LG_val (want0 rfl) rfl rfl HH18 (Y_asg HH18 rfl rfl) (fun aa19 HH19 => ?_)
  clear HH18
  refine L_end (t_norm (hKK17 _ _ ?_))
  refine wp_seq_k fun KK20 hKK20 => ?_
  refine wp_seq_k fun KK21 hKK21 => ?_
  refine wp_region_lit ?_
  refine LG_val (want0 rfl) rfl rfl HH19 (Y_mov HH19 rfl rfl) (fun aa22 HH22 => ?_)
  clear HH19
  refine LG_call (want0 rfl) rfl rfl rfl Try.func14 (by kernel_rfl) rfl HH22 (dlines_ok hc SS18.p1) rfl ?_
  rintro e ww23 ⟨v28, rfl, SS23⟩
  rw [lines_keys] at SS23
  obtain ⟨al, cl, rfl, _, _⟩ := Ints.val SS23
  have hll : (rwKeys (rows0 (cfgOf s) 0 (cfgOf s).lines)).length ≤ 8 := by rw [← lines_keys]; exact Nat.le_trans (linesOf_len _ _ _) hln1
  have hkl : (rwKeys (rows0 (cfgOf s) 0 (cfgOf s).lines)).length = (rows0 (cfgOf s) 0 (cfgOf s).lines).length := List.length_map _
  refine ⟨_, rfl, fun aa23 HH23 => ?_⟩
  clear HH22
  clear SS18
  refine LG_val (want0 rfl) rfl rfl HH23 (Y_lenS HH23 rfl (by kernel_rfl) rfl) (fun aa24 HH24 => ?_)
  clear HH23
  refine LG_val (want0 rfl) rfl rfl HH24 (Y_mov HH24 rfl rfl) (fun aa25 HH25 => ?_)
  clear HH24
  refine L_end (t_norm (hKK21 _ _ ?_))
  refine wp_block ?_
  refine c_loop (σ := Nat) (fun (i : Nat) a wx => Fr a 146 [(1, .slice a1 xs.length c1), (4, VB false), (5, VPt b5 0), (6, VP d 0), (7, .map (some b7)), (28, (.slice al (rwKeys (rows0 (cfgOf s) 0 (cfgOf s).lines)).length cl)), (29, VI (rwKeys (rows0 (cfgOf s) 0 (cfgOf s).lines)).length), (30, VI i)] ∧ i ≤ (rwKeys (rows0 (cfgOf s) 0 (cfgOf s).lines)).length ∧ Sat wx [Ints (.slice al (rwKeys (rows0 (cfgOf s) 0 (cfgOf s).lines)).length cl) (rwKeys (rows0 (cfgOf s) 0 (cfgOf s).lines)), LRep b7 ((rows0 (cfgOf s) 0 (cfgOf s).lines).take i), DRep d (cfgOf s) (rows0 (cfgOf s) 0 (cfgOf s).lines), cel b5 26 ((cfgOf s).cells (.slice pa (cfgOf s).init.length pc)), Old w]) (fun i => (rwKeys (rows0 (cfgOf s) 0 (cfgOf s).lines)).length - i) (0) ?_ ?_
  · exact ⟨HH25.sub rfl, by omega, SS23.p6.p4.p3.p4.p4.t5⟩
  clear HH25
  clear SS23
  rintro i aa26 ww26 ⟨HH26, hi, SS26⟩
  refine wp_seq_k fun KK27 hKK27 => ?_
  refine wp_region_lit ?_
  by_cases hlt : (i : Int) < ((rwKeys (rows0 (cfgOf s) 0 (cfgOf s).lines)).length : Int)
  ·
    refine LG_val (want0 rfl) rfl rfl HH26 (Y_yes (Y_lss HH26 rfl rfl rfl) (hlt)) (fun aa28 HH28 => ?_)
    clear HH26
    refine L_end (t_norm (hKK27 _ _ ?_))
    refine wp_seq_k fun KK29 hKK29 => ?_
    refine c_yes HH28 rfl ?_
    refine wp_skip (t_norm (hKK29 _ _ ?_))
    refine wp_seq_k fun KK30 hKK30 => ?_
    refine wp_block ?_
    refine wp_seq_k fun KK31 hKK31 => ?_
    obtain ⟨r, hr⟩ : ∃ r, (rows0 (cfgOf s) 0 (cfgOf s).lines)[i]? = some r := ⟨(rows0 (cfgOf s) 0 (cfgOf s).lines)[i]'(by omega), List.getElem?_eq_getElem _⟩
    have hki : (rwKeys (rows0 (cfgOf s) 0 (cfgOf s).lines))[i]? = some r.line := by rw [List.getElem?_map, hr]; rfl
    have hg : (rwKeys (rows0 (cfgOf s) 0 (cfgOf s).lines)).getD i 0 = r.line := by rw [List.getD_eq_getElem?_getD, hki]; rfl
    obtain ⟨b8, o8, e8⟩ := Ints.some SS26 rfl (by omega)
    have c8 := Ints.atE e8 rfl SS26 i (by omega)
    rw [hg] at c8
    have hs0 := rows0_sorted (cfgOf s) 0 (cfgOf s).lines
    have hj := keyAt_of hs0 hki
    have hrw := (Iv.init (cfgOf s)).2 i r hr
    refine wp_region_lit ?_
    refine LG_val (want0 rfl) rfl rfl HH28 (Y_idxE (q := o8 + i) HH28 rfl ty_ints rfl e8 rfl (by omega) (by omega) (by simp)) (fun aa32 HH32 => ?_)
    clear HH28
    refine LG_val (want0 rfl) rfl rfl HH32 (Y_load HH32 rfl (by kernel_rfl) rfl c8) (fun aa33 HH33 => ?_)
    clear HH32
    refine LG_val (want0 rfl) rfl rfl HH33 (Y_asg HH33 rfl rfl) (fun aa34 HH34 => ?_)
    clear HH33
    refine L_end (t_norm (hKK31 _ _ ?_))
    refine wp_seq_k fun KK35 hKK35 => ?_
    refine wp_region_lit ?_
    refine LG_val (want0 rfl) rfl rfl HH34 (Y_mov HH34 rfl rfl) (fun aa36 HH36 => ?_)
    clear HH34
    refine LG_val (want0 rfl) rfl rfl HH36 (Y_mov HH36 rfl rfl) (fun aa37 HH37 => ?_)
    clear HH36
    refine LG_call (want0 rfl) rfl rfl rfl Try.func15 (by kernel_rfl) rfl HH37 (drow_some SS26.p2 r.line hj hr (by omega)) rfl ?_
    rintro e ww38 ⟨u9, rfl, SS38⟩
    obtain ⟨a9, c9, rfl, _, _⟩ := Ints.val SS38
    refine ⟨_, rfl, fun aa38 HH38 => ?_⟩
    clear HH37
    clear SS26
    refine LG_val (want0 rfl) rfl rfl HH38 (Y_mov HH38 rfl rfl) (fun aa39 HH39 => ?_)
    clear HH38
    refine LG_val (want0 rfl) rfl rfl HH39 (Y_ext HH39 rfl rfl rfl) (fun aa40 HH40 => ?_)
    clear HH39
    refine LG_val (want0 rfl) rfl rfl HH40 (Y_ext HH40 rfl rfl rfl) (fun aa41 HH41 => ?_)
    clear HH40
    refine LG_do (want0 rfl) rfl rfl HH41 (M_alloc HH41 rfl st_memdir_Row.zero SS38) ?_
    rintro _ ww42 ⟨b10, rfl, SS42, _⟩ aa42 HH42
    clear HH41
    clear SS38
    refine LG_do0 (want0 rfl) rfl HH42 (M_storeS HH42 rfl rfl rfl SS42 st_memdir_Row.size rfl rfl (one_row _ _ _ _ _)) ?_
    rintro _ ww43 ⟨SS43, _⟩ aa43 HH43
    clear HH42
    clear SS42
    refine LG_val (want0 rfl) rfl rfl HH43 (Y_asg HH43 rfl rfl) (fun aa44 HH44 => ?_)
    clear HH43
    refine L_end (t_norm (hKK35 _ _ ?_))
    refine wp_seq_k fun KK45 hKK45 => ?_
    refine wp_seq_k fun KK46 hKK46 => ?_
    refine wp_region_lit ?_
    refine LG_val (want0 rfl) rfl rfl HH44 (Y_mov HH44 rfl rfl) (fun aa47 HH47 => ?_)
    clear HH44
    refine LG_val (want0 rfl) rfl rfl HH47 (Y_not HH47 rfl rfl) (fun aa48 HH48 => ?_)
    clear HH47
    refine L_end (t_norm (hKK46 _ _ ?_))
    refine c_no HH48 rfl ?_
    refine wp_skip (t_norm (hKK45 _ _ ?_))
    refine wp_region_lit ?_
    refine LG_val (want0 rfl) rfl rfl HH48 (Y_mov HH48 rfl rfl) (fun aa49 HH49 => ?_)
    clear HH48
    refine LG_val (want0 rfl) rfl rfl HH49 (Y_mov HH49 rfl rfl) (fun aa50 HH50 => ?_)
    clear HH49
    refine LG_val (want0 rfl) rfl rfl HH50 (Y_fad (off := 2) (r := 2) HH50 rfl (by kernel_rfl) rfl rfl) (fun aa51 HH51 => ?_)
    clear HH50
    refine LG_val (want0 rfl) rfl rfl HH51 (Y_load HH51 rfl (by kernel_rfl) rfl (SS43.cell 2)) (fun aa52 HH52 => ?_)
    clear HH51
    refine LG_call (want0 rfl) rfl rfl rfl Try.func19 (by kernel_rfl) rfl HH52 (copy_ok (Ints.rd SS43.p1) (by omega) SS43) rfl ?_
    rintro e ww53 ⟨x0, rfl, SS53, _⟩
    refine ⟨_, rfl, fun aa53 HH53 => ?_⟩
    clear HH52
    clear SS43
    refine LG_do0 (want0 rfl) rfl HH53 (L_new HH53 rfl mt_mi rfl rfl rfl SS53.p5.p1 (by have := keyAt_take hs0 hki; simpa [rwKeys, List.map_take] using this)) ?_
    rintro _ ww54 SS54 aa54 HH54
    clear HH53
    clear SS53
    refine L_end (b_norm (t_norm (hKK30 _ _ ?_)))
    refine wp_region_lit ?_
    refine LG_val (want0 rfl) rfl rfl HH54 (Y_add HH54 rfl rfl rfl (IntWalk.i64_in _ (by omega))) (fun aa55 HH55 => ?_)
    clear HH54
    refine LG_val (want0 rfl) rfl rfl HH55 (Y_mov HH55 rfl rfl) (fun aa56 HH56 => ?_)
    clear HH55
    refine L_end (t_norm ?_)
    exact ⟨i + 1, ⟨HH56.sub rfl, by omega, by rw [take_more hr]; exact SS54.p6.p6.p5.p3.p6.t5⟩, by first | omega | (dsimp only; omega)⟩
  ·
    refine LG_val (want0 rfl) rfl rfl HH26 (Y_no (Y_lss HH26 rfl rfl rfl) (hlt)) (fun aa57 HH57 => ?_)
    clear HH26
    refine L_end (t_norm (hKK27 _ _ ?_))
    refine wp_seq_k fun KK58 hKK58 => ?_
    refine c_no HH57 rfl ?_
    refine wp_exit (t_exit (t_exit (b_exit (t_norm (hKK20 _ _ ?_)))))
    refine c_cut (fun a wx => ∃ mrs : List Rw, Fr a 146 [(1, .slice a1 xs.length c1), (4, VB false), (5, VPt b5 0), (6, VP d 0), (7, .map (some b7))] ∧ Iv (cfgOf s) mrs ∧ Sat wx [LRep b7 mrs, DRep d (cfgOf s) mrs, cel b5 26 ((cfgOf s).cells (.slice pa (cfgOf s).init.length pc)), Old w]) ?_ ?_
    ·
      refine wp_seq_k fun KK59 hKK59 => ?_
      have etk : (rows0 (cfgOf s) 0 (cfgOf s).lines).take i = (rows0 (cfgOf s) 0 (cfgOf s).lines) := List.take_of_length_le (by omega)
      rw [etk] at SS26
      refine wp_region_lit ?_
      refine LG_val (want0 rfl) rfl rfl HH57 (Y_asg HH57 rfl rfl) (fun aa60 HH60 => ?_)
      clear HH57
      refine L_end (t_norm (hKK59 _ _ ?_))
      refine wp_block ?_
      refine c_loop (σ := Nat) (fun (i2 : Nat) a wx => ∃ mrs : List Rw, Fr a 146 [(1, .slice a1 xs.length c1), (4, VB false), (5, VPt b5 0), (6, VP d 0), (7, .map (some b7)), (12, VI i2)] ∧ i2 ≤ 12 ∧ Iv (cfgOf s) mrs ∧ Sat wx [LRep b7 mrs, DRep d (cfgOf s) mrs, cel b5 26 ((cfgOf s).cells (.slice pa (cfgOf s).init.length pc)), Old w]) (fun i2 => 12 - i2) (0) ?_ ?_
      · exact ⟨_, HH60.sub rfl, by omega, Iv.init _, SS26.p4.p4.p4.p4.t4⟩
      clear HH60
      clear SS26
      rintro i2 aa61 ww61 ⟨mrs, HH61, hi12, iv, SS61⟩
      refine wp_seq_k fun KK62 hKK62 => ?_
      refine wp_seq_k fun KK63 hKK63 => ?_
      refine wp_region_lit ?_
      refine LG_val (want0 rfl) rfl rfl HH61 (Y_mov HH61 rfl rfl) (fun aa64 HH64 => ?_)
      clear HH61
      refine LG_val (want0 rfl) rfl rfl HH64 (Y_mov HH64 rfl rfl) (fun aa65 HH65 => ?_)
      clear HH64
      refine LG_val (want0 rfl) rfl rfl HH65 (Y_lenS HH65 rfl (by kernel_rfl) rfl) (fun aa66 HH66 => ?_)
      clear HH65
      by_cases hx1 : (i2 : Int) < (xs.length : Int)
      ·
        refine LG_val (want0 rfl) rfl rfl HH66 (Y_yes (Y_lss HH66 rfl rfl rfl) (hx1)) (fun aa67 HH67 => ?_)
        clear HH66
        refine LG_val (want0 rfl) rfl rfl HH67 (Y_mov HH67 rfl rfl) (fun aa68 HH68 => ?_)
        clear HH67
        refine LG_val (HH68.want rfl rfl rfl) rfl rfl HH68 (Y_mov HH68 rfl rfl) (fun aa69 HH69 => ?_)
        clear HH68
        by_cases hx2 : (i2 : Int) < 12
        ·
          refine LG_val (HH69.want rfl rfl rfl) rfl rfl HH69 (Y_yes (Y_lss HH69 rfl rfl rfl) (hx2)) (fun aa70 HH70 => ?_)
          clear HH69
          refine LG_val (want0 rfl) rfl rfl HH70 (Y_pickT HH70 rfl rfl rfl) (fun aa71 HH71 => ?_)
          clear HH70
          refine L_end (t_norm (hKK63 _ _ ?_))
          refine c_yes HH71 rfl ?_
          refine wp_skip (t_norm (hKK62 _ _ ?_))
          refine wp_seq_k fun KK72 hKK72 => ?_
          refine wp_block ?_
          refine wp_seq_k fun KK73 hKK73 => ?_
          -- region 17, drawn
          obtain ⟨bx, ox, ex, _⟩ := RdI.some (RdI.old hrx SS61.p3) (by omega)
          refine N_begin (fun w' => Sat w' _) (.val 0 (.val 1 (.val 2 (.val 3 (.val 4 (.val 5 (.one 6 (.val 7 .fin)))))))) (by kernel_rfl) (by kernel_rfl) (by kernel_rfl) (by kernel_rfl) (fun _ _ _ _ _ h => h) (SS61.p3.p3.t2.drew) (fun ww74 SN74 hw74 => ?_)
          have SS74 := SS61.drew
          rw [← hw74] at SS74
          clear hw74 SN74
          clear SS61
          refine N_val rfl (want0 rfl) rfl rfl HH71 (fun ww74 SN => Y_mov HH71 rfl rfl) (fun aa75 HH75 => ?_)
          clear HH71
          refine N_val rfl (want0 rfl) rfl rfl HH75 (fun ww74 SN => Y_mov HH75 rfl rfl) (fun aa76 HH76 => ?_)
          clear HH75
          refine N_val rfl (want0 rfl) rfl rfl HH76 (fun ww74 SN => Y_idxE (q := ox + i2) HH76 rfl ty_ints rfl ex rfl (by omega) (by omega) (by simp)) (fun aa77 HH77 => ?_)
          clear HH76
          refine N_val rfl (want0 rfl) rfl rfl HH77 (fun ww74 SN => Y_load HH77 rfl (by kernel_rfl) rfl (RdI.atE (RdI.old hrx SN.p1) ex i2 (by omega))) (fun aa78 HH78 => ?_)
          clear HH77
          refine N_val rfl (want0 rfl) rfl rfl HH78 (fun ww74 SN => Y_fad (off := 1) (r := 1) HH78 rfl (by kernel_rfl) rfl rfl) (fun aa79 HH79 => ?_)
          clear HH78
          refine N_val rfl (want0 rfl) rfl rfl HH79 (fun ww74 SN => Y_load HH79 rfl (by kernel_rfl) rfl (SN.cell 1)) (fun aa80 HH80 => ?_)
          clear HH79
          refine N_call rfl (want0 rfl) rfl rfl rfl Try.func17 (by kernel_rfl) rfl HH80 (within_ok (xs.getD i2 0) (((cfgOf s).lines : Int)) (by omega)) rfl ?_
          rintro e ww81 ⟨rfl, rfl⟩
          have hw0 := within_lo (xs.getD i2 0) ((cfgOf s).lines : Int)
          have hw1 := within_hi (xs.getD i2 0) ((cfgOf s).lines : Int) (by omega)
          obtain ⟨y, hy⟩ : ∃ y : Nat, within (xs.getD i2 0) ((cfgOf s).lines : Int) = (y : Int) := ⟨(within (xs.getD i2 0) ((cfgOf s).lines : Int)).toNat, by omega⟩
          rw [hy] at hw0 hw1 ⊢
          have hyl : y < (cfgOf s).lines := by omega
          refine ⟨_, rfl, SS74.p3.p3.t2, fun aa81 HH81 => ?_⟩
          clear HH80
          refine N_val rfl (want0 rfl) rfl rfl HH81 (fun ww74 SN => Y_asg HH81 rfl rfl) (fun aa82 HH82 => ?_)
          clear HH81
          refine N_end (t_norm (hKK73 _ _ ?_))
          refine wp_seq_k fun KK83 hKK83 => ?_
          refine wp_seq_k fun KK84 hKK84 => ?_
          refine wp_region_lit ?_
          refine LG_val (want0 rfl) rfl rfl HH82 (Y_mov HH82 rfl rfl) (fun aa85 HH85 => ?_)
          clear HH82
          refine LG_val (want0 rfl) rfl rfl HH85 (Y_fad (off := 0) (r := 0) HH85 rfl (by kernel_rfl) rfl rfl) (fun aa86 HH86 => ?_)
          clear HH85
          refine LG_val (want0 rfl) rfl rfl HH86 (Y_load HH86 rfl (by kernel_rfl) rfl (SS74.p2.cell 0)) (fun aa87 HH87 => ?_)
          clear HH86
          refine LG_val (want0 rfl) rfl rfl HH87 (Y_rem (r := ((y % (cfgOf s).nodes : Nat) : Int)) HH87 rfl rfl rfl (by omega) (by rw [Int.tmod_eq_emod_of_nonneg (by omega)]; exact (Int.natCast_emod _ _).symm)) (fun aa88 HH88 => ?_)
          clear HH87
          by_cases hm0 : ((y % (cfgOf s).nodes : Nat) : Int) ≠ 0
          ·
            refine LG_val (want0 rfl) rfl rfl HH88 (Y_yes (Y_neq HH88 rfl rfl rfl) (hm0)) (fun aa89 HH89 => ?_)
            clear HH88
            refine L_end (t_norm (hKK84 _ _ ?_))
            refine c_yes HH89 rfl ?_
            refine wp_exit (t_exit (b_exit (t_norm (hKK72 _ _ ?_))))
            refine wp_region_lit ?_
            refine LG_val (want0 rfl) rfl rfl HH89 (Y_mov HH89 rfl rfl) (fun aa90 HH90 => ?_)
            clear HH89
            refine LG_val (want0 rfl) rfl rfl HH90 (Y_add HH90 rfl rfl rfl (IntWalk.i64_in _ (by omega))) (fun aa91 HH91 => ?_)
            clear HH90
            refine LG_val (want0 rfl) rfl rfl HH91 (Y_asg HH91 rfl rfl) (fun aa92 HH92 => ?_)
            clear HH91
            refine L_end (t_norm ?_)
            exact ⟨i2 + 1, ⟨mrs, HH92.sub rfl, by omega, iv, SS74.p3.p3.p3.p3.t4⟩, by first | omega | (dsimp only; omega)⟩
          ·
            refine LG_val (want0 rfl) rfl rfl HH88 (Y_no (Y_neq HH88 rfl rfl rfl) (hm0)) (fun aa93 HH93 => ?_)
            clear HH88
            refine L_end (t_norm (hKK84 _ _ ?_))
            refine c_no HH93 rfl ?_
            refine wp_skip (t_norm (hKK83 _ _ ?_))
            refine wp_seq_k fun KK94 hKK94 => ?_
            refine wp_region_lit ?_
            refine LG_val (want0 rfl) rfl rfl HH93 (Y_fad (off := 2) (r := 2) HH93 rfl (by kernel_rfl) rfl rfl) (fun aa95 HH95 => ?_)
            clear HH93
            refine LG_val (want0 rfl) rfl rfl HH95 (Y_load HH95 rfl (by kernel_rfl) rfl (SS74.p2.cell 2)) (fun aa96 HH96 => ?_)
            clear HH95
            refine LG_do (want0 rfl) rfl rfl HH96 (M_make (N := (cfgOf s).words) (zv := VI 0) HH96 rfl ty_ints (by kernel_rfl) rfl rfl (by omega) SS74) ?_
            rintro _ ww97 ⟨b14, rfl, SS97⟩ aa97 HH97
            clear HH96
            clear SS74
            replace SS97 := Sat.zeroInts SS97
            refine LG_val (want0 rfl) rfl rfl HH97 (Y_asg HH97 rfl rfl) (fun aa98 HH98 => ?_)
            clear HH97
            refine L_end (t_norm (hKK94 _ _ ?_))
            refine wp_seq_k fun KK99 hKK99 => ?_
            refine wp_seq_k fun KK100 hKK100 => ?_
            refine wp_region_lit ?_
            refine LG_val (want0 rfl) rfl rfl HH98 (Y_mov HH98 rfl rfl) (fun aa101 HH101 => ?_)
            clear HH98
            refine LG_val (want0 rfl) rfl rfl HH101 (Y_lenS HH101 rfl (by kernel_rfl) rfl) (fun aa102 HH102 => ?_)
            clear HH101
            refine LG_val (want0 rfl) rfl rfl HH102 (Y_mov HH102 rfl rfl) (fun aa103 HH103 => ?_)
            clear HH102
            refine L_end (t_norm (hKK100 _ _ ?_))
            refine wp_block ?_
            refine c_loop (σ := Nat) (fun (j2 : Nat) a wx => ∃ ys : List Int, Fr a 146 [(1, .slice a1 xs.length c1), (4, VB false), (5, VPt b5 0), (6, VP d 0), (7, .map (some b7)), (12, VI i2), (13, VI y), (14, (.slice (some ⟨b14, 0, none⟩) (cfgOf s).words (cfgOf s).words)), (74, VI (cfgOf s).words), (75, VI j2)] ∧ j2 ≤ (cfgOf s).words ∧ ys.length = (cfgOf s).words ∧ Sat wx [Ints (.slice (some ⟨b14, 0, none⟩) (cfgOf s).words (cfgOf s).words) ys, LRep b7 mrs, DRep d (cfgOf s) mrs, cel b5 26 ((cfgOf s).cells (.slice pa (cfgOf s).init.length pc)), Old w]) (fun j2 => (cfgOf s).words - j2) (0) ?_ ?_
            · exact ⟨_, HH103.sub rfl, Nat.zero_le _, List.length_replicate, SS97.p4.p4.p4.p4.p4.t5⟩
            clear HH103
            clear SS97
            rintro j2 aa104 ww104 ⟨ys, HH104, hj2, hys, SS104⟩
            refine wp_seq_k fun KK105 hKK105 => ?_
            refine wp_region_lit ?_
            by_cases hjl : (j2 : Int) < ((cfgOf s).words : Int)
            ·
              refine LG_val (want0 rfl) rfl rfl HH104 (Y_yes (Y_lss HH104 rfl rfl rfl) (hjl)) (fun aa106 HH106 => ?_)
              clear HH104
              refine L_end (t_norm (hKK105 _ _ ?_))
              refine wp_seq_k fun KK107 hKK107 => ?_
              refine c_yes HH106 rfl ?_
              refine wp_skip (t_norm (hKK107 _ _ ?_))
              refine wp_seq_k fun KK108 hKK108 => ?_
              refine wp_block ?_
              refine wp_seq_k fun KK109 hKK109 => ?_
              refine wp_region_lit ?_
              refine LG_val (want0 rfl) rfl rfl HH106 (Y_mov HH106 rfl rfl) (fun aa110 HH110 => ?_)
              clear HH106
              refine LG_val (want0 rfl) rfl rfl HH110 (Y_asg HH110 rfl rfl) (fun aa111 HH111 => ?_)
              clear HH110
              refine L_end (t_norm (hKK109 _ _ ?_))
              refine wp_region_lit ?_
              refine LG_val (want0 rfl) rfl rfl HH111 (Y_mov HH111 rfl rfl) (fun aa112 HH112 => ?_)
              clear HH111
              refine LG_val (want0 rfl) rfl rfl HH112 (Y_mov HH112 rfl rfl) (fun aa113 HH113 => ?_)
              clear HH112
              refine LG_val (want0 rfl) rfl rfl HH113 (Y_mov HH113 rfl rfl) (fun aa114 HH114 => ?_)
              clear HH113
              refine LG_val (want0 rfl) rfl rfl HH114 (Y_mov HH114 rfl rfl) (fun aa115 HH115 => ?_)
              clear HH114
              refine LG_val (want0 rfl) rfl rfl HH115 (Y_idxE (q := ox + i2) HH115 rfl ty_ints rfl ex rfl (by omega) (by omega) (by simp)) (fun aa116 HH116 => ?_)
              clear HH115
              refine LG_val (want0 rfl) rfl rfl HH116 (Y_load HH116 rfl (by kernel_rfl) rfl (RdI.atE (RdI.old hrx SS104.p4) ex i2 (by omega))) (fun aa117 HH117 => ?_)
              clear HH116
              refine LG_val (want0 rfl) rfl rfl HH117 (Y_mov HH117 rfl rfl) (fun aa118 HH118 => ?_)
              clear HH117
              refine LG_val (want0 rfl) rfl rfl HH118 (Y_sub HH118 rfl rfl rfl (rfl)) (fun aa119 HH119 => ?_)
              clear HH118
              refine LG_val (want0 rfl) rfl rfl HH119 (Y_idx (q := 0 + j2) HH119 rfl ty_ints rfl rfl (by omega) (by omega) (by simp)) (fun aa120 HH120 => ?_)
              clear HH119
              refine LG_do0 (want0 rfl) rfl HH120 (M_storeI HH120 rfl j2 rfl rfl rfl SS104 hys (by omega)) ?_
              rintro _ ww121 SS121 aa121 HH121
              clear HH120
              clear SS104
              refine L_end (b_norm (t_norm (hKK108 _ _ ?_)))
              refine wp_region_lit ?_
              refine LG_val (want0 rfl) rfl rfl HH121 (Y_add HH121 rfl rfl rfl (IntWalk.i64_in _ (by omega))) (fun aa122 HH122 => ?_)
              clear HH121
              refine LG_val (want0 rfl) rfl rfl HH122 (Y_mov HH122 rfl rfl) (fun aa123 HH123 => ?_)
              clear HH122
              refine L_end (t_norm ?_)
              exact ⟨j2 + 1, ⟨_, HH123.sub rfl, by omega, (by rw [List.length_set]; exact hys), SS121.p4.p4.p4.p4.p4.t5⟩, by first | omega | (dsimp only; omega)⟩
            ·
              refine LG_val (want0 rfl) rfl rfl HH104 (Y_no (Y_lss HH104 rfl rfl rfl) (hjl)) (fun aa124 HH124 => ?_)
              clear HH104
              refine L_end (t_norm (hKK105 _ _ ?_))
              refine wp_seq_k fun KK125 hKK125 => ?_
              refine c_no HH124 rfl ?_
              refine wp_exit (t_exit (t_exit (b_exit (t_norm (hKK99 _ _ ?_)))))
              refine c_cut (fun a wx => ∃ mrs : List Rw, Fr a 146 [(1, .slice a1 xs.length c1), (4, VB false), (5, VPt b5 0), (6, VP d 0), (7, .map (some b7)), (12, VI i2)] ∧ Iv (cfgOf s) mrs ∧ Sat wx [LRep b7 mrs, DRep d (cfgOf s) mrs, cel b5 26 ((cfgOf s).cells (.slice pa (cfgOf s).init.length pc)), Old w]) ?_ ?_
              ·
                refine wp_seq_k fun KK126 hKK126 => ?_
                refine wp_region_lit ?_
                refine LG_val (want0 rfl) rfl rfl HH124 (Y_mov HH124 rfl rfl) (fun aa127 HH127 => ?_)
                clear HH124
                refine LG_val (want0 rfl) rfl rfl HH127 (Y_rem (r := ((i2 % 3 : Nat) : Int)) HH127 rfl rfl rfl (by omega) (by rw [Int.tmod_eq_emod_of_nonneg (by omega)]; omega)) (fun aa128 HH128 => ?_)
                clear HH127
                by_cases h3 : ((i2 % 3 : Nat) : Int) = 0
                ·
                  refine LG_val (want0 rfl) rfl rfl HH128 (Y_yes (Y_eql HH128 rfl rfl rfl) (h3)) (fun aa129 HH129 => ?_)
                  clear HH128
                  refine L_end (t_norm (hKK126 _ _ ?_))
                  refine c_yes HH129 rfl ?_
                  refine wp_seq_k fun KK130 hKK130 => ?_
                  obtain ⟨j, r, hj, hr, hrl, hdl⟩ := iv.find y hyl (by omega)
                  refine wp_region_lit ?_
                  refine LG_val (want0 rfl) rfl rfl HH129 (Y_mov HH129 rfl rfl) (fun aa131 HH131 => ?_)
                  clear HH129
                  refine LG_val (want0 rfl) rfl rfl HH131 (Y_mov HH131 rfl rfl) (fun aa132 HH132 => ?_)
                  clear HH131
                  refine LG_call (want0 rfl) rfl rfl rfl Try.func37 (by kernel_rfl) rfl HH132 (dset_ok hc SS104.p2 (y : Int) 1 0 none 0 [] rfl hj hr (fun _ _ => Rd.nil _ _) (by omega) (by omega) (by omega) (by omega) (by omega) (by simp)) rfl ?_
                  rintro e ww133 ⟨rfl, SS133⟩
                  refine ⟨_, rfl, fun aa133 HH133 => ?_⟩
                  clear HH132
                  clear SS104
                  refine LG_val (want0 rfl) rfl rfl HH133 (Y_no (Y_neq HH133 rfl rfl rfl) (by simp)) (fun aa134 HH134 => ?_)
                  clear HH133
                  refine L_end (t_norm (hKK130 _ _ ?_))
                  refine c_no HH134 rfl ?_
                  refine wp_skip (t_norm ?_)
                  replace SS133 := LRep.same (r' := ⟨(y : Int), 1, 0, if ([] : List Int).length = 0 then r.data else []⟩) hr hrl.symm (show (if ([] : List Int).length = 0 then r.data else []) = r.data from if_pos rfl) SS133.p4.p4.p2.p4
                  exact ⟨_, HH134.sub rfl, iv.set (r' := ⟨(y : Int), 1, 0, if ([] : List Int).length = 0 then r.data else []⟩) hr hrl.symm (show (if ([] : List Int).length = 0 then r.data else []).length = _ from hdl), SS133.t4⟩
                ·
                  refine LG_val (want0 rfl) rfl rfl HH128 (Y_no (Y_eql HH128 rfl rfl rfl) (h3)) (fun aa135 HH135 => ?_)
                  clear HH128
                  refine L_end (t_norm (hKK126 _ _ ?_))
                  refine c_no HH135 rfl ?_
                  refine wp_seq_k fun KK136 hKK136 => ?_
                  obtain ⟨j, r, hj, hr, hrl, hdl⟩ := iv.find y hyl (by omega)
                  refine wp_region_lit ?_
                  refine LG_val (want0 rfl) rfl rfl HH135 (Y_mov HH135 rfl rfl) (fun aa137 HH137 => ?_)
                  clear HH135
                  refine LG_val (want0 rfl) rfl rfl HH137 (Y_mov HH137 rfl rfl) (fun aa138 HH138 => ?_)
                  clear HH137
                  refine LG_val (want0 rfl) rfl rfl HH138 (Y_mov HH138 rfl rfl) (fun aa139 HH139 => ?_)
                  clear HH138
                  refine LG_call (want0 rfl) rfl rfl rfl Try.func19 (by kernel_rfl) rfl HH139 (copy_ok (Ints.rd SS104) (by omega) SS104) rfl ?_
                  rintro e ww140 ⟨x0, rfl, SS140, _⟩
                  refine ⟨_, rfl, fun aa140 HH140 => ?_⟩
                  clear HH139
                  clear SS104
                  refine LG_do0 (want0 rfl) rfl HH140 (L_old (r' := ⟨(y : Int), 2, 0, ys⟩) HH140 rfl mt_mi rfl rfl rfl SS140.p2.p1 hj hr hrl.symm) ?_
                  rintro _ ww141 SS141 aa141 HH141
                  clear HH140
                  clear SS140
                  refine L_end (t_norm (hKK136 _ _ ?_))
                  refine wp_seq_k fun KK142 hKK142 => ?_
                  refine wp_seq_k fun KK143 hKK143 => ?_
                  refine wp_region_lit ?_
                  refine LG_val (want0 rfl) rfl rfl HH141 (Y_mov HH141 rfl rfl) (fun aa144 HH144 => ?_)
                  clear HH141
                  refine LG_val (want0 rfl) rfl rfl HH144 (Y_mov HH144 rfl rfl) (fun aa145 HH145 => ?_)
                  clear HH144
                  refine LG_val (want0 rfl) rfl rfl HH145 (Y_mov HH145 rfl rfl) (fun aa146 HH146 => ?_)
                  clear HH145
                  refine LG_call (want0 rfl) rfl rfl rfl Try.func37 (by kernel_rfl) rfl HH146 (dset_ok hc SS141.p1.p2 (y : Int) 2 0 _ _ ys hys hj hr (fun w' h => Ints.rd h) (by omega) (by omega) (by omega) (by omega) (by omega) (.inr hys)) rfl ?_
                  rintro e ww147 ⟨rfl, SS147⟩
                  refine ⟨_, rfl, fun aa147 HH147 => ?_⟩
                  clear HH146
                  clear SS141
                  refine LG_val (want0 rfl) rfl rfl HH147 (Y_no (Y_neq HH147 rfl rfl rfl) (by simp)) (fun aa148 HH148 => ?_)
                  clear HH147
                  refine L_end (t_norm (hKK143 _ _ ?_))
                  refine c_no HH148 rfl ?_
                  refine wp_skip (t_norm (hKK142 _ _ ?_))
                  refine wp_region_lit ?_
                  refine LG_val (want0 rfl) rfl rfl HH148 (Y_mov HH148 rfl rfl) (fun aa149 HH149 => ?_)
                  clear HH148
                  refine LG_val (want0 rfl) rfl rfl HH149 (Y_idx (q := 0 + 0) HH149 rfl ty_ints rfl rfl (by omega) (by omega) (by simp)) (fun aa150 HH150 => ?_)
                  clear HH149
                  refine LG_val (want0 rfl) rfl rfl HH150 (Y_load HH150 rfl (by kernel_rfl) rfl (Ints.atE rfl hys SS147.p1 0 (by omega))) (fun aa151 HH151 => ?_)
                  clear HH150
                  refine LG_val (want0 rfl) rfl rfl HH151 (Y_add HH151 rfl rfl rfl (rfl)) (fun aa152 HH152 => ?_)
                  clear HH151
                  refine LG_val (want0 rfl) rfl rfl HH152 (Y_idx (q := 0 + 0) HH152 rfl ty_ints rfl rfl (by omega) (by omega) (by simp)) (fun aa153 HH153 => ?_)
                  clear HH152
                  refine LG_do0 (want0 rfl) rfl HH153 (M_storeI HH153 rfl 0 rfl rfl rfl SS147.p1 hys (by omega)) ?_
                  rintro _ ww154 SS154 aa154 HH154
                  clear HH153
                  clear SS147
                  refine L_end (t_norm ?_)
                  rw [if_neg (by omega)] at SS154
                  exact ⟨_, HH154.sub rfl, iv.set (r' := ⟨(y : Int), 2, 0, ys⟩) hr hrl.symm hys, SS154.p4.p4.p3.p4.t4⟩
              clear iv
              clear HH124
              clear SS104
              rintro aa155 ww155 ⟨mrs, HH155, iv, SS155⟩
              refine wp_seq_k fun KK156 hKK156 => ?_
              obtain ⟨vs, hvs, S9⟩ := LRep.open3 SS155.p2.p2.p2
              clear SS155
              have SS155 := S9
              clear S9
              refine wp_region_lit ?_
              refine LG_val (want0 rfl) rfl rfl HH155 (Y_mov HH155 rfl rfl) (fun aa157 HH157 => ?_)
              clear HH155
              refine LG_do (want0 rfl) rfl rfl HH157 (M_range HH157 rfl mt_mi rfl SS155) ?_
              rintro _ ww158 ⟨r9, k9, rfl, SS158⟩ aa158 HH158
              clear HH157
              clear SS155
              refine L_end (t_norm (hKK156 _ _ ?_))
              refine wp_block ?_
              refine c_loop (σ := Nat) (fun (k : Nat) a wx => Fr a 146 [(1, .slice a1 xs.length c1), (4, VB false), (5, VPt b5 0), (6, VP d 0), (7, .map (some b7)), (12, VI i2), (110, VPt r9 0)] ∧ Sat wx (MqIt b7 r9 (rwKeys mrs) vs k false :: DRep d (cfgOf s) mrs :: cel b5 26 ((cfgOf s).cells (.slice pa (cfgOf s).init.length pc)) :: (rwData mrs vs ++ [Old w]))) (fun k => k) (k9) ?_ ?_
              · exact ⟨HH158.sub rfl, SS158.p2.p2.p2⟩
              clear HH158
              clear SS158
              rintro k aa159 ww159 ⟨HH159, SS159⟩
              refine wp_seq_k fun KK160 hKK160 => ?_
              refine wp_region_lit ?_
              by_cases hk0 : k = 0
              ·
                refine LG_do (want0 rfl) rfl rfl HH159 (M_next0 HH159 rfl rfl SS159 hk0) ?_
                rintro _ ww161 ⟨rfl, rfl⟩ aa161 HH161
                clear HH159
                refine LG_val (want0 rfl) rfl rfl HH161 (Y_ext HH161 rfl rfl rfl) (fun aa162 HH162 => ?_)
                clear HH161
                refine L_end (t_norm (hKK160 _ _ ?_))
                refine wp_seq_k fun KK163 hKK163 => ?_
                refine c_no HH162 rfl ?_
                refine wp_exit (t_exit (t_exit (b_exit (b_norm (t_norm (hKK72 _ _ ?_))))))
                have S9 := LRep.shut3 hvs (MqIt.shut SS159.p2.p2.p2)
                clear SS159
                have SS159 := S9
                clear S9
                refine wp_region_lit ?_
                refine LG_val (want0 rfl) rfl rfl HH162 (Y_mov HH162 rfl rfl) (fun aa164 HH164 => ?_)
                clear HH162
                refine LG_val (want0 rfl) rfl rfl HH164 (Y_add HH164 rfl rfl rfl (IntWalk.i64_in _ (by omega))) (fun aa165 HH165 => ?_)
                clear HH164
                refine LG_val (want0 rfl) rfl rfl HH165 (Y_asg HH165 rfl rfl) (fun aa166 HH166 => ?_)
                clear HH165
                refine L_end (t_norm ?_)
                exact ⟨i2 + 1, ⟨mrs, HH166.sub rfl, by omega, iv, SS159.p3.p3.p3.p3.t4⟩, by first | omega | (dsimp only; omega)⟩
              ·
                refine LG_do (want0 rfl) rfl rfl HH159 (M_nextS HH159 rfl rfl SS159 hk0) ?_
                rintro _ ww167 ⟨k2, u1, u2, hk2, rfl, SS167⟩ aa167 HH167
                clear HH159
                clear SS159
                refine LG_val (want0 rfl) rfl rfl HH167 (Y_ext HH167 rfl rfl rfl) (fun aa168 HH168 => ?_)
                clear HH167
                refine L_end (t_norm (hKK160 _ _ ?_))
                refine wp_seq_k fun KK169 hKK169 => ?_
                refine c_yes HH168 rfl ?_
                refine wp_skip (t_norm (hKK169 _ _ ?_))
                refine wp_block ?_
                refine wp_seq_k fun KK170 hKK170 => ?_
                refine wp_region_lit ?_
                refine LG_do (want0 rfl) rfl rfl HH168 (M_entry HH168 rfl rfl SS167) ?_
                rintro _ ww171 ⟨j, q, u, hq, hu, rfl, rfl⟩ aa171 HH171
                clear HH168
                obtain ⟨r, hr, rfl⟩ := rwKeys_get hq
                have hmem := rwData_mem _ _ _ _ _ hr hu
                obtain ⟨va, vc, rfl, _, _⟩ := Rd.val (Ints.rd (Sat.mem SS167.p2.p2.p2.tail.tail.tail (List.mem_append_left _ hmem)))
                have hj := keyAt_of iv.sorted hq
                have hrw := iv.2 j r hr
                refine LG_val (want0 rfl) rfl rfl HH171 (Y_ext HH171 rfl rfl rfl) (fun aa172 HH172 => ?_)
                clear HH171
                refine LG_val (want0 rfl) rfl rfl HH172 (Y_ext HH172 rfl rfl rfl) (fun aa173 HH173 => ?_)
                clear HH172
                refine LG_val (want0 rfl) rfl rfl HH173 (Y_asg HH173 rfl rfl) (fun aa174 HH174 => ?_)
                clear HH173
                refine LG_val (want0 rfl) rfl rfl HH174 (Y_asg HH174 rfl rfl) (fun aa175 HH175 => ?_)
                clear HH174
                refine L_end (t_norm (hKK170 _ _ ?_))
                refine wp_seq_k fun KK176 hKK176 => ?_
                refine wp_region_lit ?_
                refine LG_val (want0 rfl) rfl rfl HH175 (Y_mov HH175 rfl rfl) (fun aa177 HH177 => ?_)
                clear HH175
                refine LG_val (want0 rfl) rfl rfl HH177 (Y_mov HH177 rfl rfl) (fun aa178 HH178 => ?_)
                clear HH177
                refine LG_call (want0 rfl) rfl rfl rfl Try.func15 (by kernel_rfl) rfl HH178 (drow_some SS167.p1 r.line hj hr (by omega)) rfl ?_
                rintro e ww179 ⟨u6, rfl, SS179⟩
                obtain ⟨a6, c6, rfl, _, _⟩ := Ints.val SS179
                refine ⟨_, rfl, fun aa179 HH179 => ?_⟩
                clear HH178
                clear SS167
                refine LG_val (want0 rfl) rfl rfl HH179 (Y_mov HH179 rfl rfl) (fun aa180 HH180 => ?_)
                clear HH179
                refine LG_val (want0 rfl) rfl rfl HH180 (Y_ext HH180 rfl rfl rfl) (fun aa181 HH181 => ?_)
                clear HH180
                refine LG_val (want0 rfl) rfl rfl HH181 (Y_ext HH181 rfl rfl rfl) (fun aa182 HH182 => ?_)
                clear HH181
                refine LG_do (want0 rfl) rfl rfl HH182 (M_alloc HH182 rfl st_memdir_Row.zero SS179) ?_
                rintro _ ww183 ⟨b18, rfl, SS183, _⟩ aa183 HH183
                clear HH182
                clear SS179
                refine LG_do0 (want0 rfl) rfl HH183 (M_storeS HH183 rfl rfl rfl SS183 st_memdir_Row.size rfl rfl (one_row _ _ _ _ _)) ?_
                rintro _ ww184 ⟨SS184, _⟩ aa184 HH184
                clear HH183
                clear SS183
                refine LG_val (want0 rfl) rfl rfl HH184 (Y_asg HH184 rfl rfl) (fun aa185 HH185 => ?_)
                clear HH184
                refine L_end (t_norm (hKK176 _ _ ?_))
                refine wp_seq_k fun KK186 hKK186 => ?_
                refine wp_seq_k fun KK187 hKK187 => ?_
                refine wp_region_lit ?_
                refine LG_val (want0 rfl) rfl rfl HH185 (Y_mov HH185 rfl rfl) (fun aa188 HH188 => ?_)
                clear HH185
                refine LG_val (want0 rfl) rfl rfl HH188 (Y_not HH188 rfl rfl) (fun aa189 HH189 => ?_)
                clear HH188
                refine LG_val (want0 rfl) rfl rfl HH189 (Y_mov HH189 rfl rfl) (fun aa190 HH190 => ?_)
                clear HH189
                refine LG_val (HH190.want rfl rfl rfl) rfl rfl HH190 (Y_fad (off := 2) (r := 2) HH190 rfl (by kernel_rfl) rfl rfl) (fun aa191 HH191 => ?_)
                clear HH190
                refine LG_val (HH191.want rfl rfl rfl) rfl rfl HH191 (Y_load HH191 rfl (by kernel_rfl) rfl (SS184.cell 2)) (fun aa192 HH192 => ?_)
                clear HH191
                refine LG_val (HH192.want rfl rfl rfl) rfl rfl HH192 (Y_mov HH192 rfl rfl) (fun aa193 HH193 => ?_)
                clear HH192
                refine LG_call (HH193.want rfl rfl rfl) rfl rfl rfl Try.func38 (by kernel_rfl) rfl HH193 (ksame_ok (Ints.rd SS184.p1) (Ints.rd (Sat.mem SS184.tail.tail.tail.tail.tail (List.mem_append_left _ hmem)))) rfl ?_
                rintro e ww194 ⟨rfl, hk⟩
                have SS194 := hk.sat SS184
                rw [show (r.data == r.data) = true from by simp]
                refine ⟨_, rfl, fun aa194 HH194 => ?_⟩
                clear HH193
                clear SS184
                refine LG_val (HH194.want rfl rfl rfl) rfl rfl HH194 (Y_not HH194 rfl rfl) (fun aa195 HH195 => ?_)
                clear HH194
                refine LG_val (want0 rfl) rfl rfl HH195 (Y_pickF HH195 rfl rfl rfl) (fun aa196 HH196 => ?_)
                clear HH195
                refine L_end (t_norm (hKK187 _ _ ?_))
                refine c_no HH196 rfl ?_
                refine wp_skip (t_norm (hKK186 _ _ ?_))
                obtain ⟨b3, o3, e3⟩ := Ints.some SS194.p1 rfl (by omega)
                have c3 := Ints.atE e3 rfl SS194.p1 0 (by omega)
                refine wp_region_lit ?_
                refine LG_val (want0 rfl) rfl rfl HH196 (Y_fad (off := 2) (r := 2) HH196 rfl (by kernel_rfl) rfl rfl) (fun aa197 HH197 => ?_)
                clear HH196
                refine LG_val (want0 rfl) rfl rfl HH197 (Y_load HH197 rfl (by kernel_rfl) rfl (SS194.cell 2)) (fun aa198 HH198 => ?_)
                clear HH197
                refine LG_val (want0 rfl) rfl rfl HH198 (Y_idxE (q := o3 + 0) HH198 rfl ty_ints rfl e3 rfl (by omega) (by omega) (by simp)) (fun aa199 HH199 => ?_)
                clear HH198
                refine LG_val (want0 rfl) rfl rfl HH199 (Y_load HH199 rfl (by kernel_rfl) rfl c3) (fun aa200 HH200 => ?_)
                clear HH199
                refine LG_val (want0 rfl) rfl rfl HH200 (Y_add HH200 rfl rfl rfl (rfl)) (fun aa201 HH201 => ?_)
                clear HH200
                refine LG_val (want0 rfl) rfl rfl HH201 (Y_idxE (q := o3 + 0) HH201 rfl ty_ints rfl e3 rfl (by omega) (by omega) (by simp)) (fun aa202 HH202 => ?_)
                clear HH201
                refine LG_do0 (want0 rfl) rfl HH202 (M_storeI HH202 rfl 0 rfl rfl e3 SS194.p1 rfl (by omega)) ?_
                rintro _ ww203 SS203 aa203 HH203
                clear HH202
                clear SS194
                refine L_end (b_norm (t_norm ?_))
                exact ⟨k2, ⟨HH203.sub rfl, MqIt.rest (SS203.p4.p3.p4.p4.p4.tail.tail)⟩, by first | omega | (dsimp only; omega)⟩
        ·
          refine LG_val (HH69.want rfl rfl rfl) rfl rfl HH69 (Y_no (Y_lss HH69 rfl rfl rfl) (hx2)) (fun aa204 HH204 => ?_)
          clear HH69
          refine LG_val (want0 rfl) rfl rfl HH204 (Y_pickT HH204 rfl rfl rfl) (fun aa205 HH205 => ?_)
          clear HH204
          refine L_end (t_norm (hKK63 _ _ ?_))
          refine c_no HH205 rfl ?_
          refine wp_exit (t_exit (t_exit (b_exit (t_norm ?_))))
          exact ⟨mrs, HH205.sub rfl, iv, SS61.p3.p3.p3.p3.t4⟩
      ·
        refine LG_val (want0 rfl) rfl rfl HH66 (Y_no (Y_lss HH66 rfl rfl rfl) (hx1)) (fun aa206 HH206 => ?_)
        clear HH66
        refine LG_val (want0 rfl) rfl rfl HH206 (Y_mov HH206 rfl rfl) (fun aa207 HH207 => ?_)
        clear HH206
        refine LG_skip (HH207.unwant rfl rfl rfl rfl) rfl rfl HH207 (fun aa208 HH208 => ?_)
        clear HH207
        refine LG_skip (HH208.unwant rfl rfl rfl rfl) rfl rfl HH208 (fun aa209 HH209 => ?_)
        clear HH208
        refine LG_val (want0 rfl) rfl rfl HH209 (Y_pickF HH209 rfl rfl rfl) (fun aa210 HH210 => ?_)
        clear HH209
        refine L_end (t_norm (hKK63 _ _ ?_))
        refine c_no HH210 rfl ?_
        refine wp_exit (t_exit (t_exit (b_exit (t_norm ?_))))
        exact ⟨mrs, HH210.sub rfl, iv, SS61.p3.p3.p3.p3.t4⟩
    clear HH57
    clear SS26
    rintro aa211 ww211 ⟨mrs, HH211, iv, SS211⟩
    refine wp_seq_k fun KK212 hKK212 => ?_
    have hlen : (linesOf (cfgOf s) mrs (cfgOf s).lines).length = (rwKeys mrs).length := by rw [linesOf_keys iv.1, lines_keys, iv.1]
    refine wp_region_lit ?_
    refine LG_val (want0 rfl) rfl rfl HH211 (Y_mov HH211 rfl rfl) (fun aa213 HH213 => ?_)
    clear HH211
    refine LG_val (want0 rfl) rfl rfl HH213 (Y_lenL HH213 rfl mt_mi rfl SS211) (fun aa214 HH214 => ?_)
    clear HH213
    refine LG_val (want0 rfl) rfl rfl HH214 (Y_mov HH214 rfl rfl) (fun aa215 HH215 => ?_)
    clear HH214
    refine LG_call (want0 rfl) rfl rfl rfl Try.func14 (by kernel_rfl) rfl HH215 (dlines_ok hc SS211.p1) rfl ?_
    rintro e ww216 ⟨v39, rfl, SS216⟩
    obtain ⟨a39, c39, rfl, _, _⟩ := Ints.val SS216
    refine ⟨_, rfl, fun aa216 HH216 => ?_⟩
    clear HH215
    clear SS211
    refine LG_val (want0 rfl) rfl rfl HH216 (Y_lenS HH216 rfl (by kernel_rfl) rfl) (fun aa217 HH217 => ?_)
    clear HH216
    refine LG_val (want0 rfl) rfl rfl HH217 (Y_yes (Y_eql HH217 rfl rfl rfl) (by omega)) (fun aa218 HH218 => ?_)
    clear HH217
    refine LG_val (want0 rfl) rfl rfl HH218 (Y_mov HH218 rfl rfl) (fun aa219 HH219 => ?_)
    clear HH218
    refine LG_call (HH219.want rfl rfl rfl) rfl rfl rfl Try.func16 (by kernel_rfl) rfl HH219 (wakes09_ok SS216) rfl ?_
    rintro e ww220 ⟨rfl, SS220⟩
    refine ⟨_, rfl, fun aa220 HH220 => ?_⟩
    clear HH219
    clear SS216
    refine LG_val (want0 rfl) rfl rfl HH220 (Y_pickT HH220 rfl rfl rfl) (fun aa221 HH221 => ?_)
    clear HH220
    refine LG_val (want0 rfl) rfl rfl HH221 (Y_asg HH221 rfl rfl) (fun aa222 HH222 => ?_)
    clear HH221
    refine L_end (t_norm (hKK212 _ _ ?_))
    refine wp_ret (ret1 rfl HH222 rfl ?_)
    exact ⟨rfl, SS220.p4.below⟩
end Go.Proofs.Ytaekiecidbhjhaa
