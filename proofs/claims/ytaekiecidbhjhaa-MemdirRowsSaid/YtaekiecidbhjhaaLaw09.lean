/- MemdirParts: the walk of the law. Printed by wip/specs/law09.py. -/
import Derived.Test.YtaekiecidbhjhaaDir2
namespace Go.Proofs.Ytaekiecidbhjhaa
open Go.RowKit

def cfgW : Cfg := ⟨2, 2, 1, 1, 1, 1, 1, []⟩
theorem cfgW_small : cfgW.small := ⟨by decide, by decide, by decide, by decide, by decide, by decide, by decide, by decide, by decide, by decide, by decide, by decide, by decide, by decide, by decide⟩
theorem cfgW_none : keyAt (rwKeys (rows0 cfgW 0 cfgW.lines)) 1 = none := rfl
theorem cfgW_some : keyAt (rwKeys (rows0 cfgW 0 cfgW.lines)) 0 = some 0 := rfl
theorem cfgW_row : (rows0 cfgW 0 cfgW.lines)[0]? = some ⟨0, 0, -1, [0]⟩ := rfl
set_option maxRecDepth 100000 in
theorem wakes09_ok {w : World} {l : List HProp} (S : Sat w l) : Calls Try.prog 16 #[] w fun e w' => e = .returned (VB true) ∧ Sat w' l := by
  refine enter (n := 41) Try.func16 rfl [] rfl rfl fun aa0 HH0 => ?_
  refine wp_seq_k fun KK1 hKK1 => ?_
  refine wp_region_lit ?_
  refine LG_val (want0 rfl) rfl rfl HH0 (Y_asg HH0 rfl rfl) (fun aa2 HH2 => ?_)
  clear HH0
  refine L_end (t_norm (hKK1 _ _ ?_))
  refine wp_seq_k fun KK3 hKK3 => ?_
  refine wp_region_lit ?_
  refine LG_val (want0 rfl) rfl rfl HH2 (Y_build (cs := cfgW.cells VNil) HH2 rfl st_api_Config rfl rfl) (fun aa4 HH4 => ?_)
  clear HH2
  refine LG_call (want0 rfl) rfl rfl rfl Try.func13 (by kernel_rfl) rfl HH4 (dnew_ok cfgW cfgW_small VNil 0 (fun _ _ => Rd.nil _ _) S) rfl ?_
  rintro e ww5 ⟨d, rfl, SS5⟩
  refine ⟨_, rfl, fun aa5 HH5 => ?_⟩
  clear HH4
  clear S
  refine LG_val (want0 rfl) rfl rfl HH5 (Y_asg HH5 rfl rfl) (fun aa6 HH6 => ?_)
  clear HH5
  refine L_end (t_norm (hKK3 _ _ ?_))
  refine wp_seq_k fun KK7 hKK7 => ?_
  refine wp_seq_k fun KK8 hKK8 => ?_
  refine wp_region_lit ?_
  refine LG_val (want0 rfl) rfl rfl HH6 (Y_mov HH6 rfl rfl) (fun aa9 HH9 => ?_)
  clear HH6
  refine LG_val (want0 rfl) rfl rfl HH9 (Y_to (Y_eqlP HH9 rfl (by kernel_rfl) rfl rfl) (rfl)) (fun aa10 HH10 => ?_)
  clear HH9
  refine L_end (t_norm (hKK8 _ _ ?_))
  refine c_no HH10 rfl ?_
  refine wp_skip (t_norm (hKK7 _ _ ?_))
  refine wp_seq_k fun KK11 hKK11 => ?_
  refine wp_region_lit ?_
  refine LG_val (want0 rfl) rfl rfl HH10 (Y_mov HH10 rfl rfl) (fun aa12 HH12 => ?_)
  clear HH10
  refine LG_call (want0 rfl) rfl rfl rfl Try.func15 (by kernel_rfl) rfl HH12 (drow_none SS5 1 cfgW_none) rfl ?_
  rintro e ww13 ⟨u1, rfl, SS13⟩
  obtain ⟨a1, c1, rfl, _, _⟩ := Ints.val SS13
  refine ⟨_, rfl, fun aa13 HH13 => ?_⟩
  clear HH12
  clear SS5
  refine LG_val (want0 rfl) rfl rfl HH13 (Y_mov HH13 rfl rfl) (fun aa14 HH14 => ?_)
  clear HH13
  refine LG_val (want0 rfl) rfl rfl HH14 (Y_ext HH14 rfl rfl rfl) (fun aa15 HH15 => ?_)
  clear HH14
  refine LG_val (want0 rfl) rfl rfl HH15 (Y_ext HH15 rfl rfl rfl) (fun aa16 HH16 => ?_)
  clear HH15
  refine LG_do (want0 rfl) rfl rfl HH16 (M_alloc HH16 rfl st_memdir_Row.zero SS13) ?_
  rintro _ ww17 ⟨b2, rfl, SS17, _⟩ aa17 HH17
  clear HH16
  clear SS13
  refine LG_do0 (want0 rfl) rfl HH17 (M_storeS HH17 rfl rfl rfl SS17 st_memdir_Row.size rfl rfl (one_row _ _ _ _ _)) ?_
  rintro _ ww18 ⟨SS18, _⟩ aa18 HH18
  clear HH17
  clear SS17
  refine LG_val (want0 rfl) rfl rfl HH18 (Y_asg HH18 rfl rfl) (fun aa19 HH19 => ?_)
  clear HH18
  refine L_end (t_norm (hKK11 _ _ ?_))
  refine wp_seq_k fun KK20 hKK20 => ?_
  refine wp_region_lit ?_
  refine LG_val (want0 rfl) rfl rfl HH19 (Y_mov HH19 rfl rfl) (fun aa21 HH21 => ?_)
  clear HH19
  refine LG_call (want0 rfl) rfl rfl rfl Try.func15 (by kernel_rfl) rfl HH21 (drow_some SS18.p2 0 cfgW_some cfgW_row (by decide)) rfl ?_
  rintro e ww22 ⟨u2, rfl, SS22⟩
  obtain ⟨a2, c2, rfl, _, _⟩ := Ints.val SS22
  refine ⟨_, rfl, fun aa22 HH22 => ?_⟩
  clear HH21
  clear SS18
  refine LG_val (want0 rfl) rfl rfl HH22 (Y_mov HH22 rfl rfl) (fun aa23 HH23 => ?_)
  clear HH22
  refine LG_val (want0 rfl) rfl rfl HH23 (Y_ext HH23 rfl rfl rfl) (fun aa24 HH24 => ?_)
  clear HH23
  refine LG_val (want0 rfl) rfl rfl HH24 (Y_ext HH24 rfl rfl rfl) (fun aa25 HH25 => ?_)
  clear HH24
  refine LG_do (want0 rfl) rfl rfl HH25 (M_alloc HH25 rfl st_memdir_Row.zero SS22) ?_
  rintro _ ww26 ⟨b4, rfl, SS26, _⟩ aa26 HH26
  clear HH25
  clear SS22
  refine LG_do0 (want0 rfl) rfl HH26 (M_storeS HH26 rfl rfl rfl SS26 st_memdir_Row.size rfl rfl (one_row _ _ _ _ _)) ?_
  rintro _ ww27 ⟨SS27, _⟩ aa27 HH27
  clear HH26
  clear SS26
  refine LG_val (want0 rfl) rfl rfl HH27 (Y_asg HH27 rfl rfl) (fun aa28 HH28 => ?_)
  clear HH27
  refine L_end (t_norm (hKK20 _ _ ?_))
  refine wp_seq_k fun KK29 hKK29 => ?_
  refine wp_region_lit ?_
  refine LG_val (want0 rfl) rfl rfl HH28 (Y_mov HH28 rfl rfl) (fun aa30 HH30 => ?_)
  clear HH28
  refine LG_val (want0 rfl) rfl rfl HH30 (Y_not HH30 rfl rfl) (fun aa31 HH31 => ?_)
  clear HH30
  refine LG_val (want0 rfl) rfl rfl HH31 (Y_mov HH31 rfl rfl) (fun aa32 HH32 => ?_)
  clear HH31
  refine LG_val (HH32.want rfl rfl rfl) rfl rfl HH32 (Y_mov HH32 rfl rfl) (fun aa33 HH33 => ?_)
  clear HH32
  refine LG_val (want0 rfl) rfl rfl HH33 (Y_pickT HH33 rfl rfl rfl) (fun aa34 HH34 => ?_)
  clear HH33
  refine LG_val (want0 rfl) rfl rfl HH34 (Y_mov HH34 rfl rfl) (fun aa35 HH35 => ?_)
  clear HH34
  refine LG_val (HH35.want rfl rfl rfl) rfl rfl HH35 (Y_fad (off := 0) (r := 0) HH35 rfl (by kernel_rfl) rfl rfl) (fun aa36 HH36 => ?_)
  clear HH35
  refine LG_val (HH36.want rfl rfl rfl) rfl rfl HH36 (Y_load HH36 rfl (by kernel_rfl) rfl (SS27.cell 0)) (fun aa37 HH37 => ?_)
  clear HH36
  refine LG_val (HH37.want rfl rfl rfl) rfl rfl HH37 (Y_yes (Y_eql HH37 rfl rfl rfl) (rfl)) (fun aa38 HH38 => ?_)
  clear HH37
  refine LG_val (want0 rfl) rfl rfl HH38 (Y_pickT HH38 rfl rfl rfl) (fun aa39 HH39 => ?_)
  clear HH38
  refine LG_val (want0 rfl) rfl rfl HH39 (Y_mov HH39 rfl rfl) (fun aa40 HH40 => ?_)
  clear HH39
  refine LG_val (HH40.want rfl rfl rfl) rfl rfl HH40 (Y_fad (off := 1) (r := 1) HH40 rfl (by kernel_rfl) rfl rfl) (fun aa41 HH41 => ?_)
  clear HH40
  refine LG_val (HH41.want rfl rfl rfl) rfl rfl HH41 (Y_load HH41 rfl (by kernel_rfl) rfl (SS27.cell 1)) (fun aa42 HH42 => ?_)
  clear HH41
  refine LG_val (HH42.want rfl rfl rfl) rfl rfl HH42 (Y_yes (Y_eql HH42 rfl rfl rfl) (rfl)) (fun aa43 HH43 => ?_)
  clear HH42
  refine LG_val (want0 rfl) rfl rfl HH43 (Y_pickT HH43 rfl rfl rfl) (fun aa44 HH44 => ?_)
  clear HH43
  refine LG_val (want0 rfl) rfl rfl HH44 (Y_mov HH44 rfl rfl) (fun aa45 HH45 => ?_)
  clear HH44
  refine LG_val (HH45.want rfl rfl rfl) rfl rfl HH45 (Y_fad (off := 2) (r := 2) HH45 rfl (by kernel_rfl) rfl rfl) (fun aa46 HH46 => ?_)
  clear HH45
  refine LG_val (HH46.want rfl rfl rfl) rfl rfl HH46 (Y_load HH46 rfl (by kernel_rfl) rfl (SS27.cell 2)) (fun aa47 HH47 => ?_)
  clear HH46
  refine LG_val (HH47.want rfl rfl rfl) rfl rfl HH47 (Y_lenS HH47 rfl (by kernel_rfl) rfl) (fun aa48 HH48 => ?_)
  clear HH47
  refine LG_val (HH48.want rfl rfl rfl) rfl rfl HH48 (Y_yes (Y_eql HH48 rfl rfl rfl) (rfl)) (fun aa49 HH49 => ?_)
  clear HH48
  refine LG_val (want0 rfl) rfl rfl HH49 (Y_pickT HH49 rfl rfl rfl) (fun aa50 HH50 => ?_)
  clear HH49
  refine LG_val (want0 rfl) rfl rfl HH50 (Y_asg HH50 rfl rfl) (fun aa51 HH51 => ?_)
  clear HH50
  refine L_end (t_norm (hKK29 _ _ ?_))
  refine wp_ret (ret1 rfl HH51 rfl ?_)
  exact ⟨rfl, SS27.p4.p4.p4.p4.p4.tail.tail.tail.tail.tail⟩

set_option maxRecDepth 100000 in
theorem memdirParts_ok {w : World} (s : Stp) (v1 v2 v3 v4 v5 : Value) (hr1 : RdI w v1 s.init) (hb : s.init.length * 8 ≤ 140737488355328) :
    Calls Try.prog 3 #[s.val v1 v2 v3 v4 v5] w fun e w' => e = .returned (VB true) ∧ Below w.heap.size w w' := by
  have S := Sat.old w
  refine enter (n := 107) Try.func3 rfl [(0, s.val v1 v2 v3 v4 v5)] rfl rfl fun aa0 HH0 => ?_
  refine wp_seq_k fun KK1 hKK1 => ?_
  refine wp_region_lit ?_
  refine LG_do (want0 rfl) rfl rfl HH0 (M_box HH0 rfl rfl rfl S) ?_
  rintro _ ww2 ⟨b1, rfl, SS2, _⟩ aa2 HH2
  clear HH0
  clear S
  refine LG_val (want0 rfl) rfl rfl HH2 (Y_asg HH2 rfl rfl) (fun aa3 HH3 => ?_)
  clear HH2
  refine L_end (t_norm (hKK1 _ _ ?_))
  refine wp_seq_k fun KK4 hKK4 => ?_
  refine wp_region_lit ?_
  refine LG_val (want0 rfl) rfl rfl HH3 (Y_loadS HH3 rfl rfl SS2 st_chapletplay_Setup.und st_chapletplay_Setup.size) (fun aa5 HH5 => ?_)
  clear HH3
  refine LG_call (want0 rfl) rfl rfl rfl Try.func12 (by kernel_rfl) rfl HH5 (config_ok s v1 v2 v3 v4 v5 (fun w' h => RdI.old hr1 h.p1) hb SS2) rfl ?_
  rintro e ww6 ⟨v6, rfl, SS6⟩
  obtain ⟨pa, pc, rfl, _, _⟩ := Ints.val SS6
  refine ⟨_, rfl, fun aa6 HH6 => ?_⟩
  clear HH5
  clear SS2
  refine LG_do (want0 rfl) rfl rfl HH6 (M_alloc HH6 rfl st_api_Config.zero SS6) ?_
  rintro _ ww7 ⟨b3, rfl, SS7, _⟩ aa7 HH7
  clear HH6
  clear SS6
  refine LG_do0 (want0 rfl) rfl HH7 (M_storeS HH7 rfl rfl rfl SS7 st_api_Config.size rfl rfl (one_cfg (cfgOf s) _ _ _)) ?_
  rintro _ ww8 ⟨SS8, _⟩ aa8 HH8
  clear HH7
  clear SS7
  refine L_end (t_norm (hKK4 _ _ ?_))
  refine wp_seq_k fun KK9 hKK9 => ?_
  refine wp_region_lit ?_
  refine LG_val (want0 rfl) rfl rfl HH8 (Y_asg HH8 rfl rfl) (fun aa10 HH10 => ?_)
  clear HH8
  refine L_end (t_norm (hKK9 _ _ ?_))
  refine wp_seq_k fun KK11 hKK11 => ?_
  refine wp_seq_k fun KK12 hKK12 => ?_
  refine wp_region_lit ?_
  refine LG_val (want0 rfl) rfl rfl HH10 (Y_asg HH10 rfl rfl) (fun aa13 HH13 => ?_)
  clear HH10
  refine L_end (t_norm (hKK12 _ _ ?_))
  refine wp_block ?_
  refine c_loop (σ := Nat) (fun (k : Nat) a wx => Fr a 107 [(2, VB false), (3, VPt b3 0), (4, VI (below (cfgOf s) k)), (5, VI k)] ∧ k ≤ (cfgOf s).nodes ∧ Sat wx [cel b3 26 ((cfgOf s).cells (.slice pa (cfgOf s).init.length pc)), Ints (.slice pa (cfgOf s).init.length pc) (cfgOf s).init, Old w]) (fun k => (cfgOf s).nodes - k) (0) ?_ ?_
  · exact ⟨HH13.sub (by rw [below_zero]; rfl), by omega, SS8.p3.p2.p2.t3⟩
  clear HH13
  clear SS8
  rintro k aa14 ww14 ⟨HH14, hk, SS14⟩
  have hn8 := (cfgOf_small s).n1
  refine wp_seq_k fun KK15 hKK15 => ?_
  refine wp_seq_k fun KK16 hKK16 => ?_
  refine wp_region_lit ?_
  refine LG_val (want0 rfl) rfl rfl HH14 (Y_mov HH14 rfl rfl) (fun aa17 HH17 => ?_)
  clear HH14
  refine LG_val (want0 rfl) rfl rfl HH17 (Y_fad (off := 0) (r := 0) HH17 rfl (by kernel_rfl) rfl rfl) (fun aa18 HH18 => ?_)
  clear HH17
  refine LG_val (want0 rfl) rfl rfl HH18 (Y_load HH18 rfl (by kernel_rfl) rfl (SS14.cell 0)) (fun aa19 HH19 => ?_)
  clear HH18
  by_cases hlt : (k : Int) < ((cfgOf s).nodes : Int)
  ·
    refine LG_val (want0 rfl) rfl rfl HH19 (Y_yes (Y_lss HH19 rfl rfl rfl) (hlt)) (fun aa20 HH20 => ?_)
    clear HH19
    refine L_end (t_norm (hKK16 _ _ ?_))
    refine c_yes HH20 rfl ?_
    refine wp_skip (t_norm (hKK15 _ _ ?_))
    refine wp_seq_k fun KK21 hKK21 => ?_
    refine wp_block ?_
    refine wp_seq_k fun KK22 hKK22 => ?_
    refine wp_region_lit ?_
    refine LG_val (want0 rfl) rfl rfl HH20 (Y_loadS HH20 rfl rfl SS14 st_api_Config.und st_api_Config.size) (fun aa23 HH23 => ?_)
    clear HH20
    refine LG_val (want0 rfl) rfl rfl HH23 (Y_mov HH23 rfl rfl) (fun aa24 HH24 => ?_)
    clear HH23
    refine LG_call (want0 rfl) rfl rfl rfl Try.func13 (by kernel_rfl) rfl HH24 (dnew_ok (cfgOf s) (cfgOf_small s) _ k (fun w' h => Ints.rd h.p1) SS14) rfl ?_
    rintro e ww25 ⟨d, rfl, SS25⟩
    refine ⟨_, rfl, fun aa25 HH25 => ?_⟩
    clear HH24
    clear SS14
    refine LG_val (want0 rfl) rfl rfl HH25 (Y_asg HH25 rfl rfl) (fun aa26 HH26 => ?_)
    clear HH25
    refine L_end (t_norm (hKK22 _ _ ?_))
    refine wp_seq_k fun KK27 hKK27 => ?_
    refine wp_seq_k fun KK28 hKK28 => ?_
    refine wp_region_lit ?_
    refine LG_val (want0 rfl) rfl rfl HH26 (Y_mov HH26 rfl rfl) (fun aa29 HH29 => ?_)
    clear HH26
    refine LG_val (want0 rfl) rfl rfl HH29 (Y_to (Y_eqlP HH29 rfl (by kernel_rfl) rfl rfl) (rfl)) (fun aa30 HH30 => ?_)
    clear HH29
    refine L_end (t_norm (hKK28 _ _ ?_))
    refine c_no HH30 rfl ?_
    refine wp_skip (t_norm (hKK27 _ _ ?_))
    refine wp_seq_k fun KK31 hKK31 => ?_
    refine wp_region_lit ?_
    refine LG_val (want0 rfl) rfl rfl HH30 (Y_mov HH30 rfl rfl) (fun aa32 HH32 => ?_)
    clear HH30
    refine LG_call (want0 rfl) rfl rfl rfl Try.func14 (by kernel_rfl) rfl HH32 (dlines_ok (cfgOf_small s) SS25) rfl ?_
    rintro e ww33 ⟨v7, rfl, SS33⟩
    obtain ⟨al, cl, rfl, _, _⟩ := Ints.val SS33
    have hll := linesOf_len (cfgOf s) (rows0 (cfgOf s) k (cfgOf s).lines) (cfgOf s).lines
    have hl8 := (cfgOf_small s).l1
    have hbl := below_le (cfgOf s) k
    refine ⟨_, rfl, fun aa33 HH33 => ?_⟩
    clear HH32
    clear SS25
    refine LG_val (want0 rfl) rfl rfl HH33 (Y_lenS HH33 rfl (by kernel_rfl) rfl) (fun aa34 HH34 => ?_)
    clear HH33
    refine LG_val (want0 rfl) rfl rfl HH34 (Y_mov HH34 rfl rfl) (fun aa35 HH35 => ?_)
    clear HH34
    refine L_end (t_norm (hKK31 _ _ ?_))
    refine wp_block ?_
    refine c_loop (σ := Nat) (fun (i : Nat) a wx => Fr a 107 [(2, VB false), (3, VPt b3 0), (4, VI ((below (cfgOf s) k + i : Nat) : Int)), (5, VI k), (6, VP d 0), (29, .slice al (linesOf (cfgOf s) (rows0 (cfgOf s) k (cfgOf s).lines) (cfgOf s).lines).length cl), (30, VI (linesOf (cfgOf s) (rows0 (cfgOf s) k (cfgOf s).lines) (cfgOf s).lines).length), (31, VI i)] ∧ i ≤ (linesOf (cfgOf s) (rows0 (cfgOf s) k (cfgOf s).lines) (cfgOf s).lines).length ∧ Sat wx (Ints (.slice al (linesOf (cfgOf s) (rows0 (cfgOf s) k (cfgOf s).lines) (cfgOf s).lines).length cl) (linesOf (cfgOf s) (rows0 (cfgOf s) k (cfgOf s).lines) (cfgOf s).lines) :: DRep d (cfgOf s) (rows0 (cfgOf s) k (cfgOf s).lines) :: [cel b3 26 ((cfgOf s).cells (.slice pa (cfgOf s).init.length pc)), Ints (.slice pa (cfgOf s).init.length pc) (cfgOf s).init, Old w])) (fun i => (linesOf (cfgOf s) (rows0 (cfgOf s) k (cfgOf s).lines) (cfgOf s).lines).length - i) (0) ?_ ?_
    · exact ⟨HH35.sub rfl, by omega, SS33.p4.p4.p4.p4.p4.t5⟩
    clear HH35
    clear SS33
    rintro i aa36 ww36 ⟨HH36, hi, SS36⟩
    refine wp_seq_k fun KK37 hKK37 => ?_
    refine wp_region_lit ?_
    by_cases hlt2 : (i : Int) < ((linesOf (cfgOf s) (rows0 (cfgOf s) k (cfgOf s).lines) (cfgOf s).lines).length : Int)
    ·
      refine LG_val (want0 rfl) rfl rfl HH36 (Y_yes (Y_lss HH36 rfl rfl rfl) (hlt2)) (fun aa38 HH38 => ?_)
      clear HH36
      refine L_end (t_norm (hKK37 _ _ ?_))
      refine wp_seq_k fun KK39 hKK39 => ?_
      refine c_yes HH38 rfl ?_
      refine wp_skip (t_norm (hKK39 _ _ ?_))
      refine wp_seq_k fun KK40 hKK40 => ?_
      refine wp_block ?_
      refine wp_seq_k fun KK41 hKK41 => ?_
      obtain ⟨x, hx1, hx2, hx3⟩ := lines_get (c := cfgOf s) (node := k) (i := i) (by omega)
      obtain ⟨b7, o7, e7⟩ := Ints.some SS36 rfl (by omega)
      have c7 := Ints.atE e7 rfl SS36 i (by omega)
      rw [hx3] at c7
      obtain ⟨j, hj1, hj2⟩ := rows0_at (cfgOf s) k (cfgOf s).lines x hx1 hx2
      refine wp_region_lit ?_
      refine LG_val (want0 rfl) rfl rfl HH38 (Y_idxE (q := o7 + i) HH38 rfl ty_ints rfl e7 rfl (by omega) (by omega) (by simp)) (fun aa42 HH42 => ?_)
      clear HH38
      refine LG_val (want0 rfl) rfl rfl HH42 (Y_load HH42 rfl (by kernel_rfl) rfl c7) (fun aa43 HH43 => ?_)
      clear HH42
      refine LG_val (want0 rfl) rfl rfl HH43 (Y_asg HH43 rfl rfl) (fun aa44 HH44 => ?_)
      clear HH43
      refine L_end (t_norm (hKK41 _ _ ?_))
      refine wp_seq_k fun KK45 hKK45 => ?_
      refine wp_region_lit ?_
      refine LG_val (want0 rfl) rfl rfl HH44 (Y_mov HH44 rfl rfl) (fun aa46 HH46 => ?_)
      clear HH44
      refine LG_val (want0 rfl) rfl rfl HH46 (Y_mov HH46 rfl rfl) (fun aa47 HH47 => ?_)
      clear HH46
      refine LG_call (want0 rfl) rfl rfl rfl Try.func15 (by kernel_rfl) rfl HH47 (drow_some SS36.p1 x hj1 hj2 (by show (cwords (cfgOf s) x).length ≤ 1000; rw [cwords_len]; have := (cfgOf_small s).w1; omega)) rfl ?_
      rintro e ww48 ⟨u2, rfl, SS48⟩
      obtain ⟨a2, c2, rfl, _, _⟩ := Ints.val SS48
      refine ⟨_, rfl, fun aa48 HH48 => ?_⟩
      clear HH47
      clear SS36
      refine LG_val (want0 rfl) rfl rfl HH48 (Y_mov HH48 rfl rfl) (fun aa49 HH49 => ?_)
      clear HH48
      refine LG_val (want0 rfl) rfl rfl HH49 (Y_ext HH49 rfl rfl rfl) (fun aa50 HH50 => ?_)
      clear HH49
      refine LG_val (want0 rfl) rfl rfl HH50 (Y_ext HH50 rfl rfl rfl) (fun aa51 HH51 => ?_)
      clear HH50
      refine LG_do (want0 rfl) rfl rfl HH51 (M_alloc HH51 rfl st_memdir_Row.zero SS48) ?_
      rintro _ ww52 ⟨b9, rfl, SS52, _⟩ aa52 HH52
      clear HH51
      clear SS48
      refine LG_do0 (want0 rfl) rfl HH52 (M_storeS HH52 rfl rfl rfl SS52 st_memdir_Row.size rfl rfl (one_row _ _ _ _ _)) ?_
      rintro _ ww53 ⟨SS53, _⟩ aa53 HH53
      clear HH52
      clear SS52
      refine LG_val (want0 rfl) rfl rfl HH53 (Y_asg HH53 rfl rfl) (fun aa54 HH54 => ?_)
      clear HH53
      refine L_end (t_norm (hKK45 _ _ ?_))
      refine wp_seq_k fun KK55 hKK55 => ?_
      refine wp_seq_k fun KK56 hKK56 => ?_
      refine wp_region_lit ?_
      refine LG_val (want0 rfl) rfl rfl HH54 (Y_mov HH54 rfl rfl) (fun aa57 HH57 => ?_)
      clear HH54
      refine LG_val (want0 rfl) rfl rfl HH57 (Y_not HH57 rfl rfl) (fun aa58 HH58 => ?_)
      clear HH57
      refine LG_val (want0 rfl) rfl rfl HH58 (Y_mov HH58 rfl rfl) (fun aa59 HH59 => ?_)
      clear HH58
      refine LG_val (HH59.want rfl rfl rfl) rfl rfl HH59 (Y_mov HH59 rfl rfl) (fun aa60 HH60 => ?_)
      clear HH59
      refine LG_val (HH60.want rfl rfl rfl) rfl rfl HH60 (Y_fad (off := 0) (r := 0) HH60 rfl (by kernel_rfl) rfl rfl) (fun aa61 HH61 => ?_)
      clear HH60
      refine LG_val (HH61.want rfl rfl rfl) rfl rfl HH61 (Y_load HH61 rfl (by kernel_rfl) rfl (SS53.p4.cell 0)) (fun aa62 HH62 => ?_)
      clear HH61
      refine LG_val (HH62.want rfl rfl rfl) rfl rfl HH62 (Y_rem (r := ((x % (cfgOf s).nodes : Nat) : Int)) HH62 rfl rfl rfl (by have := (cfgOf_small s).n0; omega) (by rw [Int.tmod_eq_emod_of_nonneg (by omega)]; exact (Int.natCast_emod _ _).symm)) (fun aa63 HH63 => ?_)
      clear HH62
      refine LG_val (HH63.want rfl rfl rfl) rfl rfl HH63 (Y_mov HH63 rfl rfl) (fun aa64 HH64 => ?_)
      clear HH63
      refine LG_val (HH64.want rfl rfl rfl) rfl rfl HH64 (Y_no (Y_neq HH64 rfl rfl rfl) (by omega)) (fun aa65 HH65 => ?_)
      clear HH64
      refine LG_val (want0 rfl) rfl rfl HH65 (Y_pickF HH65 rfl rfl rfl) (fun aa66 HH66 => ?_)
      clear HH65
      refine LG_val (want0 rfl) rfl rfl HH66 (Y_mov HH66 rfl rfl) (fun aa67 HH67 => ?_)
      clear HH66
      refine LG_val (HH67.want rfl rfl rfl) rfl rfl HH67 (Y_fad (off := 0) (r := 0) HH67 rfl (by kernel_rfl) rfl rfl) (fun aa68 HH68 => ?_)
      clear HH67
      refine LG_val (HH68.want rfl rfl rfl) rfl rfl HH68 (Y_load HH68 rfl (by kernel_rfl) rfl (SS53.cell 0)) (fun aa69 HH69 => ?_)
      clear HH68
      refine LG_val (HH69.want rfl rfl rfl) rfl rfl HH69 (Y_no (Y_neq HH69 rfl rfl rfl) (by simp)) (fun aa70 HH70 => ?_)
      clear HH69
      refine LG_val (want0 rfl) rfl rfl HH70 (Y_pickF HH70 rfl rfl rfl) (fun aa71 HH71 => ?_)
      clear HH70
      refine LG_val (want0 rfl) rfl rfl HH71 (Y_mov HH71 rfl rfl) (fun aa72 HH72 => ?_)
      clear HH71
      refine LG_val (HH72.want rfl rfl rfl) rfl rfl HH72 (Y_fad (off := 1) (r := 1) HH72 rfl (by kernel_rfl) rfl rfl) (fun aa73 HH73 => ?_)
      clear HH72
      refine LG_val (HH73.want rfl rfl rfl) rfl rfl HH73 (Y_load HH73 rfl (by kernel_rfl) rfl (SS53.cell 1)) (fun aa74 HH74 => ?_)
      clear HH73
      refine LG_val (HH74.want rfl rfl rfl) rfl rfl HH74 (Y_no (Y_neq HH74 rfl rfl rfl) (by simp)) (fun aa75 HH75 => ?_)
      clear HH74
      refine LG_val (want0 rfl) rfl rfl HH75 (Y_pickF HH75 rfl rfl rfl) (fun aa76 HH76 => ?_)
      clear HH75
      refine LG_val (want0 rfl) rfl rfl HH76 (Y_mov HH76 rfl rfl) (fun aa77 HH77 => ?_)
      clear HH76
      refine LG_val (HH77.want rfl rfl rfl) rfl rfl HH77 (Y_fad (off := 2) (r := 2) HH77 rfl (by kernel_rfl) rfl rfl) (fun aa78 HH78 => ?_)
      clear HH77
      refine LG_val (HH78.want rfl rfl rfl) rfl rfl HH78 (Y_load HH78 rfl (by kernel_rfl) rfl (SS53.cell 2)) (fun aa79 HH79 => ?_)
      clear HH78
      refine LG_val (HH79.want rfl rfl rfl) rfl rfl HH79 (Y_lenS HH79 rfl (by kernel_rfl) rfl) (fun aa80 HH80 => ?_)
      clear HH79
      refine LG_val (HH80.want rfl rfl rfl) rfl rfl HH80 (Y_fad (off := 2) (r := 2) HH80 rfl (by kernel_rfl) rfl rfl) (fun aa81 HH81 => ?_)
      clear HH80
      refine LG_val (HH81.want rfl rfl rfl) rfl rfl HH81 (Y_load HH81 rfl (by kernel_rfl) rfl (SS53.p4.cell 2)) (fun aa82 HH82 => ?_)
      clear HH81
      refine LG_val (HH82.want rfl rfl rfl) rfl rfl HH82 (Y_no (Y_neq HH82 rfl rfl rfl) (by simp [cwords_len])) (fun aa83 HH83 => ?_)
      clear HH82
      refine LG_val (want0 rfl) rfl rfl HH83 (Y_pickF HH83 rfl rfl rfl) (fun aa84 HH84 => ?_)
      clear HH83
      refine L_end (t_norm (hKK56 _ _ ?_))
      refine c_no HH84 rfl ?_
      refine wp_skip (t_norm (hKK55 _ _ ?_))
      refine wp_seq_k fun KK85 hKK85 => ?_
      refine wp_seq_k fun KK86 hKK86 => ?_
      have hw8 := (cfgOf_small s).w1
      have hcl := cwords_len (cfgOf s) x
      have hmul := (cfgOf_small s).mul (l := x) (by omega)
      have hin := (cfgOf_small s).init
      refine wp_region_lit ?_
      refine LG_val (want0 rfl) rfl rfl HH84 (Y_fad (off := 2) (r := 2) HH84 rfl (by kernel_rfl) rfl rfl) (fun aa87 HH87 => ?_)
      clear HH84
      refine LG_val (want0 rfl) rfl rfl HH87 (Y_load HH87 rfl (by kernel_rfl) rfl (SS53.cell 2)) (fun aa88 HH88 => ?_)
      clear HH87
      refine LG_val (want0 rfl) rfl rfl HH88 (Y_lenS HH88 rfl (by kernel_rfl) rfl) (fun aa89 HH89 => ?_)
      clear HH88
      refine LG_val (want0 rfl) rfl rfl HH89 (Y_mov HH89 rfl rfl) (fun aa90 HH90 => ?_)
      clear HH89
      refine L_end (t_norm (hKK86 _ _ ?_))
      refine wp_block ?_
      refine c_loop (σ := Nat) (fun (j2 : Nat) a wx => Fr a 107 [(2, VB false), (3, VPt b3 0), (4, VI ((below (cfgOf s) k + i : Nat) : Int)), (5, VI k), (6, VP d 0), (8, VI x), (29, .slice al (linesOf (cfgOf s) (rows0 (cfgOf s) k (cfgOf s).lines) (cfgOf s).lines).length cl), (30, VI (linesOf (cfgOf s) (rows0 (cfgOf s) k (cfgOf s).lines) (cfgOf s).lines).length), (31, VI i), (70, .slice a2 (cwords (cfgOf s) x).length c2), (71, VI (cwords (cfgOf s) x).length), (72, VI j2)] ∧ j2 ≤ (cwords (cfgOf s) x).length ∧ Sat wx (Ints (.slice a2 (cwords (cfgOf s) x).length c2) (cwords (cfgOf s) x) :: Ints (.slice al (linesOf (cfgOf s) (rows0 (cfgOf s) k (cfgOf s).lines) (cfgOf s).lines).length cl) (linesOf (cfgOf s) (rows0 (cfgOf s) k (cfgOf s).lines) (cfgOf s).lines) :: DRep d (cfgOf s) (rows0 (cfgOf s) k (cfgOf s).lines) :: [cel b3 26 ((cfgOf s).cells (.slice pa (cfgOf s).init.length pc)), Ints (.slice pa (cfgOf s).init.length pc) (cfgOf s).init, Old w])) (fun j2 => (cwords (cfgOf s) x).length - j2) (0) ?_ ?_
      · exact ⟨HH90.sub rfl, by omega, SS53.p6.p6.p6.p5.p6.p6.t6⟩
      clear HH90
      clear SS53
      rintro j2 aa91 ww91 ⟨HH91, hj9, SS91⟩
      refine wp_seq_k fun KK92 hKK92 => ?_
      refine wp_region_lit ?_
      by_cases hlt3 : (j2 : Int) < ((cwords (cfgOf s) x).length : Int)
      ·
        refine LG_val (want0 rfl) rfl rfl HH91 (Y_yes (Y_lss HH91 rfl rfl rfl) (hlt3)) (fun aa93 HH93 => ?_)
        clear HH91
        refine L_end (t_norm (hKK92 _ _ ?_))
        refine wp_seq_k fun KK94 hKK94 => ?_
        refine c_yes HH93 rfl ?_
        refine wp_skip (t_norm (hKK94 _ _ ?_))
        refine wp_seq_k fun KK95 hKK95 => ?_
        refine wp_block ?_
        refine wp_seq_k fun KK96 hKK96 => ?_
        obtain ⟨b8, o8, e8⟩ := Ints.some SS91 rfl (by omega)
        have c8 := Ints.atE e8 rfl SS91 j2 (by omega)
        rw [cwords_get _ _ _ (by omega)] at c8
        refine wp_region_lit ?_
        refine LG_val (want0 rfl) rfl rfl HH93 (Y_mov HH93 rfl rfl) (fun aa97 HH97 => ?_)
        clear HH93
        refine LG_val (want0 rfl) rfl rfl HH97 (Y_idxE (q := o8 + j2) HH97 rfl ty_ints rfl e8 rfl (by omega) (by omega) (by simp)) (fun aa98 HH98 => ?_)
        clear HH97
        refine LG_val (want0 rfl) rfl rfl HH98 (Y_load HH98 rfl (by kernel_rfl) rfl c8) (fun aa99 HH99 => ?_)
        clear HH98
        refine LG_val (want0 rfl) rfl rfl HH99 (Y_asg HH99 rfl rfl) (fun aa100 HH100 => ?_)
        clear HH99
        refine LG_val (want0 rfl) rfl rfl HH100 (Y_asg HH100 rfl rfl) (fun aa101 HH101 => ?_)
        clear HH100
        refine L_end (t_norm (hKK96 _ _ ?_))
        refine wp_seq_k fun KK102 hKK102 => ?_
        refine wp_region_lit ?_
        refine LG_val (want0 rfl) rfl rfl HH101 (Y_asg HH101 rfl rfl) (fun aa103 HH103 => ?_)
        clear HH101
        refine L_end (t_norm (hKK102 _ _ ?_))
        refine c_cut (fun a wx => Fr a 107 [(2, VB false), (3, VPt b3 0), (4, VI ((below (cfgOf s) k + i : Nat) : Int)), (5, VI k), (6, VP d 0), (8, VI x), (12, VI ((cfgOf s).init.getD (x * (cfgOf s).words + j2) 0)), (13, VI ((cfgOf s).init.getD (x * (cfgOf s).words + j2) 0)), (29, .slice al (linesOf (cfgOf s) (rows0 (cfgOf s) k (cfgOf s).lines) (cfgOf s).lines).length cl), (30, VI (linesOf (cfgOf s) (rows0 (cfgOf s) k (cfgOf s).lines) (cfgOf s).lines).length), (31, VI i), (70, .slice a2 (cwords (cfgOf s) x).length c2), (71, VI (cwords (cfgOf s) x).length), (72, VI j2)] ∧ Sat wx (Ints (.slice a2 (cwords (cfgOf s) x).length c2) (cwords (cfgOf s) x) :: Ints (.slice al (linesOf (cfgOf s) (rows0 (cfgOf s) k (cfgOf s).lines) (cfgOf s).lines).length cl) (linesOf (cfgOf s) (rows0 (cfgOf s) k (cfgOf s).lines) (cfgOf s).lines) :: DRep d (cfgOf s) (rows0 (cfgOf s) k (cfgOf s).lines) :: [cel b3 26 ((cfgOf s).cells (.slice pa (cfgOf s).init.length pc)), Ints (.slice pa (cfgOf s).init.length pc) (cfgOf s).init, Old w])) ?_ ?_
        ·
          refine wp_seq_k fun KK104 hKK104 => ?_
          refine wp_region_lit ?_
          refine LG_val (want0 rfl) rfl rfl HH103 (Y_mov HH103 rfl rfl) (fun aa105 HH105 => ?_)
          clear HH103
          refine LG_val (want0 rfl) rfl rfl HH105 (Y_fad (off := 2) (r := 2) HH105 rfl (by kernel_rfl) rfl rfl) (fun aa106 HH106 => ?_)
          clear HH105
          refine LG_val (want0 rfl) rfl rfl HH106 (Y_load HH106 rfl (by kernel_rfl) rfl (SS91.p3.cell 2)) (fun aa107 HH107 => ?_)
          clear HH106
          refine LG_val (want0 rfl) rfl rfl HH107 (Y_mul (r := ((x * (cfgOf s).words : Nat) : Int)) HH107 rfl rfl rfl (mul_wrap _ _ (by omega))) (fun aa108 HH108 => ?_)
          clear HH107
          refine LG_val (want0 rfl) rfl rfl HH108 (Y_mov HH108 rfl rfl) (fun aa109 HH109 => ?_)
          clear HH108
          refine LG_val (want0 rfl) rfl rfl HH109 (Y_add (r := ((x * (cfgOf s).words + j2 : Nat) : Int)) HH109 rfl rfl rfl (by rw [IntWalk.i64_in _ (by omega)]; omega)) (fun aa110 HH110 => ?_)
          clear HH109
          refine LG_val (want0 rfl) rfl rfl HH110 (Y_asg HH110 rfl rfl) (fun aa111 HH111 => ?_)
          clear HH110
          refine L_end (t_norm (hKK104 _ _ ?_))
          refine wp_seq_k fun KK112 hKK112 => ?_
          refine wp_region_lit ?_
          refine LG_val (want0 rfl) rfl rfl HH111 (Y_mov HH111 rfl rfl) (fun aa113 HH113 => ?_)
          clear HH111
          refine LG_val (want0 rfl) rfl rfl HH113 (Y_fad (off := 7) (r := 7) HH113 rfl (by kernel_rfl) rfl rfl) (fun aa114 HH114 => ?_)
          clear HH113
          refine LG_val (want0 rfl) rfl rfl HH114 (Y_load HH114 rfl (by kernel_rfl) rfl (SS91.p3.cell 7)) (fun aa115 HH115 => ?_)
          clear HH114
          refine LG_val (want0 rfl) rfl rfl HH115 (Y_lenS HH115 rfl (by kernel_rfl) rfl) (fun aa116 HH116 => ?_)
          clear HH115
          by_cases hin2 : ((x * (cfgOf s).words + j2 : Nat) : Int) < ((cfgOf s).init.length : Int)
          ·
            refine LG_val (want0 rfl) rfl rfl HH116 (Y_yes (Y_lss HH116 rfl rfl rfl) (hin2)) (fun aa117 HH117 => ?_)
            clear HH116
            refine L_end (t_norm (hKK112 _ _ ?_))
            refine c_yes HH117 rfl ?_
            obtain ⟨b9, o9, e9⟩ := Ints.some SS91.p4 rfl (by omega)
            have c9 := Ints.atE e9 rfl SS91.p4 (x * (cfgOf s).words + j2) (by omega)
            refine wp_region_lit ?_
            refine LG_val (want0 rfl) rfl rfl HH117 (Y_fad (off := 7) (r := 7) HH117 rfl (by kernel_rfl) rfl rfl) (fun aa118 HH118 => ?_)
            clear HH117
            refine LG_val (want0 rfl) rfl rfl HH118 (Y_load HH118 rfl (by kernel_rfl) rfl (SS91.p3.cell 7)) (fun aa119 HH119 => ?_)
            clear HH118
            refine LG_val (want0 rfl) rfl rfl HH119 (Y_mov HH119 rfl rfl) (fun aa120 HH120 => ?_)
            clear HH119
            refine LG_val (want0 rfl) rfl rfl HH120 (Y_idxE (q := o9 + (x * (cfgOf s).words + j2)) HH120 rfl ty_ints rfl e9 rfl (by omega) (by omega) (by rw [Int.toNat_natCast]; omega)) (fun aa121 HH121 => ?_)
            clear HH120
            refine LG_val (want0 rfl) rfl rfl HH121 (Y_load HH121 rfl (by kernel_rfl) rfl c9) (fun aa122 HH122 => ?_)
            clear HH121
            refine LG_val (want0 rfl) rfl rfl HH122 (Y_asg HH122 rfl rfl) (fun aa123 HH123 => ?_)
            clear HH122
            refine L_end (t_norm ?_)
            exact ⟨HH123.sub rfl, SS91.p5.p5.p5.p5.p5.p5.t6⟩
          ·
            refine LG_val (want0 rfl) rfl rfl HH116 (Y_no (Y_lss HH116 rfl rfl rfl) (hin2)) (fun aa124 HH124 => ?_)
            clear HH116
            refine L_end (t_norm (hKK112 _ _ ?_))
            refine c_no HH124 rfl ?_
            refine wp_skip (t_norm ?_)
            have e0 : (cfgOf s).init.getD (x * (cfgOf s).words + j2) 0 = 0 := by rw [List.getD_eq_getElem?_getD, List.getElem?_eq_none (by omega)]; rfl
            exact ⟨HH124.sub (by rw [e0]; rfl), SS91.p5.p5.p5.p5.p5.p5.t6⟩
        clear HH103
        clear SS91
        rintro aa125 ww125 ⟨HH125, SS125⟩
        refine wp_seq_k fun KK126 hKK126 => ?_
        refine wp_region_lit ?_
        refine LG_val (want0 rfl) rfl rfl HH125 (Y_mov HH125 rfl rfl) (fun aa127 HH127 => ?_)
        clear HH125
        refine LG_val (want0 rfl) rfl rfl HH127 (Y_mov HH127 rfl rfl) (fun aa128 HH128 => ?_)
        clear HH127
        refine LG_val (want0 rfl) rfl rfl HH128 (Y_no (Y_neq HH128 rfl rfl rfl) (by simp)) (fun aa129 HH129 => ?_)
        clear HH128
        refine L_end (t_norm (hKK126 _ _ ?_))
        refine c_no HH129 rfl ?_
        refine wp_skip (b_norm (t_norm (hKK95 _ _ ?_)))
        refine wp_region_lit ?_
        refine LG_val (want0 rfl) rfl rfl HH129 (Y_add HH129 rfl rfl rfl (IntWalk.i64_in _ (by omega))) (fun aa130 HH130 => ?_)
        clear HH129
        refine LG_val (want0 rfl) rfl rfl HH130 (Y_mov HH130 rfl rfl) (fun aa131 HH131 => ?_)
        clear HH130
        refine L_end (t_norm ?_)
        exact ⟨j2 + 1, ⟨HH131.sub rfl, by omega, SS125.p5.p5.p5.p5.p5.p5.t6⟩, by first | omega | (dsimp only; omega)⟩
      ·
        refine LG_val (want0 rfl) rfl rfl HH91 (Y_no (Y_lss HH91 rfl rfl rfl) (hlt3)) (fun aa132 HH132 => ?_)
        clear HH91
        refine L_end (t_norm (hKK92 _ _ ?_))
        refine wp_seq_k fun KK133 hKK133 => ?_
        refine c_no HH132 rfl ?_
        refine wp_exit (t_exit (t_exit (b_exit (t_norm (hKK85 _ _ ?_)))))
        refine wp_region_lit ?_
        refine LG_val (want0 rfl) rfl rfl HH132 (Y_mov HH132 rfl rfl) (fun aa134 HH134 => ?_)
        clear HH132
        refine LG_val (want0 rfl) rfl rfl HH134 (Y_add HH134 rfl rfl rfl (IntWalk.i64_in _ (by omega))) (fun aa135 HH135 => ?_)
        clear HH134
        refine LG_val (want0 rfl) rfl rfl HH135 (Y_asg HH135 rfl rfl) (fun aa136 HH136 => ?_)
        clear HH135
        refine L_end (b_norm (t_norm (hKK40 _ _ ?_)))
        refine wp_region_lit ?_
        refine LG_val (want0 rfl) rfl rfl HH136 (Y_add HH136 rfl rfl rfl (IntWalk.i64_in _ (by omega))) (fun aa137 HH137 => ?_)
        clear HH136
        refine LG_val (want0 rfl) rfl rfl HH137 (Y_mov HH137 rfl rfl) (fun aa138 HH138 => ?_)
        clear HH137
        refine L_end (t_norm ?_)
        exact ⟨i + 1, ⟨HH138.sub rfl, by omega, SS91.p5.p5.p5.p5.p5.t5⟩, by first | omega | (dsimp only; omega)⟩
    ·
      refine LG_val (want0 rfl) rfl rfl HH36 (Y_no (Y_lss HH36 rfl rfl rfl) (hlt2)) (fun aa139 HH139 => ?_)
      clear HH36
      refine L_end (t_norm (hKK37 _ _ ?_))
      refine wp_seq_k fun KK140 hKK140 => ?_
      refine c_no HH139 rfl ?_
      refine wp_exit (t_exit (t_exit (b_exit (b_norm (t_norm (hKK21 _ _ ?_))))))
      refine wp_region_lit ?_
      refine LG_val (want0 rfl) rfl rfl HH139 (Y_mov HH139 rfl rfl) (fun aa141 HH141 => ?_)
      clear HH139
      refine LG_val (want0 rfl) rfl rfl HH141 (Y_add HH141 rfl rfl rfl (IntWalk.i64_in _ (by omega))) (fun aa142 HH142 => ?_)
      clear HH141
      refine LG_val (want0 rfl) rfl rfl HH142 (Y_asg HH142 rfl rfl) (fun aa143 HH143 => ?_)
      clear HH142
      refine L_end (t_norm ?_)
      have e := below_succ (cfgOf s) k
      have e2 : i = (linesOf (cfgOf s) (rows0 (cfgOf s) k (cfgOf s).lines) (cfgOf s).lines).length := by omega
      rw [e2, ← e] at HH143
      exact ⟨k + 1, ⟨HH143.sub rfl, by omega, SS36.p4.p4.p4.t3⟩, by first | omega | (dsimp only; omega)⟩
  ·
    refine LG_val (want0 rfl) rfl rfl HH19 (Y_no (Y_lss HH19 rfl rfl rfl) (hlt)) (fun aa144 HH144 => ?_)
    clear HH19
    refine L_end (t_norm (hKK16 _ _ ?_))
    refine c_no HH144 rfl ?_
    refine wp_exit (t_exit (t_exit (b_exit (t_norm (hKK11 _ _ ?_)))))
    refine wp_seq_k fun KK145 hKK145 => ?_
    have ek : k = (cfgOf s).nodes := by omega
    have hba := below_all (cfgOf s) (cfgOf_small s).n0
    refine wp_region_lit ?_
    refine LG_val (want0 rfl) rfl rfl HH144 (Y_mov HH144 rfl rfl) (fun aa146 HH146 => ?_)
    clear HH144
    refine LG_val (want0 rfl) rfl rfl HH146 (Y_fad (off := 1) (r := 1) HH146 rfl (by kernel_rfl) rfl rfl) (fun aa147 HH147 => ?_)
    clear HH146
    refine LG_val (want0 rfl) rfl rfl HH147 (Y_load HH147 rfl (by kernel_rfl) rfl (SS14.cell 1)) (fun aa148 HH148 => ?_)
    clear HH147
    refine LG_val (want0 rfl) rfl rfl HH148 (Y_yes (Y_eql HH148 rfl rfl rfl) (by rw [ek, hba])) (fun aa149 HH149 => ?_)
    clear HH148
    refine LG_val (want0 rfl) rfl rfl HH149 (Y_mov HH149 rfl rfl) (fun aa150 HH150 => ?_)
    clear HH149
    refine LG_call (HH150.want rfl rfl rfl) rfl rfl rfl Try.func16 (by kernel_rfl) rfl HH150 (wakes09_ok SS14) rfl ?_
    rintro e ww151 ⟨rfl, SS151⟩
    refine ⟨_, rfl, fun aa151 HH151 => ?_⟩
    clear HH150
    clear SS14
    refine LG_val (want0 rfl) rfl rfl HH151 (Y_pickT HH151 rfl rfl rfl) (fun aa152 HH152 => ?_)
    clear HH151
    refine LG_val (want0 rfl) rfl rfl HH152 (Y_asg HH152 rfl rfl) (fun aa153 HH153 => ?_)
    clear HH152
    refine L_end (t_norm (hKK145 _ _ ?_))
    refine wp_ret (ret1 rfl HH153 rfl ?_)
    exact ⟨rfl, SS151.p2.below⟩
end Go.Proofs.Ytaekiecidbhjhaa
