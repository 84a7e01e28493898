/- memdir.Dir: New, Row, Lines, Set. Printed by wip/specs/memdir.py. -/
import Derived.Test.YtaekiecidbhjhaaDir
namespace Go.Proofs.Ytaekiecidbhjhaa
open Go.RowKit

set_option maxRecDepth 100000 in
theorem dnew_ok {w : World} {l : List HProp} (c : Cfg) (hc : c.small) (v0 : Value) (node : Nat) (hv0 : ∀ w', Sat w' l → RdI w' v0 c.init) (S : Sat w l) : Calls Try.prog 13 #[c.val v0, VI node] w fun e w' => ∃ d, e = .returned (VP d 0) ∧ Sat w' (DRep d c (rows0 c node c.lines) :: l) := by
  obtain ⟨pa, pc, rfl, _, _⟩ := (hv0 _ S).val
  have hl8 := hc.l1
  refine enter (n := 32) Try.func13 rfl [(0, c.val (.slice pa c.init.length pc)), (1, VI node)] rfl rfl fun aa0 HH0 => ?_
  refine wp_seq_k fun KK1 hKK1 => ?_
  refine wp_region_lit ?_
  refine LG_do (want0 rfl) rfl rfl HH0 (M_box HH0 rfl rfl rfl S) ?_
  rintro _ ww2 ⟨b2, rfl, SS2, _⟩ aa2 HH2
  clear HH0
  clear S
  refine LG_val (want0 rfl) rfl rfl HH2 (Y_asg HH2 rfl rfl) (fun aa3 HH3 => ?_)
  clear HH2
  refine L_end (t_norm (hKK1 _ _ ?_))
  refine wp_seq_k fun KK4 hKK4 => ?_
  refine wp_region_lit ?_
  refine LG_val (want0 rfl) rfl rfl HH3 (Y_loadS HH3 rfl rfl SS2 st_api_Config.und st_api_Config.size) (fun aa5 HH5 => ?_)
  clear HH3
  refine LG_do (want0 rfl) rfl rfl HH5 (M_makeMap HH5 rfl SS2) ?_
  rintro _ ww6 ⟨b8, rfl, SS6⟩ aa6 HH6
  clear HH5
  clear SS2
  refine LG_val (want0 rfl) rfl rfl HH6 (Y_build (cs := [VI c.nodes, VI c.lines, VI c.words, VI c.sets, VI c.ways, VI c.out, VI c.in_, .slice pa c.init.length pc, .map (some b8)]) HH6 rfl st_memdir_Dir rfl rfl) (fun aa7 HH7 => ?_)
  clear HH6
  refine LG_do (want0 rfl) rfl rfl HH7 (M_box HH7 rfl rfl rfl SS6) ?_
  rintro _ ww8 ⟨b10, rfl, SS8, _⟩ aa8 HH8
  clear HH7
  clear SS6
  refine LG_val (want0 rfl) rfl rfl HH8 (Y_asg HH8 rfl rfl) (fun aa9 HH9 => ?_)
  clear HH8
  refine L_end (t_norm (hKK4 _ _ ?_))
  refine wp_seq_k fun KK10 hKK10 => ?_
  refine wp_seq_k fun KK11 hKK11 => ?_
  refine wp_region_lit ?_
  refine LG_val (want0 rfl) rfl rfl HH9 (Y_fad (off := 1) (r := 1) HH9 rfl (by kernel_rfl) rfl rfl) (fun aa12 HH12 => ?_)
  clear HH9
  refine LG_val (want0 rfl) rfl rfl HH12 (Y_load HH12 rfl (by kernel_rfl) rfl (SS8.p2.cell 1)) (fun aa13 HH13 => ?_)
  clear HH12
  refine LG_val (want0 rfl) rfl rfl HH13 (Y_mov HH13 rfl rfl) (fun aa14 HH14 => ?_)
  clear HH13
  refine L_end (t_norm (hKK11 _ _ ?_))
  refine wp_block ?_
  refine c_loop (σ := Nat) (fun (i : Nat) a wx => ∃ vs : List Value, Fr a 32 [(1, VI node), (2, VPt b2 0), (5, VPt b10 0), (12, VI c.lines), (13, VI i)] ∧ i ≤ c.lines ∧ vs.length = (rows0 c node i).length ∧ Sat wx (cel b10 110 [VI c.nodes, VI c.lines, VI c.words, VI c.sets, VI c.ways, VI c.out, VI c.in_, .slice pa c.init.length pc, .map (some b8)] :: cel b2 26 (c.cells (.slice pa c.init.length pc)) :: Mp b8 (rwKeys (rows0 c node i)) (rwVals (rows0 c node i) vs) :: (rwData (rows0 c node i) vs ++ l))) (fun i => c.lines - i) (0) ?_ ?_
  · exact ⟨[], HH14.sub rfl, by omega, rfl, SS8.p1.p2.p2⟩
  clear HH14
  clear SS8
  rintro i aa15 ww15 ⟨vs, HH15, hi, hvs, SS15⟩
  refine wp_seq_k fun KK16 hKK16 => ?_
  refine wp_region_lit ?_
  by_cases hlt : (i : Int) < (c.lines : Int)
  ·
    refine LG_val (want0 rfl) rfl rfl HH15 (Y_yes (Y_lss HH15 rfl rfl rfl) (hlt)) (fun aa17 HH17 => ?_)
    clear HH15
    refine L_end (t_norm (hKK16 _ _ ?_))
    refine wp_seq_k fun KK18 hKK18 => ?_
    refine c_yes HH17 rfl ?_
    refine wp_skip (t_norm (hKK18 _ _ ?_))
    refine wp_seq_k fun KK19 hKK19 => ?_
    refine wp_block ?_
    refine wp_seq_k fun KK20 hKK20 => ?_
    refine wp_region_lit ?_
    refine LG_val (want0 rfl) rfl rfl HH17 (Y_mov HH17 rfl rfl) (fun aa21 HH21 => ?_)
    clear HH17
    refine LG_val (want0 rfl) rfl rfl HH21 (Y_asg HH21 rfl rfl) (fun aa22 HH22 => ?_)
    clear HH21
    refine L_end (t_norm (hKK20 _ _ ?_))
    refine wp_seq_k fun KK23 hKK23 => ?_
    refine wp_region_lit ?_
    refine LG_val (want0 rfl) rfl rfl HH22 (Y_loadS HH22 rfl rfl SS15.p1 st_api_Config.und st_api_Config.size) (fun aa24 HH24 => ?_)
    clear HH22
    refine LG_val (want0 rfl) rfl rfl HH24 (Y_mov HH24 rfl rfl) (fun aa25 HH25 => ?_)
    clear HH24
    refine LG_call (want0 rfl) rfl rfl rfl Try.func40 (by kernel_rfl) rfl HH25 (home_ok c hc _ i SS15) rfl ?_
    rintro e ww26 ⟨rfl, SS26⟩
    refine ⟨_, rfl, fun aa26 HH26 => ?_⟩
    clear HH25
    clear SS15
    refine LG_val (want0 rfl) rfl rfl HH26 (Y_mov HH26 rfl rfl) (fun aa27 HH27 => ?_)
    clear HH26
    by_cases hh : homeOf (i : Int) c.nodes = (node : Int)
    ·
      refine LG_val (want0 rfl) rfl rfl HH27 (Y_yes (Y_eql HH27 rfl rfl rfl) (hh)) (fun aa28 HH28 => ?_)
      clear HH27
      refine L_end (t_norm (hKK23 _ _ ?_))
      refine c_yes HH28 rfl ?_
      -- region 6, drawn
      refine N_begin (fun w' => Sat w' _) (.val 0 (.val 1 (.val 2 (.val 3 (.val 4 (.val 5 (.val 6 (.one 7 (.val 8 (.one 9 .fin)))))))))) (by kernel_rfl) (by kernel_rfl) (by kernel_rfl) (by kernel_rfl) (fun _ _ _ _ _ h => h) (SS26.p1.p1.t2.drew) (fun ww29 SN29 hw29 => ?_)
      have SS29 := SS26.drew
      rw [← hw29] at SS29
      clear hw29 SN29
      clear SS26
      refine N_val rfl (want0 rfl) rfl rfl HH28 (fun ww29 SN => Y_mov HH28 rfl rfl) (fun aa30 HH30 => ?_)
      clear HH28
      refine N_val rfl (want0 rfl) rfl rfl HH30 (fun ww29 SN => Y_chk HH30 rfl rfl) (fun aa31 HH31 => ?_)
      clear HH30
      refine N_val rfl (want0 rfl) rfl rfl HH31 (fun ww29 SN => Y_fad (off := 8) (r := 8) HH31 rfl (by kernel_rfl) rfl rfl) (fun aa32 HH32 => ?_)
      clear HH31
      refine N_val rfl (want0 rfl) rfl rfl HH32 (fun ww29 SN => Y_load HH32 rfl (by kernel_rfl) rfl (SN.cell 8)) (fun aa33 HH33 => ?_)
      clear HH32
      refine N_val rfl (want0 rfl) rfl rfl HH33 (fun ww29 SN => Y_mov HH33 rfl rfl) (fun aa34 HH34 => ?_)
      clear HH33
      refine N_val rfl (want0 rfl) rfl rfl HH34 (fun ww29 SN => Y_loadS HH34 rfl rfl SN.p1 st_api_Config.und st_api_Config.size) (fun aa35 HH35 => ?_)
      clear HH34
      refine N_val rfl (want0 rfl) rfl rfl HH35 (fun ww29 SN => Y_mov HH35 rfl rfl) (fun aa36 HH36 => ?_)
      clear HH35
      refine N_call rfl (want0 rfl) rfl rfl rfl Try.func43 (by kernel_rfl) rfl HH36 (words_in c hc _ i (by omega) (fun w' h => hv0 w' (Sat.right h.tail.tail.tail)) SS29.p2.p2.p2) rfl ?_
      rintro e ww37 ⟨v5, rfl, SS37⟩
      obtain ⟨pa5, pc5, rfl, _, _⟩ := Ints.val SS37
      refine ⟨_, rfl, SS37.p2.p2.t2, fun aa37 HH37 => ?_⟩
      clear HH36
      clear SS29
      refine N_val rfl (want0 rfl) rfl rfl HH37 (fun ww37 SN => Y_build (cs := [VI 0, VI (-1), .slice pa5 (cwords c i).length pc5]) HH37 rfl st_memdir_Row rfl rfl) (fun aa38 HH38 => ?_)
      clear HH37
      refine N_do0 rfl (want0 rfl) rfl HH38 (M_mapNew HH38 rfl mt_row rfl rfl rfl SS37.p3 (rows0_none c node i i (Int.le_refl _))) ?_
      rintro _ ww39 SS39
      refine ⟨SS39.p3.p3.t2, fun aa39 HH39 => ?_⟩
      clear HH38
      clear SS37
      refine N_end (b_norm (t_norm (hKK19 _ _ ?_)))
      refine wp_region_lit ?_
      refine LG_val (want0 rfl) rfl rfl HH39 (Y_add HH39 rfl rfl rfl (IntWalk.i64_in _ (by omega))) (fun aa40 HH40 => ?_)
      clear HH39
      refine LG_val (want0 rfl) rfl rfl HH40 (Y_mov HH40 rfl rfl) (fun aa41 HH41 => ?_)
      clear HH40
      refine L_end (t_norm ?_)
      have e := rows0_succ c node i
      rw [if_pos ((home_eq i c.nodes node).1 hh)] at e
      have S0 := rows_more (r := ⟨i, 0, -1, cwords c i⟩) hvs SS39.p3.p3.p3
      refine ⟨i + 1, ⟨vs ++ [.slice pa5 (cwords c i).length pc5], HH41.sub rfl, by omega, ?_, ?_⟩, by first | omega | (dsimp only; omega)⟩
      · rw [e]; simp [hvs]
      · rw [e]; exact S0
    ·
      refine LG_val (want0 rfl) rfl rfl HH27 (Y_no (Y_eql HH27 rfl rfl rfl) (hh)) (fun aa42 HH42 => ?_)
      clear HH27
      refine L_end (t_norm (hKK23 _ _ ?_))
      refine c_no HH42 rfl ?_
      refine wp_skip (b_norm (t_norm (hKK19 _ _ ?_)))
      refine wp_region_lit ?_
      refine LG_val (want0 rfl) rfl rfl HH42 (Y_add HH42 rfl rfl rfl (IntWalk.i64_in _ (by omega))) (fun aa43 HH43 => ?_)
      clear HH42
      refine LG_val (want0 rfl) rfl rfl HH43 (Y_mov HH43 rfl rfl) (fun aa44 HH44 => ?_)
      clear HH43
      refine L_end (t_norm ?_)
      have e := rows0_succ c node i
      rw [if_neg (fun h => hh ((home_eq i c.nodes node).2 h)), List.append_nil] at e
      refine ⟨i + 1, ⟨vs, HH44.sub rfl, by omega, by rw [e]; exact hvs, by rw [e]; exact SS26.p2.p2.p2⟩, by first | omega | (dsimp only; omega)⟩
  ·
    refine LG_val (want0 rfl) rfl rfl HH15 (Y_no (Y_lss HH15 rfl rfl rfl) (hlt)) (fun aa45 HH45 => ?_)
    clear HH15
    refine L_end (t_norm (hKK16 _ _ ?_))
    refine wp_seq_k fun KK46 hKK46 => ?_
    refine c_no HH45 rfl ?_
    refine wp_exit (t_exit (t_exit (b_exit (t_norm (hKK10 _ _ ?_)))))
    refine wp_seq_k fun KK47 hKK47 => ?_
    refine wp_region_lit ?_
    refine LG_val (want0 rfl) rfl rfl HH45 (Y_mov HH45 rfl rfl) (fun aa48 HH48 => ?_)
    clear HH45
    refine LG_val (want0 rfl) rfl rfl HH48 (Y_asg HH48 rfl rfl) (fun aa49 HH49 => ?_)
    clear HH48
    refine L_end (t_norm (hKK47 _ _ ?_))
    refine wp_ret (ret1 rfl HH49 rfl ?_)
    have e : i = c.lines := by omega
    subst e
    exact ⟨_, rfl, DRep.open.2 ⟨_, _, _, _, vs, hvs, SS15.p2.p1.p2.tail⟩⟩

set_option maxRecDepth 100000 in
theorem drow_some {w : World} {l : List HProp} {d : Nat} {c : Cfg} {rs : List Rw} (S0 : Sat w (DRep d c rs :: l)) (x : Int) {j : Nat} {r : Rw} (hj : keyAt (rwKeys rs) x = some j) (hr : rs[j]? = some r) (hb : r.data.length ≤ 1000) :
    Calls Try.prog 15 #[VP d 0, VI x] w fun e w' => ∃ v', e = .returned (.tuple #[.agg #[VI r.st, VI r.hd, v'], VB true]) ∧ Sat w' (Ints v' r.data :: DRep d c rs :: l) := by
  obtain ⟨pa, pn, pc, b, vs, hvs, S⟩ := DRep.open.1 S0
  clear S0
  obtain ⟨v, hv⟩ := rw_at hvs hr
  obtain ⟨va, vc, rfl, _, _⟩ := Rd.val (Ints.rd (Sat.mem S.tail.tail (List.mem_append_left _ (rwData_mem _ _ _ _ _ hr hv))))
  refine enter (n := 23) Try.func15 rfl [(0, VP d 0), (1, VI x)] rfl rfl fun aa0 HH0 => ?_
  refine wp_seq_k fun KK1 hKK1 => ?_
  refine wp_region_lit ?_
  refine LG_do (want0 rfl) rfl rfl HH0 (M_alloc HH0 rfl st_memdir_Row.zero S) ?_
  rintro _ ww2 ⟨b4, rfl, SS2, _⟩ aa2 HH2
  clear HH0
  clear S
  refine LG_val (want0 rfl) rfl rfl HH2 (Y_asg HH2 rfl rfl) (fun aa3 HH3 => ?_)
  clear HH2
  refine L_end (t_norm (hKK1 _ _ ?_))
  refine wp_seq_k fun KK4 hKK4 => ?_
  refine wp_region_lit ?_
  refine LG_val (want0 rfl) rfl rfl HH3 (Y_mov HH3 rfl rfl) (fun aa5 HH5 => ?_)
  clear HH3
  refine LG_val (want0 rfl) rfl rfl HH5 (Y_chk HH5 rfl rfl) (fun aa6 HH6 => ?_)
  clear HH5
  refine LG_val (want0 rfl) rfl rfl HH6 (Y_fad (off := 8) (r := 8) HH6 rfl (by kernel_rfl) rfl rfl) (fun aa7 HH7 => ?_)
  clear HH6
  refine LG_val (want0 rfl) rfl rfl HH7 (Y_load HH7 rfl (by kernel_rfl) rfl (SS2.p1.cell 8)) (fun aa8 HH8 => ?_)
  clear HH7
  refine LG_val (want0 rfl) rfl rfl HH8 (Y_mov HH8 rfl rfl) (fun aa9 HH9 => ?_)
  clear HH8
  refine LG_val (want0 rfl) rfl rfl HH9 (Y_lookup HH9 rfl mt_row rfl rfl SS2.p2 hj (rwVals_get _ _ _ _ _ hr hv)) (fun aa10 HH10 => ?_)
  clear HH9
  refine LG_val (want0 rfl) rfl rfl HH10 (Y_mov HH10 rfl rfl) (fun aa11 HH11 => ?_)
  clear HH10
  refine LG_val (want0 rfl) rfl rfl HH11 (Y_ext HH11 rfl rfl rfl) (fun aa12 HH12 => ?_)
  clear HH11
  refine LG_val (want0 rfl) rfl rfl HH12 (Y_ext HH12 rfl rfl rfl) (fun aa13 HH13 => ?_)
  clear HH12
  refine LG_do (want0 rfl) rfl rfl HH13 (M_alloc HH13 rfl st_memdir_Row.zero SS2) ?_
  rintro _ ww14 ⟨b6, rfl, SS14, _⟩ aa14 HH14
  clear HH13
  clear SS2
  refine LG_do0 (want0 rfl) rfl HH14 (M_storeS HH14 rfl rfl rfl SS14 st_memdir_Row.size rfl rfl (one_row _ _ _ _ _)) ?_
  rintro _ ww15 ⟨SS15, _⟩ aa15 HH15
  clear HH14
  clear SS14
  refine LG_val (want0 rfl) rfl rfl HH15 (Y_asg HH15 rfl rfl) (fun aa16 HH16 => ?_)
  clear HH15
  refine L_end (t_norm (hKK4 _ _ ?_))
  refine wp_seq_k fun KK17 hKK17 => ?_
  refine wp_region_lit ?_
  refine LG_val (want0 rfl) rfl rfl HH16 (Y_fad (off := 2) (r := 2) HH16 rfl (by kernel_rfl) rfl rfl) (fun aa18 HH18 => ?_)
  clear HH16
  refine LG_val (want0 rfl) rfl rfl HH18 (Y_load HH18 rfl (by kernel_rfl) rfl (SS15.cell 2)) (fun aa19 HH19 => ?_)
  clear HH18
  refine LG_call (want0 rfl) rfl rfl rfl Try.func78 (by kernel_rfl) rfl HH19 (clone_ok (Ints.rd (Sat.mem SS15.p3.p3.p3.p3.tail.tail.tail.tail (List.mem_append_left _ (rwData_mem _ _ _ _ _ hr hv)))) (by omega) SS15) rfl ?_
  rintro e ww20 ⟨v7, rfl, SS20, _⟩
  obtain ⟨a7, c7, rfl, _, _⟩ := Ints.val SS20
  refine ⟨_, rfl, fun aa20 HH20 => ?_⟩
  clear HH19
  clear SS15
  refine LG_val (want0 rfl) rfl rfl HH20 (Y_fad (off := 2) (r := 2) HH20 rfl (by kernel_rfl) rfl rfl) (fun aa21 HH21 => ?_)
  clear HH20
  refine LG_do0 (want0 rfl) rfl HH21 (M_store HH21 rfl (by kernel_rfl) rfl rfl rfl rfl SS20.p1 rfl rfl) ?_
  rintro _ ww22 ⟨SS22, _⟩ aa22 HH22
  clear HH21
  clear SS20
  refine L_end (t_norm (hKK17 _ _ ?_))
  refine wp_seq_k fun KK23 hKK23 => ?_
  refine wp_region_lit ?_
  refine LG_val (want0 rfl) rfl rfl HH22 (Y_loadS HH22 rfl rfl SS22 st_memdir_Row.und st_memdir_Row.size) (fun aa24 HH24 => ?_)
  clear HH22
  refine LG_val (want0 rfl) rfl rfl HH24 (Y_mov HH24 rfl rfl) (fun aa25 HH25 => ?_)
  clear HH24
  refine LG_do0 (want0 rfl) rfl HH25 (M_storeS HH25 rfl rfl rfl SS22.p2 st_memdir_Row.size rfl rfl (one_row _ _ _ _ _)) ?_
  rintro _ ww26 ⟨SS26, _⟩ aa26 HH26
  clear HH25
  clear SS22
  refine LG_val (want0 rfl) rfl rfl HH26 (Y_asg HH26 rfl rfl) (fun aa27 HH27 => ?_)
  clear HH26
  refine L_end (t_norm (hKK23 _ _ ?_))
  refine wp_ret (retS2 rfl HH27 rfl rfl SS26 st_memdir_Row.und st_memdir_Row.size ?_)
  exact ⟨_, rfl, DRep.shut1 hvs SS26.p4.p4.p4.p4.p4.tail.tail⟩

set_option maxRecDepth 100000 in
theorem drow_none {w : World} {l : List HProp} {d : Nat} {c : Cfg} {rs : List Rw} (S0 : Sat w (DRep d c rs :: l)) (x : Int) (hj : keyAt (rwKeys rs) x = none) :
    Calls Try.prog 15 #[VP d 0, VI x] w fun e w' => ∃ v', e = .returned (.tuple #[.agg #[VI 0, VI 0, v'], VB false]) ∧ Sat w' (Ints v' [] :: DRep d c rs :: l) := by
  obtain ⟨pa, pn, pc, b, vs, hvs, S⟩ := DRep.open.1 S0
  clear S0
  refine enter (n := 23) Try.func15 rfl [(0, VP d 0), (1, VI x)] rfl rfl fun aa0 HH0 => ?_
  refine wp_seq_k fun KK1 hKK1 => ?_
  refine wp_region_lit ?_
  refine LG_do (want0 rfl) rfl rfl HH0 (M_alloc HH0 rfl st_memdir_Row.zero S) ?_
  rintro _ ww2 ⟨b4, rfl, SS2, _⟩ aa2 HH2
  clear HH0
  clear S
  refine LG_val (want0 rfl) rfl rfl HH2 (Y_asg HH2 rfl rfl) (fun aa3 HH3 => ?_)
  clear HH2
  refine L_end (t_norm (hKK1 _ _ ?_))
  refine wp_seq_k fun KK4 hKK4 => ?_
  refine wp_region_lit ?_
  refine LG_val (want0 rfl) rfl rfl HH3 (Y_mov HH3 rfl rfl) (fun aa5 HH5 => ?_)
  clear HH3
  refine LG_val (want0 rfl) rfl rfl HH5 (Y_chk HH5 rfl rfl) (fun aa6 HH6 => ?_)
  clear HH5
  refine LG_val (want0 rfl) rfl rfl HH6 (Y_fad (off := 8) (r := 8) HH6 rfl (by kernel_rfl) rfl rfl) (fun aa7 HH7 => ?_)
  clear HH6
  refine LG_val (want0 rfl) rfl rfl HH7 (Y_load HH7 rfl (by kernel_rfl) rfl (SS2.p1.cell 8)) (fun aa8 HH8 => ?_)
  clear HH7
  refine LG_val (want0 rfl) rfl rfl HH8 (Y_mov HH8 rfl rfl) (fun aa9 HH9 => ?_)
  clear HH8
  refine LG_val (want0 rfl) rfl rfl HH9 (Y_lookupNot HH9 rfl mt_row rfl rfl SS2.p2 hj) (fun aa10 HH10 => ?_)
  clear HH9
  refine LG_val (want0 rfl) rfl rfl HH10 (Y_mov HH10 rfl rfl) (fun aa11 HH11 => ?_)
  clear HH10
  refine LG_val (want0 rfl) rfl rfl HH11 (Y_ext HH11 rfl rfl rfl) (fun aa12 HH12 => ?_)
  clear HH11
  refine LG_val (want0 rfl) rfl rfl HH12 (Y_ext HH12 rfl rfl rfl) (fun aa13 HH13 => ?_)
  clear HH12
  refine LG_do (want0 rfl) rfl rfl HH13 (M_alloc HH13 rfl st_memdir_Row.zero SS2) ?_
  rintro _ ww14 ⟨b6, rfl, SS14, _⟩ aa14 HH14
  clear HH13
  clear SS2
  refine LG_do0 (want0 rfl) rfl HH14 (M_storeS HH14 rfl rfl rfl SS14 st_memdir_Row.size rfl rfl (one_row _ _ _ _ _)) ?_
  rintro _ ww15 ⟨SS15, _⟩ aa15 HH15
  clear HH14
  clear SS14
  refine LG_val (want0 rfl) rfl rfl HH15 (Y_asg HH15 rfl rfl) (fun aa16 HH16 => ?_)
  clear HH15
  refine L_end (t_norm (hKK4 _ _ ?_))
  refine wp_seq_k fun KK17 hKK17 => ?_
  refine wp_region_lit ?_
  refine LG_val (want0 rfl) rfl rfl HH16 (Y_fad (off := 2) (r := 2) HH16 rfl (by kernel_rfl) rfl rfl) (fun aa18 HH18 => ?_)
  clear HH16
  refine LG_val (want0 rfl) rfl rfl HH18 (Y_load HH18 rfl (by kernel_rfl) rfl (SS15.cell 2)) (fun aa19 HH19 => ?_)
  clear HH18
  refine LG_call (want0 rfl) rfl rfl rfl Try.func78 (by kernel_rfl) rfl HH19 (clone_ok (xs := []) (Rd.nil _ _) (by simp) SS15) rfl ?_
  rintro e ww20 ⟨v7, rfl, SS20, _⟩
  obtain ⟨a7, c7, rfl, _, _⟩ := Ints.val SS20
  refine ⟨_, rfl, fun aa20 HH20 => ?_⟩
  clear HH19
  clear SS15
  refine LG_val (want0 rfl) rfl rfl HH20 (Y_fad (off := 2) (r := 2) HH20 rfl (by kernel_rfl) rfl rfl) (fun aa21 HH21 => ?_)
  clear HH20
  refine LG_do0 (want0 rfl) rfl HH21 (M_store HH21 rfl (by kernel_rfl) rfl rfl rfl rfl SS20.p1 rfl rfl) ?_
  rintro _ ww22 ⟨SS22, _⟩ aa22 HH22
  clear HH21
  clear SS20
  refine L_end (t_norm (hKK17 _ _ ?_))
  refine wp_seq_k fun KK23 hKK23 => ?_
  refine wp_region_lit ?_
  refine LG_val (want0 rfl) rfl rfl HH22 (Y_loadS HH22 rfl rfl SS22 st_memdir_Row.und st_memdir_Row.size) (fun aa24 HH24 => ?_)
  clear HH22
  refine LG_val (want0 rfl) rfl rfl HH24 (Y_mov HH24 rfl rfl) (fun aa25 HH25 => ?_)
  clear HH24
  refine LG_do0 (want0 rfl) rfl HH25 (M_storeS HH25 rfl rfl rfl SS22.p2 st_memdir_Row.size rfl rfl (one_row _ _ _ _ _)) ?_
  rintro _ ww26 ⟨SS26, _⟩ aa26 HH26
  clear HH25
  clear SS22
  refine LG_val (want0 rfl) rfl rfl HH26 (Y_asg HH26 rfl rfl) (fun aa27 HH27 => ?_)
  clear HH26
  refine L_end (t_norm (hKK23 _ _ ?_))
  refine wp_ret (retS2 rfl HH27 rfl rfl SS26 st_memdir_Row.und st_memdir_Row.size ?_)
  exact ⟨_, rfl, DRep.shut1 hvs SS26.p4.p4.p4.p4.p4.tail.tail⟩

set_option maxRecDepth 100000 in
theorem dlines_ok {w : World} {l : List HProp} {d : Nat} {c : Cfg} (hc : c.small) {rs : List Rw} (S0 : Sat w (DRep d c rs :: l)) :
    Calls Try.prog 14 #[VP d 0] w fun e w' => ∃ v', e = .returned v' ∧ Sat w' (Ints v' (linesOf c rs c.lines) :: DRep d c rs :: l) := by
  obtain ⟨pa, pn, pc, b, vs, hvs, S⟩ := DRep.open.1 S0
  clear S0
  have hl8 := hc.l1
  have hlen := linesOf_len c rs
  refine enter (n := 31) Try.func14 rfl [(0, VP d 0)] rfl rfl fun aa0 HH0 => ?_
  refine wp_seq_k fun KK1 hKK1 => ?_
  refine wp_region_lit ?_
  refine LG_val (want0 rfl) rfl rfl HH0 (Y_asg HH0 rfl rfl) (fun aa2 HH2 => ?_)
  clear HH0
  refine L_end (t_norm (hKK1 _ _ ?_))
  refine wp_seq_k fun KK3 hKK3 => ?_
  refine wp_region_lit ?_
  refine LG_val (want0 rfl) rfl rfl HH2 (Y_asg HH2 rfl rfl) (fun aa4 HH4 => ?_)
  clear HH2
  refine L_end (t_norm (hKK3 _ _ ?_))
  refine wp_seq_k fun KK5 hKK5 => ?_
  refine wp_seq_k fun KK6 hKK6 => ?_
  refine wp_region_lit ?_
  refine LG_val (want0 rfl) rfl rfl HH4 (Y_mov HH4 rfl rfl) (fun aa7 HH7 => ?_)
  clear HH4
  refine LG_val (want0 rfl) rfl rfl HH7 (Y_chk HH7 rfl rfl) (fun aa8 HH8 => ?_)
  clear HH7
  refine LG_val (want0 rfl) rfl rfl HH8 (Y_fad (off := 0) (r := 0) HH8 rfl (by kernel_rfl) rfl rfl) (fun aa9 HH9 => ?_)
  clear HH8
  refine LG_val (want0 rfl) rfl rfl HH9 (Y_fad (off := 1) (r := 1) HH9 rfl (by kernel_rfl) rfl rfl) (fun aa10 HH10 => ?_)
  clear HH9
  refine LG_val (want0 rfl) rfl rfl HH10 (Y_load HH10 rfl (by kernel_rfl) rfl (S.cell 1)) (fun aa11 HH11 => ?_)
  clear HH10
  refine LG_val (want0 rfl) rfl rfl HH11 (Y_mov HH11 rfl rfl) (fun aa12 HH12 => ?_)
  clear HH11
  refine L_end (t_norm (hKK6 _ _ ?_))
  refine wp_block ?_
  refine c_loop (σ := Nat) (fun (i : Nat) a wx => ∃ (v3 : Value), Fr a 31 [(0, VP d 0), (3, v3), (11, VI c.lines), (12, VI i)] ∧ i ≤ c.lines ∧ Sat wx (Ints v3 (linesOf c rs i) :: cel d 110 (dirCells c pa pn pc b) :: Mp b (rwKeys rs) (rwVals rs vs) :: (rwData rs vs ++ l))) (fun i => c.lines - i) (0) ?_ ?_
  · exact ⟨VNil, HH12.sub rfl, by omega, Ints.nil _ _ S.p1.p1⟩
  clear HH12
  clear S
  rintro i aa13 ww13 ⟨v3, HH13, hi, SS13⟩
  refine wp_seq_k fun KK14 hKK14 => ?_
  refine wp_region_lit ?_
  by_cases hlt : (i : Int) < (c.lines : Int)
  ·
    refine LG_val (want0 rfl) rfl rfl HH13 (Y_yes (Y_lss HH13 rfl rfl rfl) (hlt)) (fun aa15 HH15 => ?_)
    clear HH13
    refine L_end (t_norm (hKK14 _ _ ?_))
    refine wp_seq_k fun KK16 hKK16 => ?_
    refine c_yes HH15 rfl ?_
    refine wp_skip (t_norm (hKK16 _ _ ?_))
    refine wp_seq_k fun KK17 hKK17 => ?_
    refine wp_block ?_
    refine wp_seq_k fun KK18 hKK18 => ?_
    refine wp_region_lit ?_
    refine LG_val (want0 rfl) rfl rfl HH15 (Y_mov HH15 rfl rfl) (fun aa19 HH19 => ?_)
    clear HH15
    refine LG_val (want0 rfl) rfl rfl HH19 (Y_asg HH19 rfl rfl) (fun aa20 HH20 => ?_)
    clear HH19
    refine L_end (t_norm (hKK18 _ _ ?_))
    refine wp_seq_k fun KK21 hKK21 => ?_
    rcases hk : keyAt (rwKeys rs) (i : Int) with _ | j
    ·
      refine wp_region_lit ?_
      refine LG_val (want0 rfl) rfl rfl HH20 (Y_mov HH20 rfl rfl) (fun aa22 HH22 => ?_)
      clear HH20
      refine LG_val (want0 rfl) rfl rfl HH22 (Y_chk HH22 rfl rfl) (fun aa23 HH23 => ?_)
      clear HH22
      refine LG_val (want0 rfl) rfl rfl HH23 (Y_fad (off := 8) (r := 8) HH23 rfl (by kernel_rfl) rfl rfl) (fun aa24 HH24 => ?_)
      clear HH23
      refine LG_val (want0 rfl) rfl rfl HH24 (Y_load HH24 rfl (by kernel_rfl) rfl (SS13.p1.cell 8)) (fun aa25 HH25 => ?_)
      clear HH24
      refine LG_val (want0 rfl) rfl rfl HH25 (Y_mov HH25 rfl rfl) (fun aa26 HH26 => ?_)
      clear HH25
      refine LG_val (want0 rfl) rfl rfl HH26 (Y_lookupNot HH26 rfl mt_row rfl rfl SS13.p2 hk) (fun aa27 HH27 => ?_)
      clear HH26
      refine LG_val (want0 rfl) rfl rfl HH27 (Y_mov HH27 rfl rfl) (fun aa28 HH28 => ?_)
      clear HH27
      refine LG_val (want0 rfl) rfl rfl HH28 (Y_ext HH28 rfl rfl rfl) (fun aa29 HH29 => ?_)
      clear HH28
      refine LG_val (want0 rfl) rfl rfl HH29 (Y_ext HH29 rfl rfl rfl) (fun aa30 HH30 => ?_)
      clear HH29
      refine LG_do (want0 rfl) rfl rfl HH30 (M_alloc HH30 rfl st_memdir_Row.zero SS13) ?_
      rintro _ ww31 ⟨b5, rfl, SS31, _⟩ aa31 HH31
      clear HH30
      clear SS13
      refine LG_do0 (want0 rfl) rfl HH31 (M_storeS HH31 rfl rfl rfl SS31 st_memdir_Row.size rfl rfl (one_row _ _ _ _ _)) ?_
      rintro _ ww32 ⟨SS32, _⟩ aa32 HH32
      clear HH31
      clear SS31
      refine LG_val (want0 rfl) rfl rfl HH32 (Y_asg HH32 rfl rfl) (fun aa33 HH33 => ?_)
      clear HH32
      refine L_end (t_norm (hKK21 _ _ ?_))
      refine wp_seq_k fun KK34 hKK34 => ?_
      refine wp_region_lit ?_
      refine LG_val (want0 rfl) rfl rfl HH33 (Y_mov HH33 rfl rfl) (fun aa35 HH35 => ?_)
      clear HH33
      refine L_end (t_norm (hKK34 _ _ ?_))
      refine c_no HH35 rfl ?_
      refine wp_skip (b_norm (t_norm (hKK17 _ _ ?_)))
      refine wp_region_lit ?_
      refine LG_val (want0 rfl) rfl rfl HH35 (Y_add HH35 rfl rfl rfl (IntWalk.i64_in _ (by omega))) (fun aa36 HH36 => ?_)
      clear HH35
      refine LG_val (want0 rfl) rfl rfl HH36 (Y_mov HH36 rfl rfl) (fun aa37 HH37 => ?_)
      clear HH36
      refine L_end (t_norm ?_)
      have e := linesOf_succ c rs i
      rw [hk] at e
      simp only [Option.isSome_none, Bool.false_eq_true, if_false, List.append_nil] at e
      exact ⟨i + 1, ⟨v3, HH37.sub rfl, by omega, by rw [e]; exact SS32.p3.p3.p3.p3.tail⟩, by first | omega | (dsimp only; omega)⟩
    ·
      obtain ⟨r, hr, hrl⟩ : ∃ r, rs[j]? = some r ∧ r.line = i := by have h1 := keyAt_lt hk; rw [List.getElem?_map] at h1; cases h2 : rs[j]? with | none => rw [h2] at h1; cases h1 | some r => rw [h2] at h1; exact ⟨r, rfl, by simpa using h1⟩
      obtain ⟨v, hv⟩ := rw_at hvs hr
      obtain ⟨va, vc, rfl, _, _⟩ := Rd.val (Ints.rd (Sat.mem SS13.p2.p2.p2.tail.tail.tail (List.mem_append_left _ (rwData_mem _ _ _ _ _ hr hv))))
      refine wp_region_lit ?_
      refine LG_val (want0 rfl) rfl rfl HH20 (Y_mov HH20 rfl rfl) (fun aa38 HH38 => ?_)
      clear HH20
      refine LG_val (want0 rfl) rfl rfl HH38 (Y_chk HH38 rfl rfl) (fun aa39 HH39 => ?_)
      clear HH38
      refine LG_val (want0 rfl) rfl rfl HH39 (Y_fad (off := 8) (r := 8) HH39 rfl (by kernel_rfl) rfl rfl) (fun aa40 HH40 => ?_)
      clear HH39
      refine LG_val (want0 rfl) rfl rfl HH40 (Y_load HH40 rfl (by kernel_rfl) rfl (SS13.p1.cell 8)) (fun aa41 HH41 => ?_)
      clear HH40
      refine LG_val (want0 rfl) rfl rfl HH41 (Y_mov HH41 rfl rfl) (fun aa42 HH42 => ?_)
      clear HH41
      refine LG_val (want0 rfl) rfl rfl HH42 (Y_lookup HH42 rfl mt_row rfl rfl SS13.p2 hk (rwVals_get _ _ _ _ _ hr hv)) (fun aa43 HH43 => ?_)
      clear HH42
      refine LG_val (want0 rfl) rfl rfl HH43 (Y_mov HH43 rfl rfl) (fun aa44 HH44 => ?_)
      clear HH43
      refine LG_val (want0 rfl) rfl rfl HH44 (Y_ext HH44 rfl rfl rfl) (fun aa45 HH45 => ?_)
      clear HH44
      refine LG_val (want0 rfl) rfl rfl HH45 (Y_ext HH45 rfl rfl rfl) (fun aa46 HH46 => ?_)
      clear HH45
      refine LG_do (want0 rfl) rfl rfl HH46 (M_alloc HH46 rfl st_memdir_Row.zero SS13) ?_
      rintro _ ww47 ⟨b5, rfl, SS47, _⟩ aa47 HH47
      clear HH46
      clear SS13
      refine LG_do0 (want0 rfl) rfl HH47 (M_storeS HH47 rfl rfl rfl SS47 st_memdir_Row.size rfl rfl (one_row _ _ _ _ _)) ?_
      rintro _ ww48 ⟨SS48, _⟩ aa48 HH48
      clear HH47
      clear SS47
      refine LG_val (want0 rfl) rfl rfl HH48 (Y_asg HH48 rfl rfl) (fun aa49 HH49 => ?_)
      clear HH48
      refine L_end (t_norm (hKK21 _ _ ?_))
      refine wp_seq_k fun KK50 hKK50 => ?_
      refine wp_region_lit ?_
      refine LG_val (want0 rfl) rfl rfl HH49 (Y_mov HH49 rfl rfl) (fun aa51 HH51 => ?_)
      clear HH49
      refine L_end (t_norm (hKK50 _ _ ?_))
      refine c_yes HH51 rfl ?_
      refine wp_region_lit ?_
      refine LG_val (want0 rfl) rfl rfl HH51 (Y_mov HH51 rfl rfl) (fun aa52 HH52 => ?_)
      clear HH51
      refine LG_val (want0 rfl) rfl rfl HH52 (Y_mov HH52 rfl rfl) (fun aa53 HH53 => ?_)
      clear HH52
      refine LG_do (want0 rfl) rfl rfl HH53 (M_buildSlice HH53 rfl ty_ints rfl rfl rfl (by simp [Value.cells]) rfl SS48) ?_
      rintro _ ww54 ⟨b27, rfl, SS54, _⟩ aa54 HH54
      clear HH53
      clear SS48
      refine LG_do (want0 rfl) rfl rfl HH54 (M_appI HH54 rfl rfl rfl SS54.p2.p1 (by have := hlen i; omega)) ?_
      rintro _ ww55 SS55 aa55 HH55
      clear HH54
      clear SS54
      refine LG_val (want0 rfl) rfl rfl HH55 (Y_asg HH55 rfl rfl) (fun aa56 HH56 => ?_)
      clear HH55
      refine L_end (b_norm (t_norm (hKK17 _ _ ?_)))
      refine wp_region_lit ?_
      refine LG_val (want0 rfl) rfl rfl HH56 (Y_add HH56 rfl rfl rfl (IntWalk.i64_in _ (by omega))) (fun aa57 HH57 => ?_)
      clear HH56
      refine LG_val (want0 rfl) rfl rfl HH57 (Y_mov HH57 rfl rfl) (fun aa58 HH58 => ?_)
      clear HH57
      refine L_end (t_norm ?_)
      have e := linesOf_succ c rs i
      rw [hk] at e
      simp only [Option.isSome_some, if_true] at e
      exact ⟨i + 1, ⟨_, HH58.sub rfl, by omega, by rw [e]; exact SS55.p4.p4.p3.p3.p4.tail.tail⟩, by first | omega | (dsimp only; omega)⟩
  ·
    refine LG_val (want0 rfl) rfl rfl HH13 (Y_no (Y_lss HH13 rfl rfl rfl) (hlt)) (fun aa59 HH59 => ?_)
    clear HH13
    refine L_end (t_norm (hKK14 _ _ ?_))
    refine wp_seq_k fun KK60 hKK60 => ?_
    refine c_no HH59 rfl ?_
    refine wp_exit (t_exit (t_exit (b_exit (t_norm (hKK5 _ _ ?_)))))
    refine wp_seq_k fun KK61 hKK61 => ?_
    refine wp_region_lit ?_
    refine LG_val (want0 rfl) rfl rfl HH59 (Y_mov HH59 rfl rfl) (fun aa62 HH62 => ?_)
    clear HH59
    refine LG_val (want0 rfl) rfl rfl HH62 (Y_asg HH62 rfl rfl) (fun aa63 HH63 => ?_)
    clear HH62
    refine L_end (t_norm (hKK61 _ _ ?_))
    refine wp_ret (ret1 rfl HH63 rfl ?_)
    have e : i = c.lines := by omega
    subst e
    exact ⟨_, rfl, DRep.shut1 hvs SS13.p2.p2.p2⟩

set_option maxRecDepth 100000 in
theorem dset_none {w : World} {l : List HProp} {d : Nat} {c : Cfg} {rs : List Rw} (S0 : Sat w (DRep d c rs :: l)) (x st hd : Int) (dv : Value) (hj : keyAt (rwKeys rs) x = none) :
    Calls Try.prog 37 #[VP d 0, VI x, VI st, VI hd, dv] w fun e w' => e = .returned (VI 3) ∧ Sat w' (DRep d c rs :: l) := by
  obtain ⟨pa, pn, pc, b, vs, hvs, S⟩ := DRep.open.1 S0
  clear S0
  refine enter (n := 82) Try.func37 rfl [(0, VP d 0), (1, VI x), (2, VI st), (3, VI hd), (4, dv)] rfl rfl fun aa0 HH0 => ?_
  refine wp_seq_k fun KK1 hKK1 => ?_
  refine wp_region_lit ?_
  refine LG_val (want0 rfl) rfl rfl HH0 (Y_asg HH0 rfl rfl) (fun aa2 HH2 => ?_)
  clear HH0
  refine L_end (t_norm (hKK1 _ _ ?_))
  refine wp_seq_k fun KK3 hKK3 => ?_
  refine wp_region_lit ?_
  refine LG_val (want0 rfl) rfl rfl HH2 (Y_mov HH2 rfl rfl) (fun aa4 HH4 => ?_)
  clear HH2
  refine LG_val (want0 rfl) rfl rfl HH4 (Y_chk HH4 rfl rfl) (fun aa5 HH5 => ?_)
  clear HH4
  refine LG_val (want0 rfl) rfl rfl HH5 (Y_fad (off := 8) (r := 8) HH5 rfl (by kernel_rfl) rfl rfl) (fun aa6 HH6 => ?_)
  clear HH5
  refine LG_val (want0 rfl) rfl rfl HH6 (Y_load HH6 rfl (by kernel_rfl) rfl (S.cell 8)) (fun aa7 HH7 => ?_)
  clear HH6
  refine LG_val (want0 rfl) rfl rfl HH7 (Y_mov HH7 rfl rfl) (fun aa8 HH8 => ?_)
  clear HH7
  refine LG_val (want0 rfl) rfl rfl HH8 (Y_lookupNot HH8 rfl mt_row rfl rfl S.p1 hj) (fun aa9 HH9 => ?_)
  clear HH8
  refine LG_val (want0 rfl) rfl rfl HH9 (Y_mov HH9 rfl rfl) (fun aa10 HH10 => ?_)
  clear HH9
  refine LG_val (want0 rfl) rfl rfl HH10 (Y_ext HH10 rfl rfl rfl) (fun aa11 HH11 => ?_)
  clear HH10
  refine LG_val (want0 rfl) rfl rfl HH11 (Y_ext HH11 rfl rfl rfl) (fun aa12 HH12 => ?_)
  clear HH11
  refine LG_do (want0 rfl) rfl rfl HH12 (M_alloc HH12 rfl st_memdir_Row.zero S) ?_
  rintro _ ww13 ⟨b11, rfl, SS13, _⟩ aa13 HH13
  clear HH12
  clear S
  refine LG_do0 (want0 rfl) rfl HH13 (M_storeS HH13 rfl rfl rfl SS13 st_memdir_Row.size rfl rfl (one_row _ _ _ _ _)) ?_
  rintro _ ww14 ⟨SS14, _⟩ aa14 HH14
  clear HH13
  clear SS13
  refine LG_val (want0 rfl) rfl rfl HH14 (Y_asg HH14 rfl rfl) (fun aa15 HH15 => ?_)
  clear HH14
  refine L_end (t_norm (hKK3 _ _ ?_))
  refine wp_seq_k fun KK16 hKK16 => ?_
  refine wp_block ?_
  refine wp_seq_k fun KK17 hKK17 => ?_
  refine wp_region_lit ?_
  refine LG_val (want0 rfl) rfl rfl HH15 (Y_mov HH15 rfl rfl) (fun aa18 HH18 => ?_)
  clear HH15
  refine LG_val (want0 rfl) rfl rfl HH18 (Y_not HH18 rfl rfl) (fun aa19 HH19 => ?_)
  clear HH18
  refine LG_val (want0 rfl) rfl rfl HH19 (Y_asg HH19 rfl rfl) (fun aa20 HH20 => ?_)
  clear HH19
  refine L_end (t_norm (hKK17 _ _ ?_))
  refine c_yes HH20 rfl ?_
  refine wp_seq_k fun KK21 hKK21 => ?_
  refine wp_region_lit ?_
  refine LG_val (want0 rfl) rfl rfl HH20 (Y_asg HH20 rfl rfl) (fun aa22 HH22 => ?_)
  clear HH20
  refine L_end (t_norm (hKK21 _ _ ?_))
  refine wp_ret (b_ret (t_ret (ret1 rfl HH22 rfl ?_)))
  exact ⟨rfl, DRep.open.2 ⟨pa, pn, pc, b, vs, hvs, SS14.p2.p2.p2.tail⟩⟩

set_option maxRecDepth 100000 in
theorem dset_bad {w : World} {l : List HProp} {d : Nat} {c : Cfg} {rs : List Rw} (S0 : Sat w (DRep d c rs :: l)) (x st hd : Int) (da : Option Addr) (dc : Nat) (data : List Int) {N : Nat} (hN : data.length = N) {j : Nat} {r : Rw} (hj : keyAt (rwKeys rs) x = some j) (hr : rs[j]? = some r)
    (hbad : st < 0 ∨ 2 < st ∨ hd < -1 ∨ (c.nodes : Int) ≤ hd ∨ (hd = -1 ∧ st ≠ 0) ∨ (hd ≠ -1 ∧ st = 0) ∨ (data.length ≠ 0 ∧ data.length ≠ c.words)) :
    Calls Try.prog 37 #[VP d 0, VI x, VI st, VI hd, .slice da N dc] w fun e w' => e = .returned (VI 1) ∧ Sat w' (DRep d c rs :: l) := by
  subst hN
  obtain ⟨pa, pn, pc, b, vs, hvs, S⟩ := DRep.open.1 S0
  clear S0
  obtain ⟨v, hv⟩ := rw_at hvs hr
  obtain ⟨va, vc, rfl, _, _⟩ := Rd.val (Ints.rd (Sat.mem S.tail.tail (List.mem_append_left _ (rwData_mem _ _ _ _ _ hr hv))))
  refine enter (n := 82) Try.func37 rfl [(0, VP d 0), (1, VI x), (2, VI st), (3, VI hd), (4, .slice da data.length dc)] rfl rfl fun aa0 HH0 => ?_
  refine wp_seq_k fun KK1 hKK1 => ?_
  refine wp_region_lit ?_
  refine LG_val (want0 rfl) rfl rfl HH0 (Y_asg HH0 rfl rfl) (fun aa2 HH2 => ?_)
  clear HH0
  refine L_end (t_norm (hKK1 _ _ ?_))
  refine wp_seq_k fun KK3 hKK3 => ?_
  refine wp_region_lit ?_
  refine LG_val (want0 rfl) rfl rfl HH2 (Y_mov HH2 rfl rfl) (fun aa4 HH4 => ?_)
  clear HH2
  refine LG_val (want0 rfl) rfl rfl HH4 (Y_chk HH4 rfl rfl) (fun aa5 HH5 => ?_)
  clear HH4
  refine LG_val (want0 rfl) rfl rfl HH5 (Y_fad (off := 8) (r := 8) HH5 rfl (by kernel_rfl) rfl rfl) (fun aa6 HH6 => ?_)
  clear HH5
  refine LG_val (want0 rfl) rfl rfl HH6 (Y_load HH6 rfl (by kernel_rfl) rfl (S.cell 8)) (fun aa7 HH7 => ?_)
  clear HH6
  refine LG_val (want0 rfl) rfl rfl HH7 (Y_mov HH7 rfl rfl) (fun aa8 HH8 => ?_)
  clear HH7
  refine LG_val (want0 rfl) rfl rfl HH8 (Y_lookup HH8 rfl mt_row rfl rfl S.p1 hj (rwVals_get _ _ _ _ _ hr hv)) (fun aa9 HH9 => ?_)
  clear HH8
  refine LG_val (want0 rfl) rfl rfl HH9 (Y_mov HH9 rfl rfl) (fun aa10 HH10 => ?_)
  clear HH9
  refine LG_val (want0 rfl) rfl rfl HH10 (Y_ext HH10 rfl rfl rfl) (fun aa11 HH11 => ?_)
  clear HH10
  refine LG_val (want0 rfl) rfl rfl HH11 (Y_ext HH11 rfl rfl rfl) (fun aa12 HH12 => ?_)
  clear HH11
  refine LG_do (want0 rfl) rfl rfl HH12 (M_alloc HH12 rfl st_memdir_Row.zero S) ?_
  rintro _ ww13 ⟨b11, rfl, SS13, _⟩ aa13 HH13
  clear HH12
  clear S
  refine LG_do0 (want0 rfl) rfl HH13 (M_storeS HH13 rfl rfl rfl SS13 st_memdir_Row.size rfl rfl (one_row _ _ _ _ _)) ?_
  rintro _ ww14 ⟨SS14, _⟩ aa14 HH14
  clear HH13
  clear SS13
  refine LG_val (want0 rfl) rfl rfl HH14 (Y_asg HH14 rfl rfl) (fun aa15 HH15 => ?_)
  clear HH14
  refine L_end (t_norm (hKK3 _ _ ?_))
  refine wp_seq_k fun KK16 hKK16 => ?_
  refine wp_block ?_
  refine wp_seq_k fun KK17 hKK17 => ?_
  refine wp_region_lit ?_
  refine LG_val (want0 rfl) rfl rfl HH15 (Y_mov HH15 rfl rfl) (fun aa18 HH18 => ?_)
  clear HH15
  refine LG_val (want0 rfl) rfl rfl HH18 (Y_not HH18 rfl rfl) (fun aa19 HH19 => ?_)
  clear HH18
  refine LG_val (want0 rfl) rfl rfl HH19 (Y_asg HH19 rfl rfl) (fun aa20 HH20 => ?_)
  clear HH19
  refine L_end (t_norm (hKK17 _ _ ?_))
  refine c_no HH20 rfl ?_
  refine wp_seq_k fun KK21 hKK21 => ?_
  refine wp_region_lit ?_
  refine LG_val (want0 rfl) rfl rfl HH20 (Y_mov HH20 rfl rfl) (fun aa22 HH22 => ?_)
  clear HH20
  by_cases q1 : st < 0
  ·
    refine LG_val (want0 rfl) rfl rfl HH22 (Y_yes (Y_lss HH22 rfl rfl rfl) (q1)) (fun aa23 HH23 => ?_)
    clear HH22
    refine LG_val (want0 rfl) rfl rfl HH23 (Y_mov HH23 rfl rfl) (fun aa24 HH24 => ?_)
    clear HH23
    refine LG_skip (HH24.unwant rfl rfl rfl rfl) rfl rfl HH24 (fun aa25 HH25 => ?_)
    clear HH24
    refine LG_skip (HH25.unwant rfl rfl rfl rfl) rfl rfl HH25 (fun aa26 HH26 => ?_)
    clear HH25
    refine LG_val (want0 rfl) rfl rfl HH26 (Y_pickT HH26 rfl rfl rfl) (fun aa27 HH27 => ?_)
    clear HH26
    refine LG_val (want0 rfl) rfl rfl HH27 (Y_mov HH27 rfl rfl) (fun aa28 HH28 => ?_)
    clear HH27
    refine LG_skip (HH28.unwant rfl rfl rfl rfl) rfl rfl HH28 (fun aa29 HH29 => ?_)
    clear HH28
    refine LG_skip (HH29.unwant rfl rfl rfl rfl) rfl rfl HH29 (fun aa30 HH30 => ?_)
    clear HH29
    refine LG_val (want0 rfl) rfl rfl HH30 (Y_pickT HH30 rfl rfl rfl) (fun aa31 HH31 => ?_)
    clear HH30
    refine LG_val (want0 rfl) rfl rfl HH31 (Y_mov HH31 rfl rfl) (fun aa32 HH32 => ?_)
    clear HH31
    refine LG_skip (HH32.unwant rfl rfl rfl rfl) rfl rfl HH32 (fun aa33 HH33 => ?_)
    clear HH32
    refine LG_skip (HH33.unwant rfl rfl rfl rfl) rfl rfl HH33 (fun aa34 HH34 => ?_)
    clear HH33
    refine LG_skip (HH34.unwant rfl rfl rfl rfl) rfl rfl HH34 (fun aa35 HH35 => ?_)
    clear HH34
    refine LG_skip (HH35.unwant rfl rfl rfl rfl) rfl rfl HH35 (fun aa36 HH36 => ?_)
    clear HH35
    refine LG_skip (HH36.unwant rfl rfl rfl rfl) rfl rfl HH36 (fun aa37 HH37 => ?_)
    clear HH36
    refine LG_skip (HH37.unwant rfl rfl rfl rfl) rfl rfl HH37 (fun aa38 HH38 => ?_)
    clear HH37
    refine LG_skip (HH38.unwant rfl rfl rfl rfl) rfl rfl HH38 (fun aa39 HH39 => ?_)
    clear HH38
    refine LG_val (want0 rfl) rfl rfl HH39 (Y_pickT HH39 rfl rfl rfl) (fun aa40 HH40 => ?_)
    clear HH39
    refine LG_val (want0 rfl) rfl rfl HH40 (Y_asg HH40 rfl rfl) (fun aa41 HH41 => ?_)
    clear HH40
    refine L_end (t_norm (hKK21 _ _ ?_))
    refine c_yes HH41 rfl ?_
    refine wp_seq_k fun KK42 hKK42 => ?_
    refine wp_region_lit ?_
    refine LG_val (want0 rfl) rfl rfl HH41 (Y_asg HH41 rfl rfl) (fun aa43 HH43 => ?_)
    clear HH41
    refine L_end (t_norm (hKK42 _ _ ?_))
    refine wp_ret (b_ret (t_ret (ret1 rfl HH43 rfl ?_)))
    exact ⟨rfl, DRep.open.2 ⟨pa, pn, pc, b, vs, hvs, SS14.p2.p2.p2.tail⟩⟩
  ·
    refine LG_val (want0 rfl) rfl rfl HH22 (Y_no (Y_lss HH22 rfl rfl rfl) (q1)) (fun aa44 HH44 => ?_)
    clear HH22
    refine LG_val (want0 rfl) rfl rfl HH44 (Y_mov HH44 rfl rfl) (fun aa45 HH45 => ?_)
    clear HH44
    refine LG_val (HH45.want rfl rfl rfl) rfl rfl HH45 (Y_mov HH45 rfl rfl) (fun aa46 HH46 => ?_)
    clear HH45
    by_cases q2 : 2 < st
    ·
      refine LG_val (HH46.want rfl rfl rfl) rfl rfl HH46 (Y_yes (Y_gtr HH46 rfl rfl rfl) (q2)) (fun aa47 HH47 => ?_)
      clear HH46
      refine LG_val (want0 rfl) rfl rfl HH47 (Y_pickF HH47 rfl rfl rfl) (fun aa48 HH48 => ?_)
      clear HH47
      refine LG_val (want0 rfl) rfl rfl HH48 (Y_mov HH48 rfl rfl) (fun aa49 HH49 => ?_)
      clear HH48
      refine LG_skip (HH49.unwant rfl rfl rfl rfl) rfl rfl HH49 (fun aa50 HH50 => ?_)
      clear HH49
      refine LG_skip (HH50.unwant rfl rfl rfl rfl) rfl rfl HH50 (fun aa51 HH51 => ?_)
      clear HH50
      refine LG_val (want0 rfl) rfl rfl HH51 (Y_pickT HH51 rfl rfl rfl) (fun aa52 HH52 => ?_)
      clear HH51
      refine LG_val (want0 rfl) rfl rfl HH52 (Y_mov HH52 rfl rfl) (fun aa53 HH53 => ?_)
      clear HH52
      refine LG_skip (HH53.unwant rfl rfl rfl rfl) rfl rfl HH53 (fun aa54 HH54 => ?_)
      clear HH53
      refine LG_skip (HH54.unwant rfl rfl rfl rfl) rfl rfl HH54 (fun aa55 HH55 => ?_)
      clear HH54
      refine LG_skip (HH55.unwant rfl rfl rfl rfl) rfl rfl HH55 (fun aa56 HH56 => ?_)
      clear HH55
      refine LG_skip (HH56.unwant rfl rfl rfl rfl) rfl rfl HH56 (fun aa57 HH57 => ?_)
      clear HH56
      refine LG_skip (HH57.unwant rfl rfl rfl rfl) rfl rfl HH57 (fun aa58 HH58 => ?_)
      clear HH57
      refine LG_skip (HH58.unwant rfl rfl rfl rfl) rfl rfl HH58 (fun aa59 HH59 => ?_)
      clear HH58
      refine LG_skip (HH59.unwant rfl rfl rfl rfl) rfl rfl HH59 (fun aa60 HH60 => ?_)
      clear HH59
      refine LG_val (want0 rfl) rfl rfl HH60 (Y_pickT HH60 rfl rfl rfl) (fun aa61 HH61 => ?_)
      clear HH60
      refine LG_val (want0 rfl) rfl rfl HH61 (Y_asg HH61 rfl rfl) (fun aa62 HH62 => ?_)
      clear HH61
      refine L_end (t_norm (hKK21 _ _ ?_))
      refine c_yes HH62 rfl ?_
      refine wp_seq_k fun KK63 hKK63 => ?_
      refine wp_region_lit ?_
      refine LG_val (want0 rfl) rfl rfl HH62 (Y_asg HH62 rfl rfl) (fun aa64 HH64 => ?_)
      clear HH62
      refine L_end (t_norm (hKK63 _ _ ?_))
      refine wp_ret (b_ret (t_ret (ret1 rfl HH64 rfl ?_)))
      exact ⟨rfl, DRep.open.2 ⟨pa, pn, pc, b, vs, hvs, SS14.p2.p2.p2.tail⟩⟩
    ·
      refine LG_val (HH46.want rfl rfl rfl) rfl rfl HH46 (Y_no (Y_gtr HH46 rfl rfl rfl) (q2)) (fun aa65 HH65 => ?_)
      clear HH46
      refine LG_val (want0 rfl) rfl rfl HH65 (Y_pickF HH65 rfl rfl rfl) (fun aa66 HH66 => ?_)
      clear HH65
      refine LG_val (want0 rfl) rfl rfl HH66 (Y_mov HH66 rfl rfl) (fun aa67 HH67 => ?_)
      clear HH66
      refine LG_val (HH67.want rfl rfl rfl) rfl rfl HH67 (Y_mov HH67 rfl rfl) (fun aa68 HH68 => ?_)
      clear HH67
      by_cases q3 : hd < -1
      ·
        refine LG_val (HH68.want rfl rfl rfl) rfl rfl HH68 (Y_yes (Y_lss HH68 rfl rfl rfl) (q3)) (fun aa69 HH69 => ?_)
        clear HH68
        refine LG_val (want0 rfl) rfl rfl HH69 (Y_pickF HH69 rfl rfl rfl) (fun aa70 HH70 => ?_)
        clear HH69
        refine LG_val (want0 rfl) rfl rfl HH70 (Y_mov HH70 rfl rfl) (fun aa71 HH71 => ?_)
        clear HH70
        refine LG_skip (HH71.unwant rfl rfl rfl rfl) rfl rfl HH71 (fun aa72 HH72 => ?_)
        clear HH71
        refine LG_skip (HH72.unwant rfl rfl rfl rfl) rfl rfl HH72 (fun aa73 HH73 => ?_)
        clear HH72
        refine LG_skip (HH73.unwant rfl rfl rfl rfl) rfl rfl HH73 (fun aa74 HH74 => ?_)
        clear HH73
        refine LG_skip (HH74.unwant rfl rfl rfl rfl) rfl rfl HH74 (fun aa75 HH75 => ?_)
        clear HH74
        refine LG_skip (HH75.unwant rfl rfl rfl rfl) rfl rfl HH75 (fun aa76 HH76 => ?_)
        clear HH75
        refine LG_skip (HH76.unwant rfl rfl rfl rfl) rfl rfl HH76 (fun aa77 HH77 => ?_)
        clear HH76
        refine LG_skip (HH77.unwant rfl rfl rfl rfl) rfl rfl HH77 (fun aa78 HH78 => ?_)
        clear HH77
        refine LG_val (want0 rfl) rfl rfl HH78 (Y_pickT HH78 rfl rfl rfl) (fun aa79 HH79 => ?_)
        clear HH78
        refine LG_val (want0 rfl) rfl rfl HH79 (Y_asg HH79 rfl rfl) (fun aa80 HH80 => ?_)
        clear HH79
        refine L_end (t_norm (hKK21 _ _ ?_))
        refine c_yes HH80 rfl ?_
        refine wp_seq_k fun KK81 hKK81 => ?_
        refine wp_region_lit ?_
        refine LG_val (want0 rfl) rfl rfl HH80 (Y_asg HH80 rfl rfl) (fun aa82 HH82 => ?_)
        clear HH80
        refine L_end (t_norm (hKK81 _ _ ?_))
        refine wp_ret (b_ret (t_ret (ret1 rfl HH82 rfl ?_)))
        exact ⟨rfl, DRep.open.2 ⟨pa, pn, pc, b, vs, hvs, SS14.p2.p2.p2.tail⟩⟩
      ·
        refine LG_val (HH68.want rfl rfl rfl) rfl rfl HH68 (Y_no (Y_lss HH68 rfl rfl rfl) (q3)) (fun aa83 HH83 => ?_)
        clear HH68
        refine LG_val (want0 rfl) rfl rfl HH83 (Y_pickF HH83 rfl rfl rfl) (fun aa84 HH84 => ?_)
        clear HH83
        refine LG_val (want0 rfl) rfl rfl HH84 (Y_mov HH84 rfl rfl) (fun aa85 HH85 => ?_)
        clear HH84
        refine LG_val (HH85.want rfl rfl rfl) rfl rfl HH85 (Y_mov HH85 rfl rfl) (fun aa86 HH86 => ?_)
        clear HH85
        refine LG_val (HH86.want rfl rfl rfl) rfl rfl HH86 (Y_mov HH86 rfl rfl) (fun aa87 HH87 => ?_)
        clear HH86
        refine LG_val (HH87.want rfl rfl rfl) rfl rfl HH87 (Y_chk HH87 rfl rfl) (fun aa88 HH88 => ?_)
        clear HH87
        refine LG_val (HH88.want rfl rfl rfl) rfl rfl HH88 (Y_fad (off := 0) (r := 0) HH88 rfl (by kernel_rfl) rfl rfl) (fun aa89 HH89 => ?_)
        clear HH88
        refine LG_val (HH89.want rfl rfl rfl) rfl rfl HH89 (Y_fad (off := 0) (r := 0) HH89 rfl (by kernel_rfl) rfl rfl) (fun aa90 HH90 => ?_)
        clear HH89
        refine LG_val (HH90.want rfl rfl rfl) rfl rfl HH90 (Y_load HH90 rfl (by kernel_rfl) rfl (SS14.p1.cell 0)) (fun aa91 HH91 => ?_)
        clear HH90
        by_cases q4 : (c.nodes : Int) ≤ hd
        ·
          refine LG_val (HH91.want rfl rfl rfl) rfl rfl HH91 (Y_yes (Y_geq HH91 rfl rfl rfl) (q4)) (fun aa92 HH92 => ?_)
          clear HH91
          refine LG_val (want0 rfl) rfl rfl HH92 (Y_pickF HH92 rfl rfl rfl) (fun aa93 HH93 => ?_)
          clear HH92
          refine LG_val (want0 rfl) rfl rfl HH93 (Y_asg HH93 rfl rfl) (fun aa94 HH94 => ?_)
          clear HH93
          refine L_end (t_norm (hKK21 _ _ ?_))
          refine c_yes HH94 rfl ?_
          refine wp_seq_k fun KK95 hKK95 => ?_
          refine wp_region_lit ?_
          refine LG_val (want0 rfl) rfl rfl HH94 (Y_asg HH94 rfl rfl) (fun aa96 HH96 => ?_)
          clear HH94
          refine L_end (t_norm (hKK95 _ _ ?_))
          refine wp_ret (b_ret (t_ret (ret1 rfl HH96 rfl ?_)))
          exact ⟨rfl, DRep.open.2 ⟨pa, pn, pc, b, vs, hvs, SS14.p2.p2.p2.tail⟩⟩
        ·
          refine LG_val (HH91.want rfl rfl rfl) rfl rfl HH91 (Y_no (Y_geq HH91 rfl rfl rfl) (q4)) (fun aa97 HH97 => ?_)
          clear HH91
          refine LG_val (want0 rfl) rfl rfl HH97 (Y_pickF HH97 rfl rfl rfl) (fun aa98 HH98 => ?_)
          clear HH97
          refine LG_val (want0 rfl) rfl rfl HH98 (Y_asg HH98 rfl rfl) (fun aa99 HH99 => ?_)
          clear HH98
          refine L_end (t_norm (hKK21 _ _ ?_))
          refine c_no HH99 rfl ?_
          refine wp_seq_k fun KK100 hKK100 => ?_
          refine wp_region_lit ?_
          refine LG_val (want0 rfl) rfl rfl HH99 (Y_mov HH99 rfl rfl) (fun aa101 HH101 => ?_)
          clear HH99
          by_cases q5 : hd = -1
          ·
            refine LG_val (want0 rfl) rfl rfl HH101 (Y_yes (Y_eql HH101 rfl rfl rfl) (q5)) (fun aa102 HH102 => ?_)
            clear HH101
            refine LG_val (want0 rfl) rfl rfl HH102 (Y_mov HH102 rfl rfl) (fun aa103 HH103 => ?_)
            clear HH102
            by_cases q6 : st = 0
            ·
              refine LG_val (want0 rfl) rfl rfl HH103 (Y_yes (Y_eql HH103 rfl rfl rfl) (q6)) (fun aa104 HH104 => ?_)
              clear HH103
              refine LG_val (want0 rfl) rfl rfl HH104 (Y_to (Y_neqB HH104 rfl (by kernel_rfl) rfl rfl) (rfl)) (fun aa105 HH105 => ?_)
              clear HH104
              refine LG_val (want0 rfl) rfl rfl HH105 (Y_mov HH105 rfl rfl) (fun aa106 HH106 => ?_)
              clear HH105
              refine LG_val (HH106.want rfl rfl rfl) rfl rfl HH106 (Y_mov HH106 rfl rfl) (fun aa107 HH107 => ?_)
              clear HH106
              refine LG_val (HH107.want rfl rfl rfl) rfl rfl HH107 (Y_lenS HH107 rfl (by kernel_rfl) rfl) (fun aa108 HH108 => ?_)
              clear HH107
              by_cases q7 : (data.length : Int) ≠ 0
              ·
                refine LG_val (HH108.want rfl rfl rfl) rfl rfl HH108 (Y_yes (Y_neq HH108 rfl rfl rfl) (q7)) (fun aa109 HH109 => ?_)
                clear HH108
                refine LG_val (HH109.want rfl rfl rfl) rfl rfl HH109 (Y_mov HH109 rfl rfl) (fun aa110 HH110 => ?_)
                clear HH109
                refine LG_val (HH110.want rfl rfl rfl) rfl rfl HH110 (Y_mov HH110 rfl rfl) (fun aa111 HH111 => ?_)
                clear HH110
                refine LG_val (HH111.want rfl rfl rfl) rfl rfl HH111 (Y_lenS HH111 rfl (by kernel_rfl) rfl) (fun aa112 HH112 => ?_)
                clear HH111
                refine LG_val (HH112.want rfl rfl rfl) rfl rfl HH112 (Y_mov HH112 rfl rfl) (fun aa113 HH113 => ?_)
                clear HH112
                refine LG_val (HH113.want rfl rfl rfl) rfl rfl HH113 (Y_chk HH113 rfl rfl) (fun aa114 HH114 => ?_)
                clear HH113
                refine LG_val (HH114.want rfl rfl rfl) rfl rfl HH114 (Y_fad (off := 0) (r := 0) HH114 rfl (by kernel_rfl) rfl rfl) (fun aa115 HH115 => ?_)
                clear HH114
                refine LG_val (HH115.want rfl rfl rfl) rfl rfl HH115 (Y_fad (off := 2) (r := 2) HH115 rfl (by kernel_rfl) rfl rfl) (fun aa116 HH116 => ?_)
                clear HH115
                refine LG_val (HH116.want rfl rfl rfl) rfl rfl HH116 (Y_load HH116 rfl (by kernel_rfl) rfl (SS14.p1.cell 2)) (fun aa117 HH117 => ?_)
                clear HH116
                by_cases q8 : (data.length : Int) ≠ (c.words : Int)
                ·
                  refine LG_val (HH117.want rfl rfl rfl) rfl rfl HH117 (Y_yes (Y_neq HH117 rfl rfl rfl) (q8)) (fun aa118 HH118 => ?_)
                  clear HH117
                  refine LG_val (HH118.want rfl rfl rfl) rfl rfl HH118 (Y_pickT HH118 rfl rfl rfl) (fun aa119 HH119 => ?_)
                  clear HH118
                  refine LG_val (want0 rfl) rfl rfl HH119 (Y_pickF HH119 rfl rfl rfl) (fun aa120 HH120 => ?_)
                  clear HH119
                  refine LG_val (want0 rfl) rfl rfl HH120 (Y_asg HH120 rfl rfl) (fun aa121 HH121 => ?_)
                  clear HH120
                  refine L_end (t_norm (hKK100 _ _ ?_))
                  refine c_yes HH121 rfl ?_
                  refine wp_seq_k fun KK122 hKK122 => ?_
                  refine wp_region_lit ?_
                  refine LG_val (want0 rfl) rfl rfl HH121 (Y_asg HH121 rfl rfl) (fun aa123 HH123 => ?_)
                  clear HH121
                  refine L_end (t_norm (hKK122 _ _ ?_))
                  refine wp_ret (b_ret (t_ret (ret1 rfl HH123 rfl ?_)))
                  exact ⟨rfl, DRep.open.2 ⟨pa, pn, pc, b, vs, hvs, SS14.p2.p2.p2.tail⟩⟩
                ·
                  exfalso; omega
              ·
                exfalso; omega
            ·
              refine LG_val (want0 rfl) rfl rfl HH103 (Y_no (Y_eql HH103 rfl rfl rfl) (q6)) (fun aa124 HH124 => ?_)
              clear HH103
              refine LG_val (want0 rfl) rfl rfl HH124 (Y_to (Y_neqB HH124 rfl (by kernel_rfl) rfl rfl) (rfl)) (fun aa125 HH125 => ?_)
              clear HH124
              refine LG_val (want0 rfl) rfl rfl HH125 (Y_mov HH125 rfl rfl) (fun aa126 HH126 => ?_)
              clear HH125
              refine LG_skip (HH126.unwant rfl rfl rfl rfl) rfl rfl HH126 (fun aa127 HH127 => ?_)
              clear HH126
              refine LG_skip (HH127.unwant rfl rfl rfl rfl) rfl rfl HH127 (fun aa128 HH128 => ?_)
              clear HH127
              refine LG_skip (HH128.unwant rfl rfl rfl rfl) rfl rfl HH128 (fun aa129 HH129 => ?_)
              clear HH128
              refine LG_skip (HH129.unwant rfl rfl rfl rfl) rfl rfl HH129 (fun aa130 HH130 => ?_)
              clear HH129
              refine LG_skip (HH130.unyielded rfl rfl rfl) rfl rfl HH130 (fun aa131 HH131 => ?_)
              clear HH130
              refine LG_skip (HH131.unyielded rfl rfl rfl) rfl rfl HH131 (fun aa132 HH132 => ?_)
              clear HH131
              refine LG_skip (HH132.unyielded rfl rfl rfl) rfl rfl HH132 (fun aa133 HH133 => ?_)
              clear HH132
              refine LG_skip (HH133.unyielded rfl rfl rfl) rfl rfl HH133 (fun aa134 HH134 => ?_)
              clear HH133
              refine LG_skip (HH134.unyielded rfl rfl rfl) rfl rfl HH134 (fun aa135 HH135 => ?_)
              clear HH134
              refine LG_skip (HH135.unyielded rfl rfl rfl) rfl rfl HH135 (fun aa136 HH136 => ?_)
              clear HH135
              refine LG_skip (HH136.unyielded rfl rfl rfl) rfl rfl HH136 (fun aa137 HH137 => ?_)
              clear HH136
              refine LG_skip (HH137.unyielded rfl rfl rfl) rfl rfl HH137 (fun aa138 HH138 => ?_)
              clear HH137
              refine LG_skip (HH138.unwant rfl rfl rfl rfl) rfl rfl HH138 (fun aa139 HH139 => ?_)
              clear HH138
              refine LG_val (want0 rfl) rfl rfl HH139 (Y_pickT HH139 rfl rfl rfl) (fun aa140 HH140 => ?_)
              clear HH139
              refine LG_val (want0 rfl) rfl rfl HH140 (Y_asg HH140 rfl rfl) (fun aa141 HH141 => ?_)
              clear HH140
              refine L_end (t_norm (hKK100 _ _ ?_))
              refine c_yes HH141 rfl ?_
              refine wp_seq_k fun KK142 hKK142 => ?_
              refine wp_region_lit ?_
              refine LG_val (want0 rfl) rfl rfl HH141 (Y_asg HH141 rfl rfl) (fun aa143 HH143 => ?_)
              clear HH141
              refine L_end (t_norm (hKK142 _ _ ?_))
              refine wp_ret (b_ret (t_ret (ret1 rfl HH143 rfl ?_)))
              exact ⟨rfl, DRep.open.2 ⟨pa, pn, pc, b, vs, hvs, SS14.p2.p2.p2.tail⟩⟩
          ·
            refine LG_val (want0 rfl) rfl rfl HH101 (Y_no (Y_eql HH101 rfl rfl rfl) (q5)) (fun aa144 HH144 => ?_)
            clear HH101
            refine LG_val (want0 rfl) rfl rfl HH144 (Y_mov HH144 rfl rfl) (fun aa145 HH145 => ?_)
            clear HH144
            by_cases q6 : st = 0
            ·
              refine LG_val (want0 rfl) rfl rfl HH145 (Y_yes (Y_eql HH145 rfl rfl rfl) (q6)) (fun aa146 HH146 => ?_)
              clear HH145
              refine LG_val (want0 rfl) rfl rfl HH146 (Y_to (Y_neqB HH146 rfl (by kernel_rfl) rfl rfl) (rfl)) (fun aa147 HH147 => ?_)
              clear HH146
              refine LG_val (want0 rfl) rfl rfl HH147 (Y_mov HH147 rfl rfl) (fun aa148 HH148 => ?_)
              clear HH147
              refine LG_skip (HH148.unwant rfl rfl rfl rfl) rfl rfl HH148 (fun aa149 HH149 => ?_)
              clear HH148
              refine LG_skip (HH149.unwant rfl rfl rfl rfl) rfl rfl HH149 (fun aa150 HH150 => ?_)
              clear HH149
              refine LG_skip (HH150.unwant rfl rfl rfl rfl) rfl rfl HH150 (fun aa151 HH151 => ?_)
              clear HH150
              refine LG_skip (HH151.unwant rfl rfl rfl rfl) rfl rfl HH151 (fun aa152 HH152 => ?_)
              clear HH151
              refine LG_skip (HH152.unyielded rfl rfl rfl) rfl rfl HH152 (fun aa153 HH153 => ?_)
              clear HH152
              refine LG_skip (HH153.unyielded rfl rfl rfl) rfl rfl HH153 (fun aa154 HH154 => ?_)
              clear HH153
              refine LG_skip (HH154.unyielded rfl rfl rfl) rfl rfl HH154 (fun aa155 HH155 => ?_)
              clear HH154
              refine LG_skip (HH155.unyielded rfl rfl rfl) rfl rfl HH155 (fun aa156 HH156 => ?_)
              clear HH155
              refine LG_skip (HH156.unyielded rfl rfl rfl) rfl rfl HH156 (fun aa157 HH157 => ?_)
              clear HH156
              refine LG_skip (HH157.unyielded rfl rfl rfl) rfl rfl HH157 (fun aa158 HH158 => ?_)
              clear HH157
              refine LG_skip (HH158.unyielded rfl rfl rfl) rfl rfl HH158 (fun aa159 HH159 => ?_)
              clear HH158
              refine LG_skip (HH159.unyielded rfl rfl rfl) rfl rfl HH159 (fun aa160 HH160 => ?_)
              clear HH159
              refine LG_skip (HH160.unwant rfl rfl rfl rfl) rfl rfl HH160 (fun aa161 HH161 => ?_)
              clear HH160
              refine LG_val (want0 rfl) rfl rfl HH161 (Y_pickT HH161 rfl rfl rfl) (fun aa162 HH162 => ?_)
              clear HH161
              refine LG_val (want0 rfl) rfl rfl HH162 (Y_asg HH162 rfl rfl) (fun aa163 HH163 => ?_)
              clear HH162
              refine L_end (t_norm (hKK100 _ _ ?_))
              refine c_yes HH163 rfl ?_
              refine wp_seq_k fun KK164 hKK164 => ?_
              refine wp_region_lit ?_
              refine LG_val (want0 rfl) rfl rfl HH163 (Y_asg HH163 rfl rfl) (fun aa165 HH165 => ?_)
              clear HH163
              refine L_end (t_norm (hKK164 _ _ ?_))
              refine wp_ret (b_ret (t_ret (ret1 rfl HH165 rfl ?_)))
              exact ⟨rfl, DRep.open.2 ⟨pa, pn, pc, b, vs, hvs, SS14.p2.p2.p2.tail⟩⟩
            ·
              refine LG_val (want0 rfl) rfl rfl HH145 (Y_no (Y_eql HH145 rfl rfl rfl) (q6)) (fun aa166 HH166 => ?_)
              clear HH145
              refine LG_val (want0 rfl) rfl rfl HH166 (Y_to (Y_neqB HH166 rfl (by kernel_rfl) rfl rfl) (rfl)) (fun aa167 HH167 => ?_)
              clear HH166
              refine LG_val (want0 rfl) rfl rfl HH167 (Y_mov HH167 rfl rfl) (fun aa168 HH168 => ?_)
              clear HH167
              refine LG_val (HH168.want rfl rfl rfl) rfl rfl HH168 (Y_mov HH168 rfl rfl) (fun aa169 HH169 => ?_)
              clear HH168
              refine LG_val (HH169.want rfl rfl rfl) rfl rfl HH169 (Y_lenS HH169 rfl (by kernel_rfl) rfl) (fun aa170 HH170 => ?_)
              clear HH169
              by_cases q7 : (data.length : Int) ≠ 0
              ·
                refine LG_val (HH170.want rfl rfl rfl) rfl rfl HH170 (Y_yes (Y_neq HH170 rfl rfl rfl) (q7)) (fun aa171 HH171 => ?_)
                clear HH170
                refine LG_val (HH171.want rfl rfl rfl) rfl rfl HH171 (Y_mov HH171 rfl rfl) (fun aa172 HH172 => ?_)
                clear HH171
                refine LG_val (HH172.want rfl rfl rfl) rfl rfl HH172 (Y_mov HH172 rfl rfl) (fun aa173 HH173 => ?_)
                clear HH172
                refine LG_val (HH173.want rfl rfl rfl) rfl rfl HH173 (Y_lenS HH173 rfl (by kernel_rfl) rfl) (fun aa174 HH174 => ?_)
                clear HH173
                refine LG_val (HH174.want rfl rfl rfl) rfl rfl HH174 (Y_mov HH174 rfl rfl) (fun aa175 HH175 => ?_)
                clear HH174
                refine LG_val (HH175.want rfl rfl rfl) rfl rfl HH175 (Y_chk HH175 rfl rfl) (fun aa176 HH176 => ?_)
                clear HH175
                refine LG_val (HH176.want rfl rfl rfl) rfl rfl HH176 (Y_fad (off := 0) (r := 0) HH176 rfl (by kernel_rfl) rfl rfl) (fun aa177 HH177 => ?_)
                clear HH176
                refine LG_val (HH177.want rfl rfl rfl) rfl rfl HH177 (Y_fad (off := 2) (r := 2) HH177 rfl (by kernel_rfl) rfl rfl) (fun aa178 HH178 => ?_)
                clear HH177
                refine LG_val (HH178.want rfl rfl rfl) rfl rfl HH178 (Y_load HH178 rfl (by kernel_rfl) rfl (SS14.p1.cell 2)) (fun aa179 HH179 => ?_)
                clear HH178
                by_cases q8 : (data.length : Int) ≠ (c.words : Int)
                ·
                  refine LG_val (HH179.want rfl rfl rfl) rfl rfl HH179 (Y_yes (Y_neq HH179 rfl rfl rfl) (q8)) (fun aa180 HH180 => ?_)
                  clear HH179
                  refine LG_val (HH180.want rfl rfl rfl) rfl rfl HH180 (Y_pickT HH180 rfl rfl rfl) (fun aa181 HH181 => ?_)
                  clear HH180
                  refine LG_val (want0 rfl) rfl rfl HH181 (Y_pickF HH181 rfl rfl rfl) (fun aa182 HH182 => ?_)
                  clear HH181
                  refine LG_val (want0 rfl) rfl rfl HH182 (Y_asg HH182 rfl rfl) (fun aa183 HH183 => ?_)
                  clear HH182
                  refine L_end (t_norm (hKK100 _ _ ?_))
                  refine c_yes HH183 rfl ?_
                  refine wp_seq_k fun KK184 hKK184 => ?_
                  refine wp_region_lit ?_
                  refine LG_val (want0 rfl) rfl rfl HH183 (Y_asg HH183 rfl rfl) (fun aa185 HH185 => ?_)
                  clear HH183
                  refine L_end (t_norm (hKK184 _ _ ?_))
                  refine wp_ret (b_ret (t_ret (ret1 rfl HH185 rfl ?_)))
                  exact ⟨rfl, DRep.open.2 ⟨pa, pn, pc, b, vs, hvs, SS14.p2.p2.p2.tail⟩⟩
                ·
                  exfalso; omega
              ·
                exfalso; omega

set_option maxRecDepth 100000 in
theorem dset_ok {w : World} {l : List HProp} {d : Nat} {c : Cfg} (hc : c.small) {rs : List Rw} (S0 : Sat w (DRep d c rs :: l)) (x st hd : Int) (da : Option Addr) (dc : Nat) (data : List Int) {N : Nat} (hN : data.length = N) {j : Nat} {r : Rw} (hj : keyAt (rwKeys rs) x = some j) (hr : rs[j]? = some r)
    (hrd : ∀ w', Sat w' l → RdI w' (.slice da N dc) data) (h1 : 0 ≤ st) (h2 : st ≤ 2) (h3 : -1 ≤ hd) (h4 : hd < (c.nodes : Int)) (h5 : hd = -1 ↔ st = 0) (h6 : data.length = 0 ∨ data.length = c.words) :
    Calls Try.prog 37 #[VP d 0, VI x, VI st, VI hd, .slice da N dc] w fun e w' => e = .returned (VI 0) ∧ Sat w' (DRep d c (rs.set j ⟨x, st, hd, if data.length = 0 then r.data else data⟩) :: l) := by
  subst hN
  obtain ⟨pa, pn, pc, b, vs, hvs, S⟩ := DRep.open.1 S0
  clear S0
  obtain ⟨v, hv⟩ := rw_at hvs hr
  obtain ⟨va, vc, rfl, _, _⟩ := Rd.val (Ints.rd (Sat.mem S.tail.tail (List.mem_append_left _ (rwData_mem _ _ _ _ _ hr hv))))
  have hrl : r.line = x := by have h1 := keyAt_lt hj; rw [List.getElem?_map, hr] at h1; simpa using h1
  refine enter (n := 82) Try.func37 rfl [(0, VP d 0), (1, VI x), (2, VI st), (3, VI hd), (4, .slice da data.length dc)] rfl rfl fun aa0 HH0 => ?_
  refine wp_seq_k fun KK1 hKK1 => ?_
  refine wp_region_lit ?_
  refine LG_val (want0 rfl) rfl rfl HH0 (Y_asg HH0 rfl rfl) (fun aa2 HH2 => ?_)
  clear HH0
  refine L_end (t_norm (hKK1 _ _ ?_))
  refine wp_seq_k fun KK3 hKK3 => ?_
  refine wp_region_lit ?_
  refine LG_val (want0 rfl) rfl rfl HH2 (Y_mov HH2 rfl rfl) (fun aa4 HH4 => ?_)
  clear HH2
  refine LG_val (want0 rfl) rfl rfl HH4 (Y_chk HH4 rfl rfl) (fun aa5 HH5 => ?_)
  clear HH4
  refine LG_val (want0 rfl) rfl rfl HH5 (Y_fad (off := 8) (r := 8) HH5 rfl (by kernel_rfl) rfl rfl) (fun aa6 HH6 => ?_)
  clear HH5
  refine LG_val (want0 rfl) rfl rfl HH6 (Y_load HH6 rfl (by kernel_rfl) rfl (S.cell 8)) (fun aa7 HH7 => ?_)
  clear HH6
  refine LG_val (want0 rfl) rfl rfl HH7 (Y_mov HH7 rfl rfl) (fun aa8 HH8 => ?_)
  clear HH7
  refine LG_val (want0 rfl) rfl rfl HH8 (Y_lookup HH8 rfl mt_row rfl rfl S.p1 hj (rwVals_get _ _ _ _ _ hr hv)) (fun aa9 HH9 => ?_)
  clear HH8
  refine LG_val (want0 rfl) rfl rfl HH9 (Y_mov HH9 rfl rfl) (fun aa10 HH10 => ?_)
  clear HH9
  refine LG_val (want0 rfl) rfl rfl HH10 (Y_ext HH10 rfl rfl rfl) (fun aa11 HH11 => ?_)
  clear HH10
  refine LG_val (want0 rfl) rfl rfl HH11 (Y_ext HH11 rfl rfl rfl) (fun aa12 HH12 => ?_)
  clear HH11
  refine LG_do (want0 rfl) rfl rfl HH12 (M_alloc HH12 rfl st_memdir_Row.zero S) ?_
  rintro _ ww13 ⟨b11, rfl, SS13, _⟩ aa13 HH13
  clear HH12
  clear S
  refine LG_do0 (want0 rfl) rfl HH13 (M_storeS HH13 rfl rfl rfl SS13 st_memdir_Row.size rfl rfl (one_row _ _ _ _ _)) ?_
  rintro _ ww14 ⟨SS14, _⟩ aa14 HH14
  clear HH13
  clear SS13
  refine LG_val (want0 rfl) rfl rfl HH14 (Y_asg HH14 rfl rfl) (fun aa15 HH15 => ?_)
  clear HH14
  refine L_end (t_norm (hKK3 _ _ ?_))
  refine c_cut (fun a wx => Fr a 82 [(0, VP d 0), (1, VI x), (2, VI st), (3, VI hd), (4, .slice da data.length dc), (11, VPt b11 0)] ∧ Sat wx (cel b11 32 [VI r.st, VI r.hd, .slice va r.data.length vc] :: cel d 110 (dirCells c pa pn pc b) :: Mp b (rwKeys rs) (rwVals rs vs) :: (rwData rs vs ++ l))) ?_ ?_
  ·
    refine wp_block ?_
    refine wp_seq_k fun KK16 hKK16 => ?_
    refine wp_region_lit ?_
    refine LG_val (want0 rfl) rfl rfl HH15 (Y_mov HH15 rfl rfl) (fun aa17 HH17 => ?_)
    clear HH15
    refine LG_val (want0 rfl) rfl rfl HH17 (Y_not HH17 rfl rfl) (fun aa18 HH18 => ?_)
    clear HH17
    refine LG_val (want0 rfl) rfl rfl HH18 (Y_asg HH18 rfl rfl) (fun aa19 HH19 => ?_)
    clear HH18
    refine L_end (t_norm (hKK16 _ _ ?_))
    refine c_no HH19 rfl ?_
    refine wp_seq_k fun KK20 hKK20 => ?_
    refine wp_region_lit ?_
    refine LG_val (want0 rfl) rfl rfl HH19 (Y_mov HH19 rfl rfl) (fun aa21 HH21 => ?_)
    clear HH19
    refine LG_val (want0 rfl) rfl rfl HH21 (Y_no (Y_lss HH21 rfl rfl rfl) (by omega)) (fun aa22 HH22 => ?_)
    clear HH21
    refine LG_val (want0 rfl) rfl rfl HH22 (Y_mov HH22 rfl rfl) (fun aa23 HH23 => ?_)
    clear HH22
    refine LG_val (HH23.want rfl rfl rfl) rfl rfl HH23 (Y_mov HH23 rfl rfl) (fun aa24 HH24 => ?_)
    clear HH23
    refine LG_val (HH24.want rfl rfl rfl) rfl rfl HH24 (Y_no (Y_gtr HH24 rfl rfl rfl) (by omega)) (fun aa25 HH25 => ?_)
    clear HH24
    refine LG_val (want0 rfl) rfl rfl HH25 (Y_pickF HH25 rfl rfl rfl) (fun aa26 HH26 => ?_)
    clear HH25
    refine LG_val (want0 rfl) rfl rfl HH26 (Y_mov HH26 rfl rfl) (fun aa27 HH27 => ?_)
    clear HH26
    refine LG_val (HH27.want rfl rfl rfl) rfl rfl HH27 (Y_mov HH27 rfl rfl) (fun aa28 HH28 => ?_)
    clear HH27
    refine LG_val (HH28.want rfl rfl rfl) rfl rfl HH28 (Y_no (Y_lss HH28 rfl rfl rfl) (by omega)) (fun aa29 HH29 => ?_)
    clear HH28
    refine LG_val (want0 rfl) rfl rfl HH29 (Y_pickF HH29 rfl rfl rfl) (fun aa30 HH30 => ?_)
    clear HH29
    refine LG_val (want0 rfl) rfl rfl HH30 (Y_mov HH30 rfl rfl) (fun aa31 HH31 => ?_)
    clear HH30
    refine LG_val (HH31.want rfl rfl rfl) rfl rfl HH31 (Y_mov HH31 rfl rfl) (fun aa32 HH32 => ?_)
    clear HH31
    refine LG_val (HH32.want rfl rfl rfl) rfl rfl HH32 (Y_mov HH32 rfl rfl) (fun aa33 HH33 => ?_)
    clear HH32
    refine LG_val (HH33.want rfl rfl rfl) rfl rfl HH33 (Y_chk HH33 rfl rfl) (fun aa34 HH34 => ?_)
    clear HH33
    refine LG_val (HH34.want rfl rfl rfl) rfl rfl HH34 (Y_fad (off := 0) (r := 0) HH34 rfl (by kernel_rfl) rfl rfl) (fun aa35 HH35 => ?_)
    clear HH34
    refine LG_val (HH35.want rfl rfl rfl) rfl rfl HH35 (Y_fad (off := 0) (r := 0) HH35 rfl (by kernel_rfl) rfl rfl) (fun aa36 HH36 => ?_)
    clear HH35
    refine LG_val (HH36.want rfl rfl rfl) rfl rfl HH36 (Y_load HH36 rfl (by kernel_rfl) rfl (SS14.p1.cell 0)) (fun aa37 HH37 => ?_)
    clear HH36
    refine LG_val (HH37.want rfl rfl rfl) rfl rfl HH37 (Y_no (Y_geq HH37 rfl rfl rfl) (by omega)) (fun aa38 HH38 => ?_)
    clear HH37
    refine LG_val (want0 rfl) rfl rfl HH38 (Y_pickF HH38 rfl rfl rfl) (fun aa39 HH39 => ?_)
    clear HH38
    refine LG_val (want0 rfl) rfl rfl HH39 (Y_asg HH39 rfl rfl) (fun aa40 HH40 => ?_)
    clear HH39
    refine L_end (t_norm (hKK20 _ _ ?_))
    refine c_no HH40 rfl ?_
    refine wp_seq_k fun KK41 hKK41 => ?_
    refine wp_region_lit ?_
    refine LG_val (want0 rfl) rfl rfl HH40 (Y_mov HH40 rfl rfl) (fun aa42 HH42 => ?_)
    clear HH40
    by_cases q5 : hd = -1
    ·
      refine LG_val (want0 rfl) rfl rfl HH42 (Y_yes (Y_eql HH42 rfl rfl rfl) (q5)) (fun aa43 HH43 => ?_)
      clear HH42
      refine LG_val (want0 rfl) rfl rfl HH43 (Y_mov HH43 rfl rfl) (fun aa44 HH44 => ?_)
      clear HH43
      refine LG_val (want0 rfl) rfl rfl HH44 (Y_yes (Y_eql HH44 rfl rfl rfl) (by omega)) (fun aa45 HH45 => ?_)
      clear HH44
      refine LG_val (want0 rfl) rfl rfl HH45 (Y_to (Y_neqB HH45 rfl (by kernel_rfl) rfl rfl) (rfl)) (fun aa46 HH46 => ?_)
      clear HH45
      refine LG_val (want0 rfl) rfl rfl HH46 (Y_mov HH46 rfl rfl) (fun aa47 HH47 => ?_)
      clear HH46
      refine LG_val (HH47.want rfl rfl rfl) rfl rfl HH47 (Y_mov HH47 rfl rfl) (fun aa48 HH48 => ?_)
      clear HH47
      refine LG_val (HH48.want rfl rfl rfl) rfl rfl HH48 (Y_lenS HH48 rfl (by kernel_rfl) rfl) (fun aa49 HH49 => ?_)
      clear HH48
      by_cases q7 : (data.length : Int) ≠ 0
      ·
        refine LG_val (HH49.want rfl rfl rfl) rfl rfl HH49 (Y_yes (Y_neq HH49 rfl rfl rfl) (q7)) (fun aa50 HH50 => ?_)
        clear HH49
        refine LG_val (HH50.want rfl rfl rfl) rfl rfl HH50 (Y_mov HH50 rfl rfl) (fun aa51 HH51 => ?_)
        clear HH50
        refine LG_val (HH51.want rfl rfl rfl) rfl rfl HH51 (Y_mov HH51 rfl rfl) (fun aa52 HH52 => ?_)
        clear HH51
        refine LG_val (HH52.want rfl rfl rfl) rfl rfl HH52 (Y_lenS HH52 rfl (by kernel_rfl) rfl) (fun aa53 HH53 => ?_)
        clear HH52
        refine LG_val (HH53.want rfl rfl rfl) rfl rfl HH53 (Y_mov HH53 rfl rfl) (fun aa54 HH54 => ?_)
        clear HH53
        refine LG_val (HH54.want rfl rfl rfl) rfl rfl HH54 (Y_chk HH54 rfl rfl) (fun aa55 HH55 => ?_)
        clear HH54
        refine LG_val (HH55.want rfl rfl rfl) rfl rfl HH55 (Y_fad (off := 0) (r := 0) HH55 rfl (by kernel_rfl) rfl rfl) (fun aa56 HH56 => ?_)
        clear HH55
        refine LG_val (HH56.want rfl rfl rfl) rfl rfl HH56 (Y_fad (off := 2) (r := 2) HH56 rfl (by kernel_rfl) rfl rfl) (fun aa57 HH57 => ?_)
        clear HH56
        refine LG_val (HH57.want rfl rfl rfl) rfl rfl HH57 (Y_load HH57 rfl (by kernel_rfl) rfl (SS14.p1.cell 2)) (fun aa58 HH58 => ?_)
        clear HH57
        refine LG_val (HH58.want rfl rfl rfl) rfl rfl HH58 (Y_no (Y_neq HH58 rfl rfl rfl) (by omega)) (fun aa59 HH59 => ?_)
        clear HH58
        refine LG_val (HH59.want rfl rfl rfl) rfl rfl HH59 (Y_pickT HH59 rfl rfl rfl) (fun aa60 HH60 => ?_)
        clear HH59
        refine LG_val (want0 rfl) rfl rfl HH60 (Y_pickF HH60 rfl rfl rfl) (fun aa61 HH61 => ?_)
        clear HH60
        refine LG_val (want0 rfl) rfl rfl HH61 (Y_asg HH61 rfl rfl) (fun aa62 HH62 => ?_)
        clear HH61
        refine L_end (t_norm (hKK41 _ _ ?_))
        refine c_no HH62 rfl ?_
        refine wp_skip (b_norm (t_norm ?_))
        exact ⟨HH62.sub rfl, SS14.p2.p2.p2⟩
      ·
        refine LG_val (HH49.want rfl rfl rfl) rfl rfl HH49 (Y_no (Y_neq HH49 rfl rfl rfl) (q7)) (fun aa63 HH63 => ?_)
        clear HH49
        refine LG_val (HH63.want rfl rfl rfl) rfl rfl HH63 (Y_mov HH63 rfl rfl) (fun aa64 HH64 => ?_)
        clear HH63
        refine LG_skip (HH64.unwant rfl rfl rfl rfl) rfl rfl HH64 (fun aa65 HH65 => ?_)
        clear HH64
        refine LG_skip (HH65.unwant rfl rfl rfl rfl) rfl rfl HH65 (fun aa66 HH66 => ?_)
        clear HH65
        refine LG_skip (HH66.unwant rfl rfl rfl rfl) rfl rfl HH66 (fun aa67 HH67 => ?_)
        clear HH66
        refine LG_skip (HH67.unwant rfl rfl rfl rfl) rfl rfl HH67 (fun aa68 HH68 => ?_)
        clear HH67
        refine LG_skip (HH68.unwant rfl rfl rfl rfl) rfl rfl HH68 (fun aa69 HH69 => ?_)
        clear HH68
        refine LG_skip (HH69.unwant rfl rfl rfl rfl) rfl rfl HH69 (fun aa70 HH70 => ?_)
        clear HH69
        refine LG_skip (HH70.unwant rfl rfl rfl rfl) rfl rfl HH70 (fun aa71 HH71 => ?_)
        clear HH70
        refine LG_skip (HH71.unwant rfl rfl rfl rfl) rfl rfl HH71 (fun aa72 HH72 => ?_)
        clear HH71
        refine LG_val (HH72.want rfl rfl rfl) rfl rfl HH72 (Y_pickF HH72 rfl rfl rfl) (fun aa73 HH73 => ?_)
        clear HH72
        refine LG_val (want0 rfl) rfl rfl HH73 (Y_pickF HH73 rfl rfl rfl) (fun aa74 HH74 => ?_)
        clear HH73
        refine LG_val (want0 rfl) rfl rfl HH74 (Y_asg HH74 rfl rfl) (fun aa75 HH75 => ?_)
        clear HH74
        refine L_end (t_norm (hKK41 _ _ ?_))
        refine c_no HH75 rfl ?_
        refine wp_skip (b_norm (t_norm ?_))
        exact ⟨HH75.sub rfl, SS14.p2.p2.p2⟩
    ·
      refine LG_val (want0 rfl) rfl rfl HH42 (Y_no (Y_eql HH42 rfl rfl rfl) (q5)) (fun aa76 HH76 => ?_)
      clear HH42
      refine LG_val (want0 rfl) rfl rfl HH76 (Y_mov HH76 rfl rfl) (fun aa77 HH77 => ?_)
      clear HH76
      refine LG_val (want0 rfl) rfl rfl HH77 (Y_no (Y_eql HH77 rfl rfl rfl) (by omega)) (fun aa78 HH78 => ?_)
      clear HH77
      refine LG_val (want0 rfl) rfl rfl HH78 (Y_to (Y_neqB HH78 rfl (by kernel_rfl) rfl rfl) (rfl)) (fun aa79 HH79 => ?_)
      clear HH78
      refine LG_val (want0 rfl) rfl rfl HH79 (Y_mov HH79 rfl rfl) (fun aa80 HH80 => ?_)
      clear HH79
      refine LG_val (HH80.want rfl rfl rfl) rfl rfl HH80 (Y_mov HH80 rfl rfl) (fun aa81 HH81 => ?_)
      clear HH80
      refine LG_val (HH81.want rfl rfl rfl) rfl rfl HH81 (Y_lenS HH81 rfl (by kernel_rfl) rfl) (fun aa82 HH82 => ?_)
      clear HH81
      by_cases q7 : (data.length : Int) ≠ 0
      ·
        refine LG_val (HH82.want rfl rfl rfl) rfl rfl HH82 (Y_yes (Y_neq HH82 rfl rfl rfl) (q7)) (fun aa83 HH83 => ?_)
        clear HH82
        refine LG_val (HH83.want rfl rfl rfl) rfl rfl HH83 (Y_mov HH83 rfl rfl) (fun aa84 HH84 => ?_)
        clear HH83
        refine LG_val (HH84.want rfl rfl rfl) rfl rfl HH84 (Y_mov HH84 rfl rfl) (fun aa85 HH85 => ?_)
        clear HH84
        refine LG_val (HH85.want rfl rfl rfl) rfl rfl HH85 (Y_lenS HH85 rfl (by kernel_rfl) rfl) (fun aa86 HH86 => ?_)
        clear HH85
        refine LG_val (HH86.want rfl rfl rfl) rfl rfl HH86 (Y_mov HH86 rfl rfl) (fun aa87 HH87 => ?_)
        clear HH86
        refine LG_val (HH87.want rfl rfl rfl) rfl rfl HH87 (Y_chk HH87 rfl rfl) (fun aa88 HH88 => ?_)
        clear HH87
        refine LG_val (HH88.want rfl rfl rfl) rfl rfl HH88 (Y_fad (off := 0) (r := 0) HH88 rfl (by kernel_rfl) rfl rfl) (fun aa89 HH89 => ?_)
        clear HH88
        refine LG_val (HH89.want rfl rfl rfl) rfl rfl HH89 (Y_fad (off := 2) (r := 2) HH89 rfl (by kernel_rfl) rfl rfl) (fun aa90 HH90 => ?_)
        clear HH89
        refine LG_val (HH90.want rfl rfl rfl) rfl rfl HH90 (Y_load HH90 rfl (by kernel_rfl) rfl (SS14.p1.cell 2)) (fun aa91 HH91 => ?_)
        clear HH90
        refine LG_val (HH91.want rfl rfl rfl) rfl rfl HH91 (Y_no (Y_neq HH91 rfl rfl rfl) (by omega)) (fun aa92 HH92 => ?_)
        clear HH91
        refine LG_val (HH92.want rfl rfl rfl) rfl rfl HH92 (Y_pickT HH92 rfl rfl rfl) (fun aa93 HH93 => ?_)
        clear HH92
        refine LG_val (want0 rfl) rfl rfl HH93 (Y_pickF HH93 rfl rfl rfl) (fun aa94 HH94 => ?_)
        clear HH93
        refine LG_val (want0 rfl) rfl rfl HH94 (Y_asg HH94 rfl rfl) (fun aa95 HH95 => ?_)
        clear HH94
        refine L_end (t_norm (hKK41 _ _ ?_))
        refine c_no HH95 rfl ?_
        refine wp_skip (b_norm (t_norm ?_))
        exact ⟨HH95.sub rfl, SS14.p2.p2.p2⟩
      ·
        refine LG_val (HH82.want rfl rfl rfl) rfl rfl HH82 (Y_no (Y_neq HH82 rfl rfl rfl) (q7)) (fun aa96 HH96 => ?_)
        clear HH82
        refine LG_val (HH96.want rfl rfl rfl) rfl rfl HH96 (Y_mov HH96 rfl rfl) (fun aa97 HH97 => ?_)
        clear HH96
        refine LG_skip (HH97.unwant rfl rfl rfl rfl) rfl rfl HH97 (fun aa98 HH98 => ?_)
        clear HH97
        refine LG_skip (HH98.unwant rfl rfl rfl rfl) rfl rfl HH98 (fun aa99 HH99 => ?_)
        clear HH98
        refine LG_skip (HH99.unwant rfl rfl rfl rfl) rfl rfl HH99 (fun aa100 HH100 => ?_)
        clear HH99
        refine LG_skip (HH100.unwant rfl rfl rfl rfl) rfl rfl HH100 (fun aa101 HH101 => ?_)
        clear HH100
        refine LG_skip (HH101.unwant rfl rfl rfl rfl) rfl rfl HH101 (fun aa102 HH102 => ?_)
        clear HH101
        refine LG_skip (HH102.unwant rfl rfl rfl rfl) rfl rfl HH102 (fun aa103 HH103 => ?_)
        clear HH102
        refine LG_skip (HH103.unwant rfl rfl rfl rfl) rfl rfl HH103 (fun aa104 HH104 => ?_)
        clear HH103
        refine LG_skip (HH104.unwant rfl rfl rfl rfl) rfl rfl HH104 (fun aa105 HH105 => ?_)
        clear HH104
        refine LG_val (HH105.want rfl rfl rfl) rfl rfl HH105 (Y_pickF HH105 rfl rfl rfl) (fun aa106 HH106 => ?_)
        clear HH105
        refine LG_val (want0 rfl) rfl rfl HH106 (Y_pickF HH106 rfl rfl rfl) (fun aa107 HH107 => ?_)
        clear HH106
        refine LG_val (want0 rfl) rfl rfl HH107 (Y_asg HH107 rfl rfl) (fun aa108 HH108 => ?_)
        clear HH107
        refine L_end (t_norm (hKK41 _ _ ?_))
        refine c_no HH108 rfl ?_
        refine wp_skip (b_norm (t_norm ?_))
        exact ⟨HH108.sub rfl, SS14.p2.p2.p2⟩
  clear HH15
  clear SS14
  rintro aa109 ww109 ⟨HH109, SS109⟩
  refine wp_seq_k fun KK110 hKK110 => ?_
  refine wp_region_lit ?_
  refine LG_val (want0 rfl) rfl rfl HH109 (Y_mov HH109 rfl rfl) (fun aa111 HH111 => ?_)
  clear HH109
  refine LG_val (want0 rfl) rfl rfl HH111 (Y_mov HH111 rfl rfl) (fun aa112 HH112 => ?_)
  clear HH111
  refine LG_val (want0 rfl) rfl rfl HH112 (Y_fad (off := 0) (r := 0) HH112 rfl (by kernel_rfl) rfl rfl) (fun aa113 HH113 => ?_)
  clear HH112
  refine LG_do0 (want0 rfl) rfl HH113 (M_store HH113 rfl (by kernel_rfl) rfl rfl rfl rfl SS109 rfl rfl) ?_
  rintro _ ww114 ⟨SS114, _⟩ aa114 HH114
  clear HH113
  clear SS109
  refine LG_val (want0 rfl) rfl rfl HH114 (Y_fad (off := 1) (r := 1) HH114 rfl (by kernel_rfl) rfl rfl) (fun aa115 HH115 => ?_)
  clear HH114
  refine LG_do0 (want0 rfl) rfl HH115 (M_store HH115 rfl (by kernel_rfl) rfl rfl rfl rfl SS114 rfl rfl) ?_
  rintro _ ww116 ⟨SS116, _⟩ aa116 HH116
  clear HH115
  clear SS114
  refine L_end (t_norm (hKK110 _ _ ?_))
  refine wp_seq_k fun KK117 hKK117 => ?_
  refine wp_seq_k fun KK118 hKK118 => ?_
  refine wp_region_lit ?_
  refine LG_val (want0 rfl) rfl rfl HH116 (Y_mov HH116 rfl rfl) (fun aa119 HH119 => ?_)
  clear HH116
  refine LG_val (want0 rfl) rfl rfl HH119 (Y_lenS HH119 rfl (by kernel_rfl) rfl) (fun aa120 HH120 => ?_)
  clear HH119
  by_cases q9 : 0 < (data.length : Int)
  ·
    refine LG_val (want0 rfl) rfl rfl HH120 (Y_yes (Y_gtr HH120 rfl rfl rfl) (q9)) (fun aa121 HH121 => ?_)
    clear HH120
    refine L_end (t_norm (hKK118 _ _ ?_))
    refine c_yes HH121 rfl ?_
    refine wp_region_lit ?_
    refine LG_val (want0 rfl) rfl rfl HH121 (Y_mov HH121 rfl rfl) (fun aa122 HH122 => ?_)
    clear HH121
    refine LG_call (want0 rfl) rfl rfl rfl Try.func78 (by kernel_rfl) rfl HH122 (clone_ok (hrd _ (Sat.right SS116.p2.p2.p2.tail.tail.tail)) (by have := hc.w1; omega) SS116) rfl ?_
    rintro e ww123 ⟨v7, rfl, SS123, _⟩
    obtain ⟨a7, c7, rfl, _, _⟩ := Ints.val SS123
    refine ⟨_, rfl, fun aa123 HH123 => ?_⟩
    clear HH122
    clear SS116
    refine LG_val (want0 rfl) rfl rfl HH123 (Y_fad (off := 2) (r := 2) HH123 rfl (by kernel_rfl) rfl rfl) (fun aa124 HH124 => ?_)
    clear HH123
    refine LG_do0 (want0 rfl) rfl HH124 (M_store HH124 rfl (by kernel_rfl) rfl rfl rfl rfl SS123.p1 rfl rfl) ?_
    rintro _ ww125 ⟨SS125, _⟩ aa125 HH125
    clear HH124
    clear SS123
    refine L_end (t_norm (hKK117 _ _ ?_))
    refine wp_seq_k fun KK126 hKK126 => ?_
    -- region 11, drawn
    refine N_begin (fun w' => Sat w' _) (.val 0 (.val 1 (.val 2 (.val 3 (.val 4 (.val 5 (.one 6 .fin))))))) (by kernel_rfl) (by kernel_rfl) (by kernel_rfl) (by kernel_rfl) (fun _ _ _ _ _ h => h) (SS125.p2.t2.drew) (fun ww127 SN127 hw127 => ?_)
    have SS127 := SS125.drew
    rw [← hw127] at SS127
    clear hw127 SN127
    clear SS125
    refine N_val rfl (want0 rfl) rfl rfl HH125 (fun ww127 SN => Y_mov HH125 rfl rfl) (fun aa128 HH128 => ?_)
    clear HH125
    refine N_val rfl (want0 rfl) rfl rfl HH128 (fun ww127 SN => Y_chk HH128 rfl rfl) (fun aa129 HH129 => ?_)
    clear HH128
    refine N_val rfl (want0 rfl) rfl rfl HH129 (fun ww127 SN => Y_fad (off := 8) (r := 8) HH129 rfl (by kernel_rfl) rfl rfl) (fun aa130 HH130 => ?_)
    clear HH129
    refine N_val rfl (want0 rfl) rfl rfl HH130 (fun ww127 SN => Y_load HH130 rfl (by kernel_rfl) rfl (SN.cell 8)) (fun aa131 HH131 => ?_)
    clear HH130
    refine N_val rfl (want0 rfl) rfl rfl HH131 (fun ww127 SN => Y_mov HH131 rfl rfl) (fun aa132 HH132 => ?_)
    clear HH131
    refine N_val rfl (want0 rfl) rfl rfl HH132 (fun ww127 SN => Y_loadS HH132 rfl rfl SN.p1 st_memdir_Row.und st_memdir_Row.size) (fun aa133 HH133 => ?_)
    clear HH132
    refine N_do0 rfl (want0 rfl) rfl HH133 (M_mapOld HH133 rfl mt_row rfl rfl rfl SS127.p3 hj (rwVals_get _ _ _ _ _ hr hv)) ?_
    rintro _ ww134 SS134
    refine ⟨SS134.p1.p3.t2, fun aa134 HH134 => ?_⟩
    clear HH133
    clear SS127
    refine N_end (t_norm (hKK126 _ _ ?_))
    refine wp_seq_k fun KK135 hKK135 => ?_
    refine wp_region_lit ?_
    refine LG_val (want0 rfl) rfl rfl HH134 (Y_asg HH134 rfl rfl) (fun aa136 HH136 => ?_)
    clear HH134
    refine L_end (t_norm (hKK135 _ _ ?_))
    refine wp_ret (ret1 rfl HH136 rfl ?_)
    refine ⟨rfl, ?_⟩
    rw [if_neg (by omega)]
    exact DRep.set_new (r' := ⟨x, st, hd, data⟩) hvs hr hrl.symm SS134.p3.p3.p3.tail
  ·
    refine LG_val (want0 rfl) rfl rfl HH120 (Y_no (Y_gtr HH120 rfl rfl rfl) (q9)) (fun aa137 HH137 => ?_)
    clear HH120
    refine L_end (t_norm (hKK118 _ _ ?_))
    refine c_no HH137 rfl ?_
    refine wp_skip (t_norm (hKK117 _ _ ?_))
    refine wp_seq_k fun KK138 hKK138 => ?_
    -- region 11, drawn
    refine N_begin (fun w' => Sat w' _) (.val 0 (.val 1 (.val 2 (.val 3 (.val 4 (.val 5 (.one 6 .fin))))))) (by kernel_rfl) (by kernel_rfl) (by kernel_rfl) (by kernel_rfl) (fun _ _ _ _ _ h => h) (SS116.p1.t2.drew) (fun ww139 SN139 hw139 => ?_)
    have SS139 := SS116.drew
    rw [← hw139] at SS139
    clear hw139 SN139
    clear SS116
    refine N_val rfl (want0 rfl) rfl rfl HH137 (fun ww139 SN => Y_mov HH137 rfl rfl) (fun aa140 HH140 => ?_)
    clear HH137
    refine N_val rfl (want0 rfl) rfl rfl HH140 (fun ww139 SN => Y_chk HH140 rfl rfl) (fun aa141 HH141 => ?_)
    clear HH140
    refine N_val rfl (want0 rfl) rfl rfl HH141 (fun ww139 SN => Y_fad (off := 8) (r := 8) HH141 rfl (by kernel_rfl) rfl rfl) (fun aa142 HH142 => ?_)
    clear HH141
    refine N_val rfl (want0 rfl) rfl rfl HH142 (fun ww139 SN => Y_load HH142 rfl (by kernel_rfl) rfl (SN.cell 8)) (fun aa143 HH143 => ?_)
    clear HH142
    refine N_val rfl (want0 rfl) rfl rfl HH143 (fun ww139 SN => Y_mov HH143 rfl rfl) (fun aa144 HH144 => ?_)
    clear HH143
    refine N_val rfl (want0 rfl) rfl rfl HH144 (fun ww139 SN => Y_loadS HH144 rfl rfl SN.p1 st_memdir_Row.und st_memdir_Row.size) (fun aa145 HH145 => ?_)
    clear HH144
    refine N_do0 rfl (want0 rfl) rfl HH145 (M_mapOld HH145 rfl mt_row rfl rfl rfl SS139.p2 hj (rwVals_get _ _ _ _ _ hr hv)) ?_
    rintro _ ww146 SS146
    refine ⟨SS146.p1.p2.t2, fun aa146 HH146 => ?_⟩
    clear HH145
    clear SS139
    refine N_end (t_norm (hKK138 _ _ ?_))
    refine wp_seq_k fun KK147 hKK147 => ?_
    refine wp_region_lit ?_
    refine LG_val (want0 rfl) rfl rfl HH146 (Y_asg HH146 rfl rfl) (fun aa148 HH148 => ?_)
    clear HH146
    refine L_end (t_norm (hKK147 _ _ ?_))
    refine wp_ret (ret1 rfl HH148 rfl ?_)
    refine ⟨rfl, ?_⟩
    rw [if_pos (by omega)]
    exact DRep.set_same (r' := ⟨x, st, hd, r.data⟩) hvs hr hv hrl.symm rfl SS146.p2.p2.tail
end Go.Proofs.Ytaekiecidbhjhaa
