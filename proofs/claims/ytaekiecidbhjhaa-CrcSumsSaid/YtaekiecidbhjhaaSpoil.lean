/- crc.Spoil, chapletref01.Spoil. Printed by wip/specs/spoil.py. -/
import Derived.Test.YtaekiecidbhjhaaSpoilw
namespace Go.Proofs.Ytaekiecidbhjhaa
open Go.RowKit

set_option maxRecDepth 100000 in
theorem spoil_ok {w : World} {l : List HProp} {v : Value} {bs : List (BitVec 8)} (bit : Int) (m : BitVec 16) (hb1 : -9223372036854775808 ≤ bit) (hb2 : bit ≤ 9223372036854775807) (hr : ∀ w', Sat w' l → RdY w' v bs) (hb : bs.length ≤ 140737488350) (S : Sat w l) :
    Calls Try.prog 63 #[v, VI bit, V16 m] w fun e w' => ∃ v', e = .returned v' ∧ Sat w' (Bys v' (spoil bs bit m) :: l) := by
  obtain ⟨pa, pc, rfl, hpl1, hpl2⟩ := Rd.val (hr _ S)
  refine enter (n := 45) Try.func63 rfl [(0, .slice pa bs.length pc), (1, VI bit), (2, V16 m)] rfl rfl fun aa0 HH0 => ?_
  refine wp_seq_k fun KK1 hKK1 => ?_
  refine wp_region_lit ?_
  refine LG_val (want0 rfl) rfl rfl HH0 (Y_asg HH0 rfl rfl) (fun aa2 HH2 => ?_)
  clear HH0
  refine L_end (t_norm (hKK1 _ _ ?_))
  refine wp_seq_k fun KK3 hKK3 => ?_
  refine wp_region_lit ?_
  refine LG_val (want0 rfl) rfl rfl HH2 (Y_mov HH2 rfl rfl) (fun aa4 HH4 => ?_)
  clear HH2
  refine LG_call (want0 rfl) rfl rfl rfl Try.func93 (by kernel_rfl) rfl HH4 (yclone_ok hr (by omega) S) rfl ?_
  rintro e ww5 ⟨v7, rfl, SS5⟩
  obtain ⟨a7, c7, rfl, _, _⟩ := Bys.val SS5
  refine ⟨_, rfl, fun aa5 HH5 => ?_⟩
  clear HH4
  clear S
  refine LG_val (want0 rfl) rfl rfl HH5 (Y_asg HH5 rfl rfl) (fun aa6 HH6 => ?_)
  clear HH5
  refine L_end (t_norm (hKK3 _ _ ?_))
  refine wp_seq_k fun KK7 hKK7 => ?_
  refine wp_seq_k fun KK8 hKK8 => ?_
  refine wp_region_lit ?_
  refine LG_val (want0 rfl) rfl rfl HH6 (Y_mov HH6 rfl rfl) (fun aa9 HH9 => ?_)
  clear HH6
  refine LG_val (want0 rfl) rfl rfl HH9 (Y_lenS HH9 rfl (by kernel_rfl) rfl) (fun aa10 HH10 => ?_)
  clear HH9
  refine LG_val (want0 rfl) rfl rfl HH10 (Y_mov HH10 rfl rfl) (fun aa11 HH11 => ?_)
  clear HH10
  refine L_end (t_norm (hKK8 _ _ ?_))
  refine wp_block ?_
  refine c_loop (σ := Nat) (fun (i : Nat) a wx => Fr a 45 [(1, VI bit), (2, V16 m), (7, .slice a7 bs.length c7), (13, VI bs.length), (14, VI i)] ∧ i ≤ bs.length ∧ Sat wx (Bys (.slice a7 bs.length c7) (rmp bs.length (spF bs bit m i)) :: l)) (fun i => bs.length - i) (0) ?_ ?_
  · exact ⟨HH11.sub rfl, Nat.zero_le _, by rw [spF_zero]; exact SS5⟩
  clear HH11
  clear SS5
  rintro i aa12 ww12 ⟨HH12, hi, SS12⟩
  refine wp_seq_k fun KK13 hKK13 => ?_
  refine wp_region_lit ?_
  by_cases hlt : (i : Int) < (bs.length : Int)
  ·
    refine LG_val (want0 rfl) rfl rfl HH12 (Y_yes (Y_lss HH12 rfl rfl rfl) (hlt)) (fun aa14 HH14 => ?_)
    clear HH12
    refine L_end (t_norm (hKK13 _ _ ?_))
    refine wp_seq_k fun KK15 hKK15 => ?_
    refine c_yes HH14 rfl ?_
    refine wp_skip (t_norm (hKK15 _ _ ?_))
    refine wp_seq_k fun KK16 hKK16 => ?_
    refine wp_block ?_
    refine wp_seq_k fun KK17 hKK17 => ?_
    refine wp_region_lit ?_
    refine LG_val (want0 rfl) rfl rfl HH14 (Y_mov HH14 rfl rfl) (fun aa18 HH18 => ?_)
    clear HH14
    refine LG_val (want0 rfl) rfl rfl HH18 (Y_asg HH18 rfl rfl) (fun aa19 HH19 => ?_)
    clear HH18
    refine L_end (t_norm (hKK17 _ _ ?_))
    refine wp_seq_k fun KK20 hKK20 => ?_
    refine wp_region_lit ?_
    refine LG_val (want0 rfl) rfl rfl HH19 (Y_mov HH19 rfl rfl) (fun aa21 HH21 => ?_)
    clear HH19
    refine LG_val (want0 rfl) rfl rfl HH21 (Y_mul (r := (8 * (i : Int))) HH21 rfl rfl rfl (IntWalk.i64_in _ (by omega))) (fun aa22 HH22 => ?_)
    clear HH21
    refine LG_val (want0 rfl) rfl rfl HH22 (Y_mov HH22 rfl rfl) (fun aa23 HH23 => ?_)
    clear HH22
    refine LG_val (want0 rfl) rfl rfl HH23 (Y_sub (r := (IntKind.i64.wrap (8 * (i : Int) - bit))) HH23 rfl rfl rfl (rfl)) (fun aa24 HH24 => ?_)
    clear HH23
    refine LG_val (want0 rfl) rfl rfl HH24 (Y_asg HH24 rfl rfl) (fun aa25 HH25 => ?_)
    clear HH24
    refine L_end (t_norm (hKK20 _ _ ?_))
    refine wp_seq_k fun KK26 hKK26 => ?_
    refine wp_seq_k fun KK27 hKK27 => ?_
    have hsp := wrap_sp m i bit (by omega) hb1 hb2
    obtain ⟨t, ht⟩ : ∃ t, IntKind.i64.wrap (8 * (i : Int) - bit) = t := ⟨_, rfl⟩
    rw [ht] at HH25 hsp
    refine wp_region_lit ?_
    refine LG_val (want0 rfl) rfl rfl HH25 (Y_mov HH25 rfl rfl) (fun aa28 HH28 => ?_)
    clear HH25
    by_cases t1 : t ≤ -8
    ·
      refine LG_val (want0 rfl) rfl rfl HH28 (Y_yes (Y_leq HH28 rfl rfl rfl) (t1)) (fun aa29 HH29 => ?_)
      clear HH28
      refine LG_val (want0 rfl) rfl rfl HH29 (Y_mov HH29 rfl rfl) (fun aa30 HH30 => ?_)
      clear HH29
      refine LG_skip (HH30.unwant rfl rfl rfl rfl) rfl rfl HH30 (fun aa31 HH31 => ?_)
      clear HH30
      refine LG_skip (HH31.unwant rfl rfl rfl rfl) rfl rfl HH31 (fun aa32 HH32 => ?_)
      clear HH31
      refine LG_val (want0 rfl) rfl rfl HH32 (Y_pickT HH32 rfl rfl rfl) (fun aa33 HH33 => ?_)
      clear HH32
      refine L_end (t_norm (hKK27 _ _ ?_))
      refine c_yes HH33 rfl ?_
      refine wp_exit (t_exit (b_exit (t_norm (hKK16 _ _ ?_))))
      refine wp_region_lit ?_
      refine LG_val (want0 rfl) rfl rfl HH33 (Y_add HH33 rfl rfl rfl (IntWalk.i64_in _ (by omega))) (fun aa34 HH34 => ?_)
      clear HH33
      refine LG_val (want0 rfl) rfl rfl HH34 (Y_mov HH34 rfl rfl) (fun aa35 HH35 => ?_)
      clear HH34
      refine L_end (t_norm ?_)
      have e := spF_skip bs bit m i (hsp.symm.trans (sp_out m t (by omega)))
      exact ⟨i + 1, ⟨HH35.sub rfl, by omega, by rw [e]; exact SS12⟩, by first | omega | (dsimp only; omega)⟩
    ·
      refine LG_val (want0 rfl) rfl rfl HH28 (Y_no (Y_leq HH28 rfl rfl rfl) (t1)) (fun aa36 HH36 => ?_)
      clear HH28
      refine LG_val (want0 rfl) rfl rfl HH36 (Y_mov HH36 rfl rfl) (fun aa37 HH37 => ?_)
      clear HH36
      refine LG_val (HH37.want rfl rfl rfl) rfl rfl HH37 (Y_mov HH37 rfl rfl) (fun aa38 HH38 => ?_)
      clear HH37
      by_cases t2 : 16 ≤ t
      ·
        refine LG_val (HH38.want rfl rfl rfl) rfl rfl HH38 (Y_yes (Y_geq HH38 rfl rfl rfl) (t2)) (fun aa39 HH39 => ?_)
        clear HH38
        refine LG_val (want0 rfl) rfl rfl HH39 (Y_pickF HH39 rfl rfl rfl) (fun aa40 HH40 => ?_)
        clear HH39
        refine L_end (t_norm (hKK27 _ _ ?_))
        refine c_yes HH40 rfl ?_
        refine wp_exit (t_exit (b_exit (t_norm (hKK16 _ _ ?_))))
        refine wp_region_lit ?_
        refine LG_val (want0 rfl) rfl rfl HH40 (Y_add HH40 rfl rfl rfl (IntWalk.i64_in _ (by omega))) (fun aa41 HH41 => ?_)
        clear HH40
        refine LG_val (want0 rfl) rfl rfl HH41 (Y_mov HH41 rfl rfl) (fun aa42 HH42 => ?_)
        clear HH41
        refine L_end (t_norm ?_)
        have e := spF_skip bs bit m i (hsp.symm.trans (sp_out m t (by omega)))
        exact ⟨i + 1, ⟨HH42.sub rfl, by omega, by rw [e]; exact SS12⟩, by first | omega | (dsimp only; omega)⟩
      ·
        refine LG_val (HH38.want rfl rfl rfl) rfl rfl HH38 (Y_no (Y_geq HH38 rfl rfl rfl) (t2)) (fun aa43 HH43 => ?_)
        clear HH38
        refine LG_val (want0 rfl) rfl rfl HH43 (Y_pickF HH43 rfl rfl rfl) (fun aa44 HH44 => ?_)
        clear HH43
        refine L_end (t_norm (hKK27 _ _ ?_))
        refine c_no HH44 rfl ?_
        refine wp_skip (t_norm (hKK26 _ _ ?_))
        -- region 7, drawn
        refine N_begin (fun w' => Sat w' _) (.val 0 (.val 1 (.val 2 (.val 3 (.val 4 (.val 6 (.val 7 (.val 8 (.val 9 (.val 10 (.val 11 (.val 12 (.val 13 (.one 5 (.val 14 (.val 15 (.one 16 .fin))))))))))))))))) (by kernel_rfl) (by kernel_rfl) (by kernel_rfl) (by kernel_rfl) (fun _ _ _ _ _ h => h) (Sat.nil) (fun ww45 SN45 hw45 => ?_)
        have SS45 := SS12.drew
        rw [← hw45] at SS45
        clear hw45 SN45
        clear SS12
        obtain ⟨b1, o1, e1, c1⟩ := RdY.some (Bys.rd SS45) (by rw [rmp_len]; omega)
        have ci := c1 i _ (rmp_get bs.length (spF bs bit m i) (by omega))
        refine N_val rfl (want0 rfl) rfl rfl HH44 (fun ww45 SN => Y_mov HH44 rfl rfl) (fun aa46 HH46 => ?_)
        clear HH44
        refine N_val rfl (want0 rfl) rfl rfl HH46 (fun ww45 SN => Y_mov HH46 rfl rfl) (fun aa47 HH47 => ?_)
        clear HH46
        refine N_val rfl (want0 rfl) rfl rfl HH47 (fun ww45 SN => Y_mov HH47 rfl rfl) (fun aa48 HH48 => ?_)
        clear HH47
        refine N_val rfl (want0 rfl) rfl rfl HH48 (fun ww45 SN => Y_mov HH48 rfl rfl) (fun aa49 HH49 => ?_)
        clear HH48
        refine N_val rfl (want0 rfl) rfl rfl HH49 (fun ww45 SN => Y_idxE (q := o1 + i) HH49 rfl ty_bytes rfl e1 rfl (by omega) (by omega) (by simp)) (fun aa50 HH50 => ?_)
        clear HH49
        refine N_val rfl (want0 rfl) rfl rfl HH50 (fun ww45 SN => Y_mov HH50 rfl rfl) (fun aa51 HH51 => ?_)
        clear HH50
        refine N_val rfl (want0 rfl) rfl rfl HH51 (fun ww45 SN => Y_conv (k' := .u32) (r := ((m.setWidth 32).toNat : Int)) HH51 rfl (by kernel_rfl) (by kernel_rfl) rfl (wide32 m)) (fun aa52 HH52 => ?_)
        clear HH51
        refine N_val rfl (want0 rfl) rfl rfl HH52 (fun ww45 SN => Y_shl (r := (((m.setWidth 32) <<< 8).toNat : Int)) HH52 rfl rfl rfl (by omega) (shl32 _ _ 8 rfl (by omega))) (fun aa53 HH53 => ?_)
        clear HH52
        refine N_val rfl (want0 rfl) rfl rfl HH53 (fun ww45 SN => Y_mov HH53 rfl rfl) (fun aa54 HH54 => ?_)
        clear HH53
        refine N_val rfl (want0 rfl) rfl rfl HH54 (fun ww45 SN => Y_add (r := (t + 8)) HH54 rfl rfl rfl (IntWalk.i64_in _ (by omega))) (fun aa55 HH55 => ?_)
        clear HH54
        refine N_val rfl (want0 rfl) rfl rfl HH55 (fun ww45 SN => Y_shl (r := ((((m.setWidth 32) <<< 8) <<< (t + 8).toNat).toNat : Int)) HH55 rfl rfl rfl (by omega) (shl32 _ _ (t + 8).toNat (by omega) (by omega))) (fun aa56 HH56 => ?_)
        clear HH55
        refine N_val rfl (want0 rfl) rfl rfl HH56 (fun ww45 SN => Y_shr (r := (((((m.setWidth 32) <<< 8) <<< (t + 8).toNat) >>> 24).toNat : Int)) HH56 rfl rfl rfl (by omega) (shr32 _ _ 24 rfl (by omega))) (fun aa57 HH57 => ?_)
        clear HH56
        refine N_val rfl (want0 rfl) rfl rfl HH57 (fun ww45 SN => Y_conv (k' := .u8) (r := ((sp m t).toNat : Int)) HH57 rfl (by kernel_rfl) (by kernel_rfl) rfl ((low32 _).trans (by rw [sp_in m t t1 t2]))) (fun aa58 HH58 => ?_)
        clear HH57
        refine N_do rfl (want0 rfl) rfl rfl HH58 (D_ylY (Y_load HH58 rfl (by kernel_rfl) rfl ci)) ?_
        rintro _ ww59 ⟨rfl, rfl⟩
        refine ⟨Sat.nil, fun aa59 HH59 => ?_⟩
        clear HH58
        refine N_val rfl (want0 rfl) rfl rfl HH59 (fun ww45 SN => Y_xor (r := ((spF bs bit m i i ^^^ sp m t).toNat : Int)) HH59 rfl rfl rfl (xor8 _ _)) (fun aa60 HH60 => ?_)
        clear HH59
        refine N_val rfl (want0 rfl) rfl rfl HH60 (fun ww45 SN => Y_idxE (q := o1 + i) HH60 rfl ty_bytes rfl e1 rfl (by omega) (by omega) (by simp)) (fun aa61 HH61 => ?_)
        clear HH60
        refine N_do0 rfl (want0 rfl) rfl HH61 (M_storeY HH61 rfl i rfl rfl e1 SS45 (rmp_len _ _) (by omega)) ?_
        rintro _ ww62 SS62
        refine ⟨Sat.nil, fun aa62 HH62 => ?_⟩
        clear HH61
        clear SS45
        refine N_end (b_norm (t_norm (hKK16 _ _ ?_)))
        refine wp_region_lit ?_
        refine LG_val (want0 rfl) rfl rfl HH62 (Y_add HH62 rfl rfl rfl (IntWalk.i64_in _ (by omega))) (fun aa63 HH63 => ?_)
        clear HH62
        refine LG_val (want0 rfl) rfl rfl HH63 (Y_mov HH63 rfl rfl) (fun aa64 HH64 => ?_)
        clear HH63
        refine L_end (t_norm ?_)
        rw [hsp, spF_set] at SS62
        exact ⟨i + 1, ⟨HH64.sub rfl, by omega, SS62⟩, by first | omega | (dsimp only; omega)⟩
  ·
    refine LG_val (want0 rfl) rfl rfl HH12 (Y_no (Y_lss HH12 rfl rfl rfl) (hlt)) (fun aa65 HH65 => ?_)
    clear HH12
    refine L_end (t_norm (hKK13 _ _ ?_))
    refine wp_seq_k fun KK66 hKK66 => ?_
    refine c_no HH65 rfl ?_
    refine wp_exit (t_exit (t_exit (b_exit (t_norm (hKK7 _ _ ?_)))))
    refine wp_seq_k fun KK67 hKK67 => ?_
    refine wp_region_lit ?_
    refine LG_val (want0 rfl) rfl rfl HH65 (Y_mov HH65 rfl rfl) (fun aa68 HH68 => ?_)
    clear HH65
    refine LG_val (want0 rfl) rfl rfl HH68 (Y_asg HH68 rfl rfl) (fun aa69 HH69 => ?_)
    clear HH68
    refine L_end (t_norm (hKK67 _ _ ?_))
    refine wp_ret (ret1 rfl HH69 rfl ?_)
    have hil : i = bs.length := by omega
    rw [hil, spF_all] at SS12
    exact ⟨_, rfl, SS12⟩

set_option maxRecDepth 100000 in
theorem rspoil_ok {w : World} {l : List HProp} {v : Value} {bs : List (BitVec 8)} (bit : Int) (m : BitVec 16) (hb1 : -9223372036854775808 ≤ bit) (hb2 : bit ≤ 9223372036854775807) (hr : ∀ w', Sat w' l → RdY w' v bs) (hb : bs.length ≤ 140737488350) (S : Sat w l) :
    Calls Try.prog 64 #[v, VI bit, V16 m] w fun e w' => ∃ v', e = .returned v' ∧ Sat w' (Bys v' (spoil bs bit m) :: l) := by
  obtain ⟨pa, pc, rfl, hpl1, hpl2⟩ := Rd.val (hr _ S)
  refine enter (n := 58) Try.func64 rfl [(0, .slice pa bs.length pc), (1, VI bit), (2, V16 m)] rfl rfl fun aa0 HH0 => ?_
  refine wp_seq_k fun KK1 hKK1 => ?_
  refine wp_region_lit ?_
  refine LG_val (want0 rfl) rfl rfl HH0 (Y_asg HH0 rfl rfl) (fun aa2 HH2 => ?_)
  clear HH0
  refine L_end (t_norm (hKK1 _ _ ?_))
  refine wp_seq_k fun KK3 hKK3 => ?_
  refine wp_region_lit ?_
  refine LG_val (want0 rfl) rfl rfl HH2 (Y_mov HH2 rfl rfl) (fun aa4 HH4 => ?_)
  clear HH2
  refine LG_do (want0 rfl) rfl rfl HH4 (M_appY0 HH4 rfl rfl rfl S (hr _ S) rfl (by omega)) ?_
  rintro _ ww5 ⟨a7, c7, rfl, SS5⟩ aa5 HH5
  clear HH4
  clear S
  refine LG_val (want0 rfl) rfl rfl HH5 (Y_asg HH5 rfl rfl) (fun aa6 HH6 => ?_)
  clear HH5
  refine L_end (t_norm (hKK3 _ _ ?_))
  refine wp_seq_k fun KK7 hKK7 => ?_
  refine wp_seq_k fun KK8 hKK8 => ?_
  refine wp_region_lit ?_
  refine LG_val (want0 rfl) rfl rfl HH6 (Y_asg HH6 rfl rfl) (fun aa9 HH9 => ?_)
  clear HH6
  refine L_end (t_norm (hKK8 _ _ ?_))
  refine wp_block ?_
  refine c_loop (σ := Nat) (fun (i : Nat) a wx => Fr a 58 [(1, VI bit), (2, V16 m), (7, .slice a7 bs.length c7), (8, VI i)] ∧ i ≤ 16 ∧ Sat wx (Bys (.slice a7 bs.length c7) (rmp bs.length (rF bs bit m i)) :: l)) (fun i => 16 - i) (0) ?_ ?_
  · exact ⟨HH9.sub rfl, Nat.zero_le _, by rw [rF_zero]; exact SS5⟩
  clear HH9
  clear SS5
  rintro i aa10 ww10 ⟨HH10, hi, SS10⟩
  refine wp_seq_k fun KK11 hKK11 => ?_
  refine wp_seq_k fun KK12 hKK12 => ?_
  refine wp_region_lit ?_
  refine LG_val (want0 rfl) rfl rfl HH10 (Y_mov HH10 rfl rfl) (fun aa13 HH13 => ?_)
  clear HH10
  by_cases hlt : (i : Int) < 16
  ·
    refine LG_val (want0 rfl) rfl rfl HH13 (Y_yes (Y_lss HH13 rfl rfl rfl) (hlt)) (fun aa14 HH14 => ?_)
    clear HH13
    refine L_end (t_norm (hKK12 _ _ ?_))
    refine c_yes HH14 rfl ?_
    refine wp_skip (t_norm (hKK11 _ _ ?_))
    refine wp_seq_k fun KK15 hKK15 => ?_
    refine wp_block ?_
    refine wp_seq_k fun KK16 hKK16 => ?_
    refine wp_seq_k fun KK17 hKK17 => ?_
    refine wp_region_lit ?_
    refine LG_val (want0 rfl) rfl rfl HH14 (Y_mov HH14 rfl rfl) (fun aa18 HH18 => ?_)
    clear HH14
    refine LG_val (want0 rfl) rfl rfl HH18 (Y_mov HH18 rfl rfl) (fun aa19 HH19 => ?_)
    clear HH18
    refine LG_val (want0 rfl) rfl rfl HH19 (Y_sub (r := (15 - (i : Int))) HH19 rfl rfl rfl (IntWalk.i64_in _ (by omega))) (fun aa20 HH20 => ?_)
    clear HH19
    refine LG_val (want0 rfl) rfl rfl HH20 (Y_conv (k' := .u64) (r := (15 - (i : Int))) HH20 rfl (by kernel_rfl) (by kernel_rfl) rfl (wrap64 _ (by omega) (by omega))) (fun aa21 HH21 => ?_)
    clear HH20
    refine LG_val (want0 rfl) rfl rfl HH21 (Y_shr (r := ((m >>> (15 - i)).toNat : Int)) HH21 rfl rfl rfl (by omega) (shr16 _ _ (15 - i) (by omega) (by omega))) (fun aa22 HH22 => ?_)
    clear HH21
    refine LG_val (want0 rfl) rfl rfl HH22 (Y_and (r := (((m >>> (15 - i)) &&& 1#16).toNat : Int)) HH22 rfl rfl rfl (and16 _ 1#16)) (fun aa23 HH23 => ?_)
    clear HH22
    by_cases z0 : (((m >>> (15 - i)) &&& 1#16).toNat : Int) = 0
    ·
      refine LG_val (want0 rfl) rfl rfl HH23 (Y_yes (Y_eql HH23 rfl rfl rfl) (z0)) (fun aa24 HH24 => ?_)
      clear HH23
      refine LG_val (want0 rfl) rfl rfl HH24 (Y_mov HH24 rfl rfl) (fun aa25 HH25 => ?_)
      clear HH24
      refine LG_skip (HH25.unwant rfl rfl rfl rfl) rfl rfl HH25 (fun aa26 HH26 => ?_)
      clear HH25
      refine LG_skip (HH26.unwant rfl rfl rfl rfl) rfl rfl HH26 (fun aa27 HH27 => ?_)
      clear HH26
      refine LG_skip (HH27.unwant rfl rfl rfl rfl) rfl rfl HH27 (fun aa28 HH28 => ?_)
      clear HH27
      refine LG_skip (HH28.unwant rfl rfl rfl rfl) rfl rfl HH28 (fun aa29 HH29 => ?_)
      clear HH28
      refine LG_skip (HH29.unwant rfl rfl rfl rfl) rfl rfl HH29 (fun aa30 HH30 => ?_)
      clear HH29
      refine LG_val (want0 rfl) rfl rfl HH30 (Y_pickT HH30 rfl rfl rfl) (fun aa31 HH31 => ?_)
      clear HH30
      refine LG_val (want0 rfl) rfl rfl HH31 (Y_mov HH31 rfl rfl) (fun aa32 HH32 => ?_)
      clear HH31
      refine LG_skip (HH32.unwant rfl rfl rfl rfl) rfl rfl HH32 (fun aa33 HH33 => ?_)
      clear HH32
      refine LG_skip (HH33.unwant rfl rfl rfl rfl) rfl rfl HH33 (fun aa34 HH34 => ?_)
      clear HH33
      refine LG_val (want0 rfl) rfl rfl HH34 (Y_pickT HH34 rfl rfl rfl) (fun aa35 HH35 => ?_)
      clear HH34
      refine L_end (t_norm (hKK17 _ _ ?_))
      refine c_yes HH35 rfl ?_
      refine wp_exit (t_exit (b_exit (t_norm (hKK15 _ _ ?_))))
      refine wp_region_lit ?_
      refine LG_val (want0 rfl) rfl rfl HH35 (Y_mov HH35 rfl rfl) (fun aa36 HH36 => ?_)
      clear HH35
      refine LG_val (want0 rfl) rfl rfl HH36 (Y_add HH36 rfl rfl rfl (IntWalk.i64_in _ (by omega))) (fun aa37 HH37 => ?_)
      clear HH36
      refine LG_val (want0 rfl) rfl rfl HH37 (Y_asg HH37 rfl rfl) (fun aa38 HH38 => ?_)
      clear HH37
      refine L_end (t_norm ?_)
      have e := rF_skip bs bit m i (fun j hj h => by rw [(bit1 m (15 - i)).1 z0] at h; exact Bool.noConfusion h.1)
      exact ⟨i + 1, ⟨HH38.sub rfl, by omega, by rw [e]; exact SS10⟩, by first | omega | (dsimp only; omega)⟩
    ·
      refine LG_val (want0 rfl) rfl rfl HH23 (Y_no (Y_eql HH23 rfl rfl rfl) (z0)) (fun aa39 HH39 => ?_)
      clear HH23
      refine LG_val (want0 rfl) rfl rfl HH39 (Y_mov HH39 rfl rfl) (fun aa40 HH40 => ?_)
      clear HH39
      refine LG_val (HH40.want rfl rfl rfl) rfl rfl HH40 (Y_mov HH40 rfl rfl) (fun aa41 HH41 => ?_)
      clear HH40
      refine LG_val (HH41.want rfl rfl rfl) rfl rfl HH41 (Y_mov HH41 rfl rfl) (fun aa42 HH42 => ?_)
      clear HH41
      refine LG_val (HH42.want rfl rfl rfl) rfl rfl HH42 (Y_lenS HH42 rfl (by kernel_rfl) rfl) (fun aa43 HH43 => ?_)
      clear HH42
      refine LG_val (HH43.want rfl rfl rfl) rfl rfl HH43 (Y_mul (r := (8 * (bs.length : Int))) HH43 rfl rfl rfl (IntWalk.i64_in _ (by omega))) (fun aa44 HH44 => ?_)
      clear HH43
      by_cases z1 : 8 * (bs.length : Int) < bit
      ·
        refine LG_val (HH44.want rfl rfl rfl) rfl rfl HH44 (Y_yes (Y_gtr HH44 rfl rfl rfl) (z1)) (fun aa45 HH45 => ?_)
        clear HH44
        refine LG_val (want0 rfl) rfl rfl HH45 (Y_pickF HH45 rfl rfl rfl) (fun aa46 HH46 => ?_)
        clear HH45
        refine LG_val (want0 rfl) rfl rfl HH46 (Y_mov HH46 rfl rfl) (fun aa47 HH47 => ?_)
        clear HH46
        refine LG_skip (HH47.unwant rfl rfl rfl rfl) rfl rfl HH47 (fun aa48 HH48 => ?_)
        clear HH47
        refine LG_skip (HH48.unwant rfl rfl rfl rfl) rfl rfl HH48 (fun aa49 HH49 => ?_)
        clear HH48
        refine LG_val (want0 rfl) rfl rfl HH49 (Y_pickT HH49 rfl rfl rfl) (fun aa50 HH50 => ?_)
        clear HH49
        refine L_end (t_norm (hKK17 _ _ ?_))
        refine c_yes HH50 rfl ?_
        refine wp_exit (t_exit (b_exit (t_norm (hKK15 _ _ ?_))))
        refine wp_region_lit ?_
        refine LG_val (want0 rfl) rfl rfl HH50 (Y_mov HH50 rfl rfl) (fun aa51 HH51 => ?_)
        clear HH50
        refine LG_val (want0 rfl) rfl rfl HH51 (Y_add HH51 rfl rfl rfl (IntWalk.i64_in _ (by omega))) (fun aa52 HH52 => ?_)
        clear HH51
        refine LG_val (want0 rfl) rfl rfl HH52 (Y_asg HH52 rfl rfl) (fun aa53 HH53 => ?_)
        clear HH52
        refine L_end (t_norm ?_)
        have e := rF_skip bs bit m i (fun j hj h => by omega)
        exact ⟨i + 1, ⟨HH53.sub rfl, by omega, by rw [e]; exact SS10⟩, by first | omega | (dsimp only; omega)⟩
      ·
        refine LG_val (HH44.want rfl rfl rfl) rfl rfl HH44 (Y_no (Y_gtr HH44 rfl rfl rfl) (z1)) (fun aa54 HH54 => ?_)
        clear HH44
        refine LG_val (want0 rfl) rfl rfl HH54 (Y_pickF HH54 rfl rfl rfl) (fun aa55 HH55 => ?_)
        clear HH54
        refine LG_val (want0 rfl) rfl rfl HH55 (Y_mov HH55 rfl rfl) (fun aa56 HH56 => ?_)
        clear HH55
        refine LG_val (HH56.want rfl rfl rfl) rfl rfl HH56 (Y_mov HH56 rfl rfl) (fun aa57 HH57 => ?_)
        clear HH56
        by_cases z2 : bit < -16
        ·
          refine LG_val (HH57.want rfl rfl rfl) rfl rfl HH57 (Y_yes (Y_lss HH57 rfl rfl rfl) (z2)) (fun aa58 HH58 => ?_)
          clear HH57
          refine LG_val (want0 rfl) rfl rfl HH58 (Y_pickF HH58 rfl rfl rfl) (fun aa59 HH59 => ?_)
          clear HH58
          refine L_end (t_norm (hKK17 _ _ ?_))
          refine c_yes HH59 rfl ?_
          refine wp_exit (t_exit (b_exit (t_norm (hKK15 _ _ ?_))))
          refine wp_region_lit ?_
          refine LG_val (want0 rfl) rfl rfl HH59 (Y_mov HH59 rfl rfl) (fun aa60 HH60 => ?_)
          clear HH59
          refine LG_val (want0 rfl) rfl rfl HH60 (Y_add HH60 rfl rfl rfl (IntWalk.i64_in _ (by omega))) (fun aa61 HH61 => ?_)
          clear HH60
          refine LG_val (want0 rfl) rfl rfl HH61 (Y_asg HH61 rfl rfl) (fun aa62 HH62 => ?_)
          clear HH61
          refine L_end (t_norm ?_)
          have e := rF_skip bs bit m i (fun j hj h => by omega)
          exact ⟨i + 1, ⟨HH62.sub rfl, by omega, by rw [e]; exact SS10⟩, by first | omega | (dsimp only; omega)⟩
        ·
          refine LG_val (HH57.want rfl rfl rfl) rfl rfl HH57 (Y_no (Y_lss HH57 rfl rfl rfl) (z2)) (fun aa63 HH63 => ?_)
          clear HH57
          refine LG_val (want0 rfl) rfl rfl HH63 (Y_pickF HH63 rfl rfl rfl) (fun aa64 HH64 => ?_)
          clear HH63
          refine L_end (t_norm (hKK17 _ _ ?_))
          refine c_no HH64 rfl ?_
          refine wp_skip (t_norm (hKK16 _ _ ?_))
          refine wp_seq_k fun KK65 hKK65 => ?_
          refine wp_region_lit ?_
          refine LG_val (want0 rfl) rfl rfl HH64 (Y_mov HH64 rfl rfl) (fun aa66 HH66 => ?_)
          clear HH64
          refine LG_val (want0 rfl) rfl rfl HH66 (Y_mov HH66 rfl rfl) (fun aa67 HH67 => ?_)
          clear HH66
          refine LG_val (want0 rfl) rfl rfl HH67 (Y_add (r := (bit + (i : Int))) HH67 rfl rfl rfl (IntWalk.i64_in _ (by omega))) (fun aa68 HH68 => ?_)
          clear HH67
          refine LG_val (want0 rfl) rfl rfl HH68 (Y_asg HH68 rfl rfl) (fun aa69 HH69 => ?_)
          clear HH68
          refine L_end (t_norm (hKK65 _ _ ?_))
          refine wp_seq_k fun KK70 hKK70 => ?_
          refine wp_region_lit ?_
          refine LG_val (want0 rfl) rfl rfl HH69 (Y_mov HH69 rfl rfl) (fun aa71 HH71 => ?_)
          clear HH69
          by_cases k0 : 0 ≤ bit + (i : Int)
          ·
            refine LG_val (want0 rfl) rfl rfl HH71 (Y_yes (Y_geq HH71 rfl rfl rfl) (k0)) (fun aa72 HH72 => ?_)
            clear HH71
            refine LG_val (want0 rfl) rfl rfl HH72 (Y_mov HH72 rfl rfl) (fun aa73 HH73 => ?_)
            clear HH72
            refine LG_val (HH73.want rfl rfl rfl) rfl rfl HH73 (Y_mov HH73 rfl rfl) (fun aa74 HH74 => ?_)
            clear HH73
            refine LG_val (HH74.want rfl rfl rfl) rfl rfl HH74 (Y_mov HH74 rfl rfl) (fun aa75 HH75 => ?_)
            clear HH74
            refine LG_val (HH75.want rfl rfl rfl) rfl rfl HH75 (Y_lenS HH75 rfl (by kernel_rfl) rfl) (fun aa76 HH76 => ?_)
            clear HH75
            refine LG_val (HH76.want rfl rfl rfl) rfl rfl HH76 (Y_mul (r := (8 * (bs.length : Int))) HH76 rfl rfl rfl (IntWalk.i64_in _ (by omega))) (fun aa77 HH77 => ?_)
            clear HH76
            by_cases k1 : bit + (i : Int) < 8 * (bs.length : Int)
            ·
              refine LG_val (HH77.want rfl rfl rfl) rfl rfl HH77 (Y_yes (Y_lss HH77 rfl rfl rfl) (k1)) (fun aa78 HH78 => ?_)
              clear HH77
              refine LG_val (want0 rfl) rfl rfl HH78 (Y_pickT HH78 rfl rfl rfl) (fun aa79 HH79 => ?_)
              clear HH78
              refine L_end (t_norm (hKK70 _ _ ?_))
              refine c_yes HH79 rfl ?_
              have hm : m.getLsbD (15 - i) = true := by
                cases hmm : m.getLsbD (15 - i) with
                | true => rfl
                | false => exact absurd ((bit1 m (15 - i)).2 hmm) z0
              obtain ⟨k, hk⟩ : ∃ k : Nat, bit + (i : Int) = (k : Int) := ⟨(bit + (i : Int)).toNat, by omega⟩
              rw [hk] at HH79
              obtain ⟨b1, o1, e1, c1⟩ := RdY.some (Bys.rd SS10) (by rw [rmp_len]; omega)
              have ci := c1 (k / 8) _ (rmp_get bs.length (rF bs bit m i) (by omega))
              refine wp_region_lit ?_
              refine LG_val (want0 rfl) rfl rfl HH79 (Y_mov HH79 rfl rfl) (fun aa80 HH80 => ?_)
              clear HH79
              refine LG_val (want0 rfl) rfl rfl HH80 (Y_mov HH80 rfl rfl) (fun aa81 HH81 => ?_)
              clear HH80
              refine LG_val (want0 rfl) rfl rfl HH81 (Y_quo (r := ((k / 8 : Nat) : Int)) HH81 rfl rfl rfl (by omega) (by rw [Int.tdiv_eq_ediv_of_nonneg (by omega), IntWalk.i64_in _ (by omega)]; omega)) (fun aa82 HH82 => ?_)
              clear HH81
              refine LG_val (want0 rfl) rfl rfl HH82 (Y_idxE (q := o1 + k / 8) HH82 rfl ty_bytes rfl e1 rfl (by omega) (by omega) (by rw [Int.toNat_natCast]; omega)) (fun aa83 HH83 => ?_)
              clear HH82
              refine LG_val (want0 rfl) rfl rfl HH83 (Y_load HH83 rfl (by kernel_rfl) rfl ci) (fun aa84 HH84 => ?_)
              clear HH83
              refine LG_val (want0 rfl) rfl rfl HH84 (Y_mov HH84 rfl rfl) (fun aa85 HH85 => ?_)
              clear HH84
              refine LG_val (want0 rfl) rfl rfl HH85 (Y_rem (r := ((k % 8 : Nat) : Int)) HH85 rfl rfl rfl (by omega) (by rw [Int.tmod_eq_emod_of_nonneg (by omega)]; omega)) (fun aa86 HH86 => ?_)
              clear HH85
              refine LG_val (want0 rfl) rfl rfl HH86 (Y_conv (k' := .u64) (r := ((k % 8 : Nat) : Int)) HH86 rfl (by kernel_rfl) (by kernel_rfl) rfl (wrap64 _ (by omega) (by omega))) (fun aa87 HH87 => ?_)
              clear HH86
              refine LG_val (want0 rfl) rfl rfl HH87 (Y_shr (r := ((128#8 >>> (k % 8)).toNat : Int)) HH87 rfl rfl rfl (by omega) (shr8 128#8 _ (k % 8) rfl (by omega))) (fun aa88 HH88 => ?_)
              clear HH87
              refine LG_val (want0 rfl) rfl rfl HH88 (Y_xor (r := ((rF bs bit m i (k / 8) ^^^ (128#8 >>> (k % 8))).toNat : Int)) HH88 rfl rfl rfl (xor8 _ _)) (fun aa89 HH89 => ?_)
              clear HH88
              refine LG_val (want0 rfl) rfl rfl HH89 (Y_idxE (q := o1 + k / 8) HH89 rfl ty_bytes rfl e1 rfl (by omega) (by omega) (by rw [Int.toNat_natCast]; omega)) (fun aa90 HH90 => ?_)
              clear HH89
              refine LG_do0 (want0 rfl) rfl HH90 (M_storeY HH90 rfl (k / 8) rfl rfl e1 SS10 (rmp_len _ _) (by omega)) ?_
              rintro _ ww91 SS91 aa91 HH91
              clear HH90
              clear SS10
              refine L_end (b_norm (t_norm (hKK15 _ _ ?_)))
              refine wp_region_lit ?_
              refine LG_val (want0 rfl) rfl rfl HH91 (Y_mov HH91 rfl rfl) (fun aa92 HH92 => ?_)
              clear HH91
              refine LG_val (want0 rfl) rfl rfl HH92 (Y_add HH92 rfl rfl rfl (IntWalk.i64_in _ (by omega))) (fun aa93 HH93 => ?_)
              clear HH92
              refine LG_val (want0 rfl) rfl rfl HH93 (Y_asg HH93 rfl rfl) (fun aa94 HH94 => ?_)
              clear HH93
              refine L_end (t_norm ?_)
              rw [rF_set bs bit m i k hm hk] at SS91
              exact ⟨i + 1, ⟨HH94.sub rfl, by omega, SS91⟩, by first | omega | (dsimp only; omega)⟩
            ·
              refine LG_val (HH77.want rfl rfl rfl) rfl rfl HH77 (Y_no (Y_lss HH77 rfl rfl rfl) (k1)) (fun aa95 HH95 => ?_)
              clear HH77
              refine LG_val (want0 rfl) rfl rfl HH95 (Y_pickT HH95 rfl rfl rfl) (fun aa96 HH96 => ?_)
              clear HH95
              refine L_end (t_norm (hKK70 _ _ ?_))
              refine c_no HH96 rfl ?_
              refine wp_skip (b_norm (t_norm (hKK15 _ _ ?_)))
              refine wp_region_lit ?_
              refine LG_val (want0 rfl) rfl rfl HH96 (Y_mov HH96 rfl rfl) (fun aa97 HH97 => ?_)
              clear HH96
              refine LG_val (want0 rfl) rfl rfl HH97 (Y_add HH97 rfl rfl rfl (IntWalk.i64_in _ (by omega))) (fun aa98 HH98 => ?_)
              clear HH97
              refine LG_val (want0 rfl) rfl rfl HH98 (Y_asg HH98 rfl rfl) (fun aa99 HH99 => ?_)
              clear HH98
              refine L_end (t_norm ?_)
              have e := rF_skip bs bit m i (fun j hj h => by omega)
              exact ⟨i + 1, ⟨HH99.sub rfl, by omega, by rw [e]; exact SS10⟩, by first | omega | (dsimp only; omega)⟩
          ·
            refine LG_val (want0 rfl) rfl rfl HH71 (Y_no (Y_geq HH71 rfl rfl rfl) (k0)) (fun aa100 HH100 => ?_)
            clear HH71
            refine LG_val (want0 rfl) rfl rfl HH100 (Y_mov HH100 rfl rfl) (fun aa101 HH101 => ?_)
            clear HH100
            refine LG_skip (HH101.unwant rfl rfl rfl rfl) rfl rfl HH101 (fun aa102 HH102 => ?_)
            clear HH101
            refine LG_skip (HH102.unwant rfl rfl rfl rfl) rfl rfl HH102 (fun aa103 HH103 => ?_)
            clear HH102
            refine LG_skip (HH103.unwant rfl rfl rfl rfl) rfl rfl HH103 (fun aa104 HH104 => ?_)
            clear HH103
            refine LG_skip (HH104.unwant rfl rfl rfl rfl) rfl rfl HH104 (fun aa105 HH105 => ?_)
            clear HH104
            refine LG_skip (HH105.unwant rfl rfl rfl rfl) rfl rfl HH105 (fun aa106 HH106 => ?_)
            clear HH105
            refine LG_val (want0 rfl) rfl rfl HH106 (Y_pickF HH106 rfl rfl rfl) (fun aa107 HH107 => ?_)
            clear HH106
            refine L_end (t_norm (hKK70 _ _ ?_))
            refine c_no HH107 rfl ?_
            refine wp_skip (b_norm (t_norm (hKK15 _ _ ?_)))
            refine wp_region_lit ?_
            refine LG_val (want0 rfl) rfl rfl HH107 (Y_mov HH107 rfl rfl) (fun aa108 HH108 => ?_)
            clear HH107
            refine LG_val (want0 rfl) rfl rfl HH108 (Y_add HH108 rfl rfl rfl (IntWalk.i64_in _ (by omega))) (fun aa109 HH109 => ?_)
            clear HH108
            refine LG_val (want0 rfl) rfl rfl HH109 (Y_asg HH109 rfl rfl) (fun aa110 HH110 => ?_)
            clear HH109
            refine L_end (t_norm ?_)
            have e := rF_skip bs bit m i (fun j hj h => by omega)
            exact ⟨i + 1, ⟨HH110.sub rfl, by omega, by rw [e]; exact SS10⟩, by first | omega | (dsimp only; omega)⟩
  ·
    refine LG_val (want0 rfl) rfl rfl HH13 (Y_no (Y_lss HH13 rfl rfl rfl) (hlt)) (fun aa111 HH111 => ?_)
    clear HH13
    refine L_end (t_norm (hKK12 _ _ ?_))
    refine c_no HH111 rfl ?_
    refine wp_exit (t_exit (t_exit (b_exit (t_norm (hKK7 _ _ ?_)))))
    refine wp_seq_k fun KK112 hKK112 => ?_
    refine wp_region_lit ?_
    refine LG_val (want0 rfl) rfl rfl HH111 (Y_mov HH111 rfl rfl) (fun aa113 HH113 => ?_)
    clear HH111
    refine LG_val (want0 rfl) rfl rfl HH113 (Y_asg HH113 rfl rfl) (fun aa114 HH114 => ?_)
    clear HH113
    refine L_end (t_norm (hKK112 _ _ ?_))
    refine wp_ret (ret1 rfl HH114 rfl ?_)
    have hil : i = 16 := by omega
    rw [hil, rF_all] at SS10
    exact ⟨_, rfl, SS10⟩
end Go.Proofs.Ytaekiecidbhjhaa
