/- packet.Pack and its document. Printed by wip/specs/pack2.py. -/
import Derived.Test.YtaekiecidbhjhaaPacks
namespace Go.Proofs.Ytaekiecidbhjhaa
open Go.RowKit

set_option maxRecDepth 100000 in
theorem word_ok {w : World} {l : List HProp} (x : Int) (S : Sat w l) : Calls Try.prog 96 #[VI x] w fun e w' => ∃ v', e = .returned v' ∧ Sat w' (Bys v' (wordb x) :: l) := by
  refine enter (n := 17) Try.func96 rfl [(0, VI x)] rfl rfl fun aa0 HH0 => ?_
  refine wp_seq_k fun KK1 hKK1 => ?_
  refine wp_region_lit ?_
  refine LG_val (want0 rfl) rfl rfl HH0 (Y_asg HH0 rfl rfl) (fun aa2 HH2 => ?_)
  clear HH0
  refine L_end (t_norm (hKK1 _ _ ?_))
  refine wp_seq_k fun KK3 hKK3 => ?_
  refine wp_region_lit ?_
  refine LG_val (want0 rfl) rfl rfl HH2 (Y_asg HH2 rfl rfl) (fun aa4 HH4 => ?_)
  clear HH2
  refine L_end (t_norm (hKK3 _ _ ?_))
  refine wp_seq_k fun KK5 hKK5 => ?_
  refine wp_seq_k fun KK6 hKK6 => ?_
  refine wp_region_lit ?_
  refine LG_val (want0 rfl) rfl rfl HH4 (Y_asg HH4 rfl rfl) (fun aa7 HH7 => ?_)
  clear HH4
  refine L_end (t_norm (hKK6 _ _ ?_))
  refine wp_block ?_
  refine c_loop (σ := Nat) (fun (k : Nat) a wx => ∃ ov : Value, Fr a 17 [(0, VI x), (3, ov), (4, VI (56 - 8 * (k : Int)))] ∧ k ≤ 8 ∧ Sat wx (Bys ov ((wordb x).take k) :: l)) (fun k => 8 - k) (0) ?_ ?_
  · exact ⟨_, HH7.sub rfl, Nat.zero_le _, Bys.nil S⟩
  clear HH7
  clear S
  rintro k aa8 ww8 ⟨ov, HH8, hk, SS8⟩
  refine wp_seq_k fun KK9 hKK9 => ?_
  refine wp_seq_k fun KK10 hKK10 => ?_
  refine wp_region_lit ?_
  refine LG_val (want0 rfl) rfl rfl HH8 (Y_mov HH8 rfl rfl) (fun aa11 HH11 => ?_)
  clear HH8
  by_cases hlk : (0 : Int) ≤ 56 - 8 * (k : Int)
  ·
    refine LG_val (want0 rfl) rfl rfl HH11 (Y_yes (Y_geq HH11 rfl rfl rfl) (hlk)) (fun aa12 HH12 => ?_)
    clear HH11
    refine L_end (t_norm (hKK10 _ _ ?_))
    refine c_yes HH12 rfl ?_
    refine wp_skip (t_norm (hKK9 _ _ ?_))
    refine wp_seq_k fun KK13 hKK13 => ?_
    refine wp_block ?_
    refine wp_region_lit ?_
    refine LG_val (want0 rfl) rfl rfl HH12 (Y_mov HH12 rfl rfl) (fun aa14 HH14 => ?_)
    clear HH12
    refine LG_val (want0 rfl) rfl rfl HH14 (Y_mov HH14 rfl rfl) (fun aa15 HH15 => ?_)
    clear HH14
    refine LG_val (want0 rfl) rfl rfl HH15 (Y_mov HH15 rfl rfl) (fun aa16 HH16 => ?_)
    clear HH15
    refine LG_val (want0 rfl) rfl rfl HH16 (Y_shr (r := (x.fdiv (2 ^ (56 - 8 * k)))) HH16 rfl rfl rfl (by omega) (shr64 _ rfl _ _ (56 - 8 * k) (by omega) (by omega))) (fun aa17 HH17 => ?_)
    clear HH16
    refine LG_val (want0 rfl) rfl rfl HH17 (Y_conv (k' := .u8) (r := ((wb x k).toNat : Int)) HH17 rfl (by kernel_rfl) (by kernel_rfl) rfl (conv8 _)) (fun aa18 HH18 => ?_)
    clear HH17
    refine LG_do (want0 rfl) rfl rfl HH18 (M_buildSlice HH18 rfl ty_bytes rfl rfl rfl (by simp [Value.cells]) rfl SS8) ?_
    rintro _ ww19 ⟨b14, rfl, SS19, _⟩ aa19 HH19
    clear HH18
    clear SS8
    refine LG_do (want0 rfl) rfl rfl HH19 (M_appY (cs := [wb x k]) HH19 rfl rfl rfl SS19.p1 (Sl.rd SS19) rfl (by rw [List.length_take, wordb_len]; simp; omega)) ?_
    rintro _ ww20 ⟨a15, c15, rfl, SS20⟩ aa20 HH20
    clear HH19
    clear SS19
    refine LG_val (want0 rfl) rfl rfl HH20 (Y_asg HH20 rfl rfl) (fun aa21 HH21 => ?_)
    clear HH20
    refine L_end (b_norm (t_norm (hKK13 _ _ ?_)))
    refine wp_region_lit ?_
    refine LG_val (want0 rfl) rfl rfl HH21 (Y_mov HH21 rfl rfl) (fun aa22 HH22 => ?_)
    clear HH21
    refine LG_val (want0 rfl) rfl rfl HH22 (Y_sub (r := (56 - 8 * ((k + 1 : Nat) : Int))) HH22 rfl rfl rfl (by rw [IntWalk.i64_in _ (by omega)]; omega)) (fun aa23 HH23 => ?_)
    clear HH22
    refine LG_val (want0 rfl) rfl rfl HH23 (Y_asg HH23 rfl rfl) (fun aa24 HH24 => ?_)
    clear HH23
    refine L_end (t_norm ?_)
    exact ⟨k + 1, ⟨_, HH24.sub rfl, by omega, by rw [wordb_more x k (by omega)]; exact SS20.p1.tail⟩, by first | omega | (dsimp only; omega)⟩
  ·
    refine LG_val (want0 rfl) rfl rfl HH11 (Y_no (Y_geq HH11 rfl rfl rfl) (hlk)) (fun aa25 HH25 => ?_)
    clear HH11
    refine L_end (t_norm (hKK10 _ _ ?_))
    refine c_no HH25 rfl ?_
    refine wp_exit (t_exit (t_exit (b_exit (t_norm (hKK5 _ _ ?_)))))
    refine wp_seq_k fun KK26 hKK26 => ?_
    refine wp_region_lit ?_
    refine LG_val (want0 rfl) rfl rfl HH25 (Y_mov HH25 rfl rfl) (fun aa27 HH27 => ?_)
    clear HH25
    refine LG_val (want0 rfl) rfl rfl HH27 (Y_asg HH27 rfl rfl) (fun aa28 HH28 => ?_)
    clear HH27
    refine L_end (t_norm (hKK26 _ _ ?_))
    refine wp_ret (ret1 rfl HH28 rfl ?_)
    have hk8 : k = 8 := by omega
    subst hk8
    exact ⟨_, rfl, by rw [show (wordb x).take 8 = wordb x from List.take_of_length_le (by rw [wordb_len]; omega)] at SS8; exact SS8⟩

set_option maxRecDepth 100000 in
theorem pack_ok {w : World} {l : List HProp} (p : Pkt) {va : Option Addr} {vc : Nat} (hp : p.right) (hv : ∀ w', Sat w' l → RdI w' (.slice va p.data.length vc) p.data) (S : Sat w l) :
    Calls Try.prog 69 #[p.val (.slice va p.data.length vc)] w fun e w' => ∃ v', e = .returned (.tuple #[v', VI 0]) ∧ Sat w' (Bys v' (ppack p) :: l) := by
  have hp2 := hp
  unfold Pkt.right at hp2
  refine enter (n := 61) Try.func69 rfl [(0, p.val (.slice va p.data.length vc))] rfl rfl fun aa0 HH0 => ?_
  refine wp_seq_k fun KK1 hKK1 => ?_
  refine wp_region_lit ?_
  refine LG_do (want0 rfl) rfl rfl HH0 (M_box HH0 rfl rfl rfl S) ?_
  rintro _ ww2 ⟨b1, rfl, SS2, _⟩ aa2 HH2
  clear HH0
  clear S
  refine LG_val (want0 rfl) rfl rfl HH2 (Y_asg HH2 rfl rfl) (fun aa3 HH3 => ?_)
  clear HH2
  refine LG_val (want0 rfl) rfl rfl HH3 (Y_asg HH3 rfl rfl) (fun aa4 HH4 => ?_)
  clear HH3
  refine L_end (t_norm (hKK1 _ _ ?_))
  refine wp_seq_k fun KK5 hKK5 => ?_
  refine wp_seq_k fun KK6 hKK6 => ?_
  refine wp_region_lit ?_
  refine LG_val (want0 rfl) rfl rfl HH4 (Y_loadS HH4 rfl rfl SS2 st_api_Packet.und st_api_Packet.size) (fun aa7 HH7 => ?_)
  clear HH4
  refine LG_call (want0 rfl) rfl rfl rfl Try.func71 (by kernel_rfl) rfl HH7 (check_ok p va vc SS2) rfl ?_
  rintro e ww8 ⟨rfl, SS8⟩
  rw [if_pos hp]
  refine ⟨_, rfl, fun aa8 HH8 => ?_⟩
  clear HH7
  clear SS2
  refine LG_val (want0 rfl) rfl rfl HH8 (Y_asg HH8 rfl rfl) (fun aa9 HH9 => ?_)
  clear HH8
  refine L_end (t_norm (hKK6 _ _ ?_))
  refine wp_seq_k fun KK10 hKK10 => ?_
  refine wp_region_lit ?_
  refine LG_val (want0 rfl) rfl rfl HH9 (Y_mov HH9 rfl rfl) (fun aa11 HH11 => ?_)
  clear HH9
  refine LG_val (want0 rfl) rfl rfl HH11 (Y_no (Y_neq HH11 rfl rfl rfl) (by simp)) (fun aa12 HH12 => ?_)
  clear HH11
  refine L_end (t_norm (hKK10 _ _ ?_))
  refine c_no HH12 rfl ?_
  refine wp_skip (t_norm (hKK5 _ _ ?_))
  refine wp_seq_k fun KK13 hKK13 => ?_
  -- region 4, drawn
  refine N_begin (fun w' => Sat w' _) (.val 0 (.val 1 (.val 2 (.val 3 (.val 4 (.val 5 (.val 6 (.val 7 (.val 8 (.val 9 (.val 10 (.val 11 (.val 12 (.val 13 (.val 14 (.val 15 (.val 16 (.val 17 (.val 18 (.val 19 (.val 20 (.val 21 (.val 22 (.val 23 (.val 24 (.val 25 (.val 26 (.val 27 (.val 29 (.val 30 (.val 31 (.val 32 (.one 28 (.one 33 (.val 34 .fin))))))))))))))))))))))))))))))))))) (by kernel_rfl) (by kernel_rfl) (by kernel_rfl) (by kernel_rfl) (fun _ _ _ _ _ h => h) (SS8.t1.drew) (fun ww14 SN14 hw14 => ?_)
  have SS14 := SS8.drew
  rw [← hw14] at SS14
  clear hw14 SN14
  clear SS8
  refine N_val rfl (want0 rfl) rfl rfl HH12 (fun ww14 SN => Y_fad (off := 0) (r := 0) HH12 rfl (by kernel_rfl) rfl rfl) (fun aa15 HH15 => ?_)
  clear HH12
  refine N_val rfl (want0 rfl) rfl rfl HH15 (fun ww14 SN => Y_load HH15 rfl (by kernel_rfl) rfl (SN.cell 0)) (fun aa16 HH16 => ?_)
  clear HH15
  refine N_val rfl (want0 rfl) rfl rfl HH16 (fun ww14 SN => Y_conv (k' := .u8) (r := ((b8 (p.kind)).toNat : Int)) HH16 rfl (by kernel_rfl) (by kernel_rfl) rfl (conv8 _)) (fun aa17 HH17 => ?_)
  clear HH16
  refine N_val rfl (want0 rfl) rfl rfl HH17 (fun ww14 SN => Y_fad (off := 1) (r := 1) HH17 rfl (by kernel_rfl) rfl rfl) (fun aa18 HH18 => ?_)
  clear HH17
  refine N_val rfl (want0 rfl) rfl rfl HH18 (fun ww14 SN => Y_load HH18 rfl (by kernel_rfl) rfl (SN.cell 1)) (fun aa19 HH19 => ?_)
  clear HH18
  refine N_val rfl (want0 rfl) rfl rfl HH19 (fun ww14 SN => Y_conv (k' := .u8) (r := ((b8 (p.src)).toNat : Int)) HH19 rfl (by kernel_rfl) (by kernel_rfl) rfl (conv8 _)) (fun aa20 HH20 => ?_)
  clear HH19
  refine N_val rfl (want0 rfl) rfl rfl HH20 (fun ww14 SN => Y_fad (off := 2) (r := 2) HH20 rfl (by kernel_rfl) rfl rfl) (fun aa21 HH21 => ?_)
  clear HH20
  refine N_val rfl (want0 rfl) rfl rfl HH21 (fun ww14 SN => Y_load HH21 rfl (by kernel_rfl) rfl (SN.cell 2)) (fun aa22 HH22 => ?_)
  clear HH21
  refine N_val rfl (want0 rfl) rfl rfl HH22 (fun ww14 SN => Y_conv (k' := .u8) (r := ((b8 (p.dst)).toNat : Int)) HH22 rfl (by kernel_rfl) (by kernel_rfl) rfl (conv8 _)) (fun aa23 HH23 => ?_)
  clear HH22
  refine N_val rfl (want0 rfl) rfl rfl HH23 (fun ww14 SN => Y_fad (off := 3) (r := 3) HH23 rfl (by kernel_rfl) rfl rfl) (fun aa24 HH24 => ?_)
  clear HH23
  refine N_val rfl (want0 rfl) rfl rfl HH24 (fun ww14 SN => Y_load HH24 rfl (by kernel_rfl) rfl (SN.cell 3)) (fun aa25 HH25 => ?_)
  clear HH24
  refine N_val rfl (want0 rfl) rfl rfl HH25 (fun ww14 SN => Y_shr (r := (p.id.fdiv 256)) HH25 rfl rfl rfl (by omega) (rfl)) (fun aa26 HH26 => ?_)
  clear HH25
  refine N_val rfl (want0 rfl) rfl rfl HH26 (fun ww14 SN => Y_conv (k' := .u8) (r := ((b8 (p.id.fdiv 256)).toNat : Int)) HH26 rfl (by kernel_rfl) (by kernel_rfl) rfl (conv8 _)) (fun aa27 HH27 => ?_)
  clear HH26
  refine N_val rfl (want0 rfl) rfl rfl HH27 (fun ww14 SN => Y_fad (off := 3) (r := 3) HH27 rfl (by kernel_rfl) rfl rfl) (fun aa28 HH28 => ?_)
  clear HH27
  refine N_val rfl (want0 rfl) rfl rfl HH28 (fun ww14 SN => Y_load HH28 rfl (by kernel_rfl) rfl (SN.cell 3)) (fun aa29 HH29 => ?_)
  clear HH28
  refine N_val rfl (want0 rfl) rfl rfl HH29 (fun ww14 SN => Y_conv (k' := .u8) (r := ((b8 (p.id)).toNat : Int)) HH29 rfl (by kernel_rfl) (by kernel_rfl) rfl (conv8 _)) (fun aa30 HH30 => ?_)
  clear HH29
  refine N_val rfl (want0 rfl) rfl rfl HH30 (fun ww14 SN => Y_fad (off := 4) (r := 4) HH30 rfl (by kernel_rfl) rfl rfl) (fun aa31 HH31 => ?_)
  clear HH30
  refine N_val rfl (want0 rfl) rfl rfl HH31 (fun ww14 SN => Y_load HH31 rfl (by kernel_rfl) rfl (SN.cell 4)) (fun aa32 HH32 => ?_)
  clear HH31
  refine N_val rfl (want0 rfl) rfl rfl HH32 (fun ww14 SN => Y_conv (k' := .u8) (r := ((b8 (p.line)).toNat : Int)) HH32 rfl (by kernel_rfl) (by kernel_rfl) rfl (conv8 _)) (fun aa33 HH33 => ?_)
  clear HH32
  refine N_val rfl (want0 rfl) rfl rfl HH33 (fun ww14 SN => Y_fad (off := 5) (r := 5) HH33 rfl (by kernel_rfl) rfl rfl) (fun aa34 HH34 => ?_)
  clear HH33
  refine N_val rfl (want0 rfl) rfl rfl HH34 (fun ww14 SN => Y_load HH34 rfl (by kernel_rfl) rfl (SN.cell 5)) (fun aa35 HH35 => ?_)
  clear HH34
  refine N_val rfl (want0 rfl) rfl rfl HH35 (fun ww14 SN => Y_add (r := (p.ptr + 1)) HH35 rfl rfl rfl (IntWalk.i64_in _ (by omega))) (fun aa36 HH36 => ?_)
  clear HH35
  refine N_val rfl (want0 rfl) rfl rfl HH36 (fun ww14 SN => Y_conv (k' := .u8) (r := ((b8 ((p.ptr + 1))).toNat : Int)) HH36 rfl (by kernel_rfl) (by kernel_rfl) rfl (conv8 _)) (fun aa37 HH37 => ?_)
  clear HH36
  refine N_val rfl (want0 rfl) rfl rfl HH37 (fun ww14 SN => Y_fad (off := 6) (r := 6) HH37 rfl (by kernel_rfl) rfl rfl) (fun aa38 HH38 => ?_)
  clear HH37
  refine N_val rfl (want0 rfl) rfl rfl HH38 (fun ww14 SN => Y_load HH38 rfl (by kernel_rfl) rfl (SN.cell 6)) (fun aa39 HH39 => ?_)
  clear HH38
  refine N_val rfl (want0 rfl) rfl rfl HH39 (fun ww14 SN => Y_conv (k' := .u8) (r := ((b8 (p.state)).toNat : Int)) HH39 rfl (by kernel_rfl) (by kernel_rfl) rfl (conv8 _)) (fun aa40 HH40 => ?_)
  clear HH39
  refine N_val rfl (want0 rfl) rfl rfl HH40 (fun ww14 SN => Y_fad (off := 7) (r := 7) HH40 rfl (by kernel_rfl) rfl rfl) (fun aa41 HH41 => ?_)
  clear HH40
  refine N_val rfl (want0 rfl) rfl rfl HH41 (fun ww14 SN => Y_load HH41 rfl (by kernel_rfl) rfl (SN.cell 7)) (fun aa42 HH42 => ?_)
  clear HH41
  refine N_val rfl (want0 rfl) rfl rfl HH42 (fun ww14 SN => Y_fad (off := 8) (r := 8) HH42 rfl (by kernel_rfl) rfl rfl) (fun aa43 HH43 => ?_)
  clear HH42
  refine N_val rfl (want0 rfl) rfl rfl HH43 (fun ww14 SN => Y_load HH43 rfl (by kernel_rfl) rfl (SN.cell 8)) (fun aa44 HH44 => ?_)
  clear HH43
  refine N_val rfl (want0 rfl) rfl rfl HH44 (fun ww14 SN => Y_lenS HH44 rfl (by kernel_rfl) rfl) (fun aa45 HH45 => ?_)
  clear HH44
  refine N_val rfl (want0 rfl) rfl rfl HH45 (fun ww14 SN => Y_conv (k' := .u8) (r := ((b8 ((p.data.length : Int))).toNat : Int)) HH45 rfl (by kernel_rfl) (by kernel_rfl) rfl (conv8 _)) (fun aa46 HH46 => ?_)
  clear HH45
  refine N_call rfl (want0 rfl) rfl rfl rfl Try.func95 (by kernel_rfl) rfl HH46 (flag_ok p.flag) rfl ?_
  rintro e ww47 ⟨rfl, rfl⟩
  refine ⟨_, rfl, SS14.t1, fun aa47 HH47 => ?_⟩
  clear HH46
  refine N_do rfl (want0 rfl) rfl rfl HH47 (M_buildSlice HH47 rfl ty_bytes rfl rfl rfl (by simp [Value.cells]) rfl SS14) ?_
  rintro _ ww48 ⟨b46, rfl, SS48, _⟩
  refine ⟨SS48.p1.t1, fun aa48 HH48 => ?_⟩
  clear HH47
  clear SS14
  refine N_val rfl (want0 rfl) rfl rfl HH48 (fun ww48 SN => Y_asg HH48 rfl rfl) (fun aa49 HH49 => ?_)
  clear HH48
  refine N_end (t_norm (hKK13 _ _ ?_))
  refine wp_seq_k fun KK50 hKK50 => ?_
  refine wp_seq_k fun KK51 hKK51 => ?_
  refine wp_region_lit ?_
  refine LG_val (want0 rfl) rfl rfl HH49 (Y_fad (off := 8) (r := 8) HH49 rfl (by kernel_rfl) rfl rfl) (fun aa52 HH52 => ?_)
  clear HH49
  refine LG_val (want0 rfl) rfl rfl HH52 (Y_load HH52 rfl (by kernel_rfl) rfl (SS48.p1.cell 8)) (fun aa53 HH53 => ?_)
  clear HH52
  refine LG_val (want0 rfl) rfl rfl HH53 (Y_lenS HH53 rfl (by kernel_rfl) rfl) (fun aa54 HH54 => ?_)
  clear HH53
  refine LG_val (want0 rfl) rfl rfl HH54 (Y_mov HH54 rfl rfl) (fun aa55 HH55 => ?_)
  clear HH54
  refine L_end (t_norm (hKK51 _ _ ?_))
  refine wp_block ?_
  refine c_loop (σ := Nat) (fun (i : Nat) a wx => ∃ ov : Value, Fr a 61 [(5, ov), (48, .slice va p.data.length vc), (49, VI p.data.length), (50, VI i)] ∧ i ≤ p.data.length ∧ Sat wx (Bys ov (pbody p i) :: l)) (fun i => p.data.length - i) (0) ?_ ?_
  · (have e0 : pbody p 0 = phead p := (by simp [pbody]); exact ⟨_, HH55.sub rfl, Nat.zero_le _, by rw [e0]; exact SS48.p1.tail⟩)
  clear HH55
  clear SS48
  rintro i aa56 ww56 ⟨ov, HH56, hi, SS56⟩
  refine wp_seq_k fun KK57 hKK57 => ?_
  refine wp_region_lit ?_
  by_cases hlt : (i : Int) < (p.data.length : Int)
  ·
    refine LG_val (want0 rfl) rfl rfl HH56 (Y_yes (Y_lss HH56 rfl rfl rfl) (hlt)) (fun aa58 HH58 => ?_)
    clear HH56
    refine L_end (t_norm (hKK57 _ _ ?_))
    refine wp_seq_k fun KK59 hKK59 => ?_
    refine c_yes HH58 rfl ?_
    refine wp_skip (t_norm (hKK59 _ _ ?_))
    refine wp_seq_k fun KK60 hKK60 => ?_
    refine wp_block ?_
    refine wp_seq_k fun KK61 hKK61 => ?_
    obtain ⟨b1x, o1, e1, _⟩ := RdI.some (hv _ SS56.tail) (by omega)
    refine wp_region_lit ?_
    refine LG_val (want0 rfl) rfl rfl HH58 (Y_idxE (q := o1 + i) HH58 rfl ty_ints rfl e1 rfl (by omega) (by omega) (by simp)) (fun aa62 HH62 => ?_)
    clear HH58
    refine LG_val (want0 rfl) rfl rfl HH62 (Y_load HH62 rfl (by kernel_rfl) rfl (RdI.atY (hv _ SS56.tail) e1 i (by omega))) (fun aa63 HH63 => ?_)
    clear HH62
    refine LG_val (want0 rfl) rfl rfl HH63 (Y_asg HH63 rfl rfl) (fun aa64 HH64 => ?_)
    clear HH63
    refine L_end (t_norm (hKK61 _ _ ?_))
    refine wp_region_lit ?_
    refine LG_val (want0 rfl) rfl rfl HH64 (Y_mov HH64 rfl rfl) (fun aa65 HH65 => ?_)
    clear HH64
    refine LG_val (want0 rfl) rfl rfl HH65 (Y_mov HH65 rfl rfl) (fun aa66 HH66 => ?_)
    clear HH65
    refine LG_call (want0 rfl) rfl rfl rfl Try.func96 (by kernel_rfl) rfl HH66 (word_ok (p.data.getD i 0) SS56) rfl ?_
    rintro e ww67 ⟨v56, rfl, SS67⟩
    refine ⟨_, rfl, fun aa67 HH67 => ?_⟩
    clear HH66
    clear SS56
    refine LG_do (want0 rfl) rfl rfl HH67 (M_appY HH67 rfl rfl rfl SS67.p1 (Bys.rd SS67) rfl (by have := pbody_len p i; rw [wordb_len]; omega)) ?_
    rintro _ ww68 ⟨a57, c57, rfl, SS68⟩ aa68 HH68
    clear HH67
    clear SS67
    refine LG_val (want0 rfl) rfl rfl HH68 (Y_asg HH68 rfl rfl) (fun aa69 HH69 => ?_)
    clear HH68
    refine L_end (b_norm (t_norm (hKK60 _ _ ?_)))
    refine wp_region_lit ?_
    refine LG_val (want0 rfl) rfl rfl HH69 (Y_add HH69 rfl rfl rfl (IntWalk.i64_in _ (by omega))) (fun aa70 HH70 => ?_)
    clear HH69
    refine LG_val (want0 rfl) rfl rfl HH70 (Y_mov HH70 rfl rfl) (fun aa71 HH71 => ?_)
    clear HH70
    refine L_end (t_norm ?_)
    exact ⟨i + 1, ⟨_, HH71.sub rfl, by omega, by rw [pbody_more p i (by omega)]; exact SS68.p1.tail⟩, by first | omega | (dsimp only; omega)⟩
  ·
    refine LG_val (want0 rfl) rfl rfl HH56 (Y_no (Y_lss HH56 rfl rfl rfl) (hlt)) (fun aa72 HH72 => ?_)
    clear HH56
    refine L_end (t_norm (hKK57 _ _ ?_))
    refine wp_seq_k fun KK73 hKK73 => ?_
    refine c_no HH72 rfl ?_
    refine wp_exit (t_exit (t_exit (b_exit (t_norm (hKK50 _ _ ?_)))))
    refine wp_seq_k fun KK74 hKK74 => ?_
    refine wp_region_lit ?_
    refine LG_val (want0 rfl) rfl rfl HH72 (Y_mov HH72 rfl rfl) (fun aa75 HH75 => ?_)
    clear HH72
    refine LG_call (want0 rfl) rfl rfl rfl Try.func60 (by kernel_rfl) rfl HH75 (seal_ok (fun w' h => Bys.rd h) (by have := pbody_len p i; omega) SS56) rfl ?_
    rintro e ww76 ⟨v60, rfl, SS76⟩
    refine ⟨_, rfl, fun aa76 HH76 => ?_⟩
    clear HH75
    clear SS56
    refine LG_val (want0 rfl) rfl rfl HH76 (Y_asg HH76 rfl rfl) (fun aa77 HH77 => ?_)
    clear HH76
    refine LG_val (want0 rfl) rfl rfl HH77 (Y_asg HH77 rfl rfl) (fun aa78 HH78 => ?_)
    clear HH77
    refine L_end (t_norm (hKK74 _ _ ?_))
    refine wp_ret (ret2 rfl HH78 rfl rfl ?_)
    have hil : i = p.data.length := by omega
    have e : ppack p = cseal (pbody p i) := by rw [hil, pbody_all]; rfl
    rw [e]
    exact ⟨_, rfl, SS76.p1.tail⟩

set_option maxRecDepth 100000 in
theorem pack_bad {w : World} {l : List HProp} (p : Pkt) {va : Option Addr} {vc : Nat} (hp : ¬ p.right) (S : Sat w l) :
    Calls Try.prog 69 #[p.val (.slice va p.data.length vc)] w fun e w' => e = .returned (.tuple #[VNil, VI 1]) ∧ Sat w' l := by
  refine enter (n := 61) Try.func69 rfl [(0, p.val (.slice va p.data.length vc))] rfl rfl fun aa0 HH0 => ?_
  refine wp_seq_k fun KK1 hKK1 => ?_
  refine wp_region_lit ?_
  refine LG_do (want0 rfl) rfl rfl HH0 (M_box HH0 rfl rfl rfl S) ?_
  rintro _ ww2 ⟨b1, rfl, SS2, _⟩ aa2 HH2
  clear HH0
  clear S
  refine LG_val (want0 rfl) rfl rfl HH2 (Y_asg HH2 rfl rfl) (fun aa3 HH3 => ?_)
  clear HH2
  refine LG_val (want0 rfl) rfl rfl HH3 (Y_asg HH3 rfl rfl) (fun aa4 HH4 => ?_)
  clear HH3
  refine L_end (t_norm (hKK1 _ _ ?_))
  refine wp_seq_k fun KK5 hKK5 => ?_
  refine wp_seq_k fun KK6 hKK6 => ?_
  refine wp_region_lit ?_
  refine LG_val (want0 rfl) rfl rfl HH4 (Y_loadS HH4 rfl rfl SS2 st_api_Packet.und st_api_Packet.size) (fun aa7 HH7 => ?_)
  clear HH4
  refine LG_call (want0 rfl) rfl rfl rfl Try.func71 (by kernel_rfl) rfl HH7 (check_ok p va vc SS2) rfl ?_
  rintro e ww8 ⟨rfl, SS8⟩
  rw [if_neg hp]
  refine ⟨_, rfl, fun aa8 HH8 => ?_⟩
  clear HH7
  clear SS2
  refine LG_val (want0 rfl) rfl rfl HH8 (Y_asg HH8 rfl rfl) (fun aa9 HH9 => ?_)
  clear HH8
  refine L_end (t_norm (hKK6 _ _ ?_))
  refine wp_seq_k fun KK10 hKK10 => ?_
  refine wp_region_lit ?_
  refine LG_val (want0 rfl) rfl rfl HH9 (Y_mov HH9 rfl rfl) (fun aa11 HH11 => ?_)
  clear HH9
  refine LG_val (want0 rfl) rfl rfl HH11 (Y_yes (Y_neq HH11 rfl rfl rfl) (by simp)) (fun aa12 HH12 => ?_)
  clear HH11
  refine L_end (t_norm (hKK10 _ _ ?_))
  refine c_yes HH12 rfl ?_
  refine wp_seq_k fun KK13 hKK13 => ?_
  refine wp_region_lit ?_
  refine LG_val (want0 rfl) rfl rfl HH12 (Y_mov HH12 rfl rfl) (fun aa14 HH14 => ?_)
  clear HH12
  refine LG_val (want0 rfl) rfl rfl HH14 (Y_asg HH14 rfl rfl) (fun aa15 HH15 => ?_)
  clear HH14
  refine LG_val (want0 rfl) rfl rfl HH15 (Y_asg HH15 rfl rfl) (fun aa16 HH16 => ?_)
  clear HH15
  refine L_end (t_norm (hKK13 _ _ ?_))
  refine wp_ret (t_ret (ret2 rfl HH16 rfl rfl ?_))
  exact ⟨rfl, SS8.tail⟩

set_option maxRecDepth 100000 in
theorem rpack_ok {w : World} {l : List HProp} (p : Pkt) {va : Option Addr} {vc : Nat} (hp : p.right) (hv : ∀ w', Sat w' l → RdI w' (.slice va p.data.length vc) p.data) (S : Sat w l) :
    Calls Try.prog 70 #[p.val (.slice va p.data.length vc)] w fun e w' => ∃ v', e = .returned (.tuple #[v', VB true]) ∧ Sat w' (Bys v' (ppack p) :: l) := by
  have hp2 := hp
  unfold Pkt.right at hp2
  refine enter (n := 70) Try.func70 rfl [(0, p.val (.slice va p.data.length vc))] rfl rfl fun aa0 HH0 => ?_
  refine wp_seq_k fun KK1 hKK1 => ?_
  refine wp_region_lit ?_
  refine LG_do (want0 rfl) rfl rfl HH0 (M_box HH0 rfl rfl rfl S) ?_
  rintro _ ww2 ⟨b1, rfl, SS2, _⟩ aa2 HH2
  clear HH0
  clear S
  refine LG_val (want0 rfl) rfl rfl HH2 (Y_asg HH2 rfl rfl) (fun aa3 HH3 => ?_)
  clear HH2
  refine LG_val (want0 rfl) rfl rfl HH3 (Y_asg HH3 rfl rfl) (fun aa4 HH4 => ?_)
  clear HH3
  refine L_end (t_norm (hKK1 _ _ ?_))
  refine wp_seq_k fun KK5 hKK5 => ?_
  refine wp_seq_k fun KK6 hKK6 => ?_
  refine wp_region_lit ?_
  refine LG_val (want0 rfl) rfl rfl HH4 (Y_loadS HH4 rfl rfl SS2 st_api_Packet.und st_api_Packet.size) (fun aa7 HH7 => ?_)
  clear HH4
  refine LG_call (want0 rfl) rfl rfl rfl Try.func97 (by kernel_rfl) rfl HH7 (right_ok p va vc SS2) rfl ?_
  rintro e ww8 ⟨rfl, SS8⟩
  rw [decide_eq_true hp]
  refine ⟨_, rfl, fun aa8 HH8 => ?_⟩
  clear HH7
  clear SS2
  refine LG_val (want0 rfl) rfl rfl HH8 (Y_not HH8 rfl rfl) (fun aa9 HH9 => ?_)
  clear HH8
  refine L_end (t_norm (hKK6 _ _ ?_))
  refine c_no HH9 rfl ?_
  refine wp_skip (t_norm (hKK5 _ _ ?_))
  refine wp_seq_k fun KK10 hKK10 => ?_
  refine wp_region_lit ?_
  refine LG_val (want0 rfl) rfl rfl HH9 (Y_asg HH9 rfl rfl) (fun aa11 HH11 => ?_)
  clear HH9
  refine L_end (t_norm (hKK10 _ _ ?_))
  refine c_cut (fun a wx => Fr a 70 [(1, VPt b1 0), (4, V8 (fbyte p.flag))] ∧ Sat wx (cel b1 43 (p.cells (.slice va p.data.length vc)) :: l)) ?_ ?_
  ·
    refine wp_seq_k fun KK12 hKK12 => ?_
    refine wp_region_lit ?_
    refine LG_val (want0 rfl) rfl rfl HH11 (Y_fad (off := 7) (r := 7) HH11 rfl (by kernel_rfl) rfl rfl) (fun aa13 HH13 => ?_)
    clear HH11
    by_cases hf : p.flag = true
    ·
      refine LG_val (want0 rfl) rfl rfl HH13 (Y_to (Y_load HH13 rfl (by kernel_rfl) rfl (SS8.cell 7)) hf) (fun aa14 HH14 => ?_)
      clear HH13
      refine L_end (t_norm (hKK12 _ _ ?_))
      refine c_yes HH14 rfl ?_
      refine wp_region_lit ?_
      refine LG_val (want0 rfl) rfl rfl HH14 (Y_asg HH14 rfl rfl) (fun aa15 HH15 => ?_)
      clear HH14
      refine L_end (t_norm ?_)
      exact ⟨by rw [hf]; exact HH15.sub rfl, SS8⟩
    ·
      refine LG_val (want0 rfl) rfl rfl HH13 (Y_to (Y_load HH13 rfl (by kernel_rfl) rfl (SS8.cell 7)) (show p.flag = false by simpa using hf)) (fun aa16 HH16 => ?_)
      clear HH13
      refine L_end (t_norm (hKK12 _ _ ?_))
      refine c_no HH16 rfl ?_
      refine wp_skip (t_norm ?_)
      have e : p.flag = false := by simpa using hf
      exact ⟨by rw [e]; exact HH16.sub rfl, SS8⟩
  clear HH11
  clear SS8
  rintro aa17 ww17 ⟨HH17, SS17⟩
  refine wp_seq_k fun KK18 hKK18 => ?_
  refine wp_region_lit ?_
  refine LG_val (want0 rfl) rfl rfl HH17 (Y_fad (off := 0) (r := 0) HH17 rfl (by kernel_rfl) rfl rfl) (fun aa19 HH19 => ?_)
  clear HH17
  refine LG_val (want0 rfl) rfl rfl HH19 (Y_load HH19 rfl (by kernel_rfl) rfl (SS17.cell 0)) (fun aa20 HH20 => ?_)
  clear HH19
  refine LG_val (want0 rfl) rfl rfl HH20 (Y_conv (k' := .u8) (r := ((b8 (p.kind)).toNat : Int)) HH20 rfl (by kernel_rfl) (by kernel_rfl) rfl (conv8 _)) (fun aa21 HH21 => ?_)
  clear HH20
  refine LG_val (want0 rfl) rfl rfl HH21 (Y_fad (off := 1) (r := 1) HH21 rfl (by kernel_rfl) rfl rfl) (fun aa22 HH22 => ?_)
  clear HH21
  refine LG_val (want0 rfl) rfl rfl HH22 (Y_load HH22 rfl (by kernel_rfl) rfl (SS17.cell 1)) (fun aa23 HH23 => ?_)
  clear HH22
  refine LG_val (want0 rfl) rfl rfl HH23 (Y_conv (k' := .u8) (r := ((b8 (p.src)).toNat : Int)) HH23 rfl (by kernel_rfl) (by kernel_rfl) rfl (conv8 _)) (fun aa24 HH24 => ?_)
  clear HH23
  refine LG_val (want0 rfl) rfl rfl HH24 (Y_fad (off := 2) (r := 2) HH24 rfl (by kernel_rfl) rfl rfl) (fun aa25 HH25 => ?_)
  clear HH24
  refine LG_val (want0 rfl) rfl rfl HH25 (Y_load HH25 rfl (by kernel_rfl) rfl (SS17.cell 2)) (fun aa26 HH26 => ?_)
  clear HH25
  refine LG_val (want0 rfl) rfl rfl HH26 (Y_conv (k' := .u8) (r := ((b8 (p.dst)).toNat : Int)) HH26 rfl (by kernel_rfl) (by kernel_rfl) rfl (conv8 _)) (fun aa27 HH27 => ?_)
  clear HH26
  refine LG_val (want0 rfl) rfl rfl HH27 (Y_fad (off := 3) (r := 3) HH27 rfl (by kernel_rfl) rfl rfl) (fun aa28 HH28 => ?_)
  clear HH27
  refine LG_val (want0 rfl) rfl rfl HH28 (Y_load HH28 rfl (by kernel_rfl) rfl (SS17.cell 3)) (fun aa29 HH29 => ?_)
  clear HH28
  refine LG_val (want0 rfl) rfl rfl HH29 (Y_shr (r := (p.id.fdiv 256)) HH29 rfl rfl rfl (by omega) (rfl)) (fun aa30 HH30 => ?_)
  clear HH29
  refine LG_val (want0 rfl) rfl rfl HH30 (Y_conv (k' := .u8) (r := ((b8 (p.id.fdiv 256)).toNat : Int)) HH30 rfl (by kernel_rfl) (by kernel_rfl) rfl (conv8 _)) (fun aa31 HH31 => ?_)
  clear HH30
  refine LG_val (want0 rfl) rfl rfl HH31 (Y_fad (off := 3) (r := 3) HH31 rfl (by kernel_rfl) rfl rfl) (fun aa32 HH32 => ?_)
  clear HH31
  refine LG_val (want0 rfl) rfl rfl HH32 (Y_load HH32 rfl (by kernel_rfl) rfl (SS17.cell 3)) (fun aa33 HH33 => ?_)
  clear HH32
  refine LG_val (want0 rfl) rfl rfl HH33 (Y_conv (k' := .u8) (r := ((b8 (p.id)).toNat : Int)) HH33 rfl (by kernel_rfl) (by kernel_rfl) rfl (conv8 _)) (fun aa34 HH34 => ?_)
  clear HH33
  refine LG_val (want0 rfl) rfl rfl HH34 (Y_fad (off := 4) (r := 4) HH34 rfl (by kernel_rfl) rfl rfl) (fun aa35 HH35 => ?_)
  clear HH34
  refine LG_val (want0 rfl) rfl rfl HH35 (Y_load HH35 rfl (by kernel_rfl) rfl (SS17.cell 4)) (fun aa36 HH36 => ?_)
  clear HH35
  refine LG_val (want0 rfl) rfl rfl HH36 (Y_conv (k' := .u8) (r := ((b8 (p.line)).toNat : Int)) HH36 rfl (by kernel_rfl) (by kernel_rfl) rfl (conv8 _)) (fun aa37 HH37 => ?_)
  clear HH36
  refine LG_val (want0 rfl) rfl rfl HH37 (Y_fad (off := 5) (r := 5) HH37 rfl (by kernel_rfl) rfl rfl) (fun aa38 HH38 => ?_)
  clear HH37
  refine LG_val (want0 rfl) rfl rfl HH38 (Y_load HH38 rfl (by kernel_rfl) rfl (SS17.cell 5)) (fun aa39 HH39 => ?_)
  clear HH38
  refine LG_val (want0 rfl) rfl rfl HH39 (Y_add (r := (p.ptr + 1)) HH39 rfl rfl rfl (IntWalk.i64_in _ (by omega))) (fun aa40 HH40 => ?_)
  clear HH39
  refine LG_val (want0 rfl) rfl rfl HH40 (Y_conv (k' := .u8) (r := ((b8 ((p.ptr + 1))).toNat : Int)) HH40 rfl (by kernel_rfl) (by kernel_rfl) rfl (conv8 _)) (fun aa41 HH41 => ?_)
  clear HH40
  refine LG_val (want0 rfl) rfl rfl HH41 (Y_fad (off := 6) (r := 6) HH41 rfl (by kernel_rfl) rfl rfl) (fun aa42 HH42 => ?_)
  clear HH41
  refine LG_val (want0 rfl) rfl rfl HH42 (Y_load HH42 rfl (by kernel_rfl) rfl (SS17.cell 6)) (fun aa43 HH43 => ?_)
  clear HH42
  refine LG_val (want0 rfl) rfl rfl HH43 (Y_conv (k' := .u8) (r := ((b8 (p.state)).toNat : Int)) HH43 rfl (by kernel_rfl) (by kernel_rfl) rfl (conv8 _)) (fun aa44 HH44 => ?_)
  clear HH43
  refine LG_val (want0 rfl) rfl rfl HH44 (Y_mov HH44 rfl rfl) (fun aa45 HH45 => ?_)
  clear HH44
  refine LG_val (want0 rfl) rfl rfl HH45 (Y_fad (off := 8) (r := 8) HH45 rfl (by kernel_rfl) rfl rfl) (fun aa46 HH46 => ?_)
  clear HH45
  refine LG_val (want0 rfl) rfl rfl HH46 (Y_load HH46 rfl (by kernel_rfl) rfl (SS17.cell 8)) (fun aa47 HH47 => ?_)
  clear HH46
  refine LG_val (want0 rfl) rfl rfl HH47 (Y_lenS HH47 rfl (by kernel_rfl) rfl) (fun aa48 HH48 => ?_)
  clear HH47
  refine LG_val (want0 rfl) rfl rfl HH48 (Y_conv (k' := .u8) (r := ((b8 ((p.data.length : Int))).toNat : Int)) HH48 rfl (by kernel_rfl) (by kernel_rfl) rfl (conv8 _)) (fun aa49 HH49 => ?_)
  clear HH48
  refine LG_do (want0 rfl) rfl rfl HH49 (M_buildSlice HH49 rfl ty_bytes rfl rfl rfl (by simp [Value.cells]) rfl SS17) ?_
  rintro _ ww50 ⟨b45, rfl, SS50, _⟩ aa50 HH50
  clear HH49
  clear SS17
  refine LG_val (want0 rfl) rfl rfl HH50 (Y_asg HH50 rfl rfl) (fun aa51 HH51 => ?_)
  clear HH50
  refine L_end (t_norm (hKK18 _ _ ?_))
  refine wp_seq_k fun KK52 hKK52 => ?_
  refine wp_seq_k fun KK53 hKK53 => ?_
  refine wp_region_lit ?_
  refine LG_val (want0 rfl) rfl rfl HH51 (Y_fad (off := 8) (r := 8) HH51 rfl (by kernel_rfl) rfl rfl) (fun aa54 HH54 => ?_)
  clear HH51
  refine LG_val (want0 rfl) rfl rfl HH54 (Y_load HH54 rfl (by kernel_rfl) rfl (SS50.p1.cell 8)) (fun aa55 HH55 => ?_)
  clear HH54
  refine LG_val (want0 rfl) rfl rfl HH55 (Y_lenS HH55 rfl (by kernel_rfl) rfl) (fun aa56 HH56 => ?_)
  clear HH55
  refine LG_val (want0 rfl) rfl rfl HH56 (Y_mov HH56 rfl rfl) (fun aa57 HH57 => ?_)
  clear HH56
  refine L_end (t_norm (hKK53 _ _ ?_))
  refine wp_block ?_
  refine c_loop (σ := Nat) (fun (i : Nat) a wx => ∃ ov : Value, Fr a 70 [(5, ov), (47, .slice va p.data.length vc), (48, VI p.data.length), (49, VI i)] ∧ i ≤ p.data.length ∧ Sat wx (Bys ov (pbody p i) :: l)) (fun i => p.data.length - i) (0) ?_ ?_
  · (have e0 : pbody p 0 = phead p := (by simp [pbody]); exact ⟨_, HH57.sub rfl, Nat.zero_le _, by rw [e0]; exact SS50.p1.tail⟩)
  clear HH57
  clear SS50
  rintro i aa58 ww58 ⟨ov, HH58, hi, SS58⟩
  refine wp_seq_k fun KK59 hKK59 => ?_
  refine wp_region_lit ?_
  by_cases hlt : (i : Int) < (p.data.length : Int)
  ·
    refine LG_val (want0 rfl) rfl rfl HH58 (Y_yes (Y_lss HH58 rfl rfl rfl) (hlt)) (fun aa60 HH60 => ?_)
    clear HH58
    refine L_end (t_norm (hKK59 _ _ ?_))
    refine wp_seq_k fun KK61 hKK61 => ?_
    refine c_yes HH60 rfl ?_
    refine wp_skip (t_norm (hKK61 _ _ ?_))
    refine wp_seq_k fun KK62 hKK62 => ?_
    refine wp_block ?_
    refine wp_seq_k fun KK63 hKK63 => ?_
    obtain ⟨b1x, o1, e1, _⟩ := RdI.some (hv _ SS58.tail) (by omega)
    refine wp_region_lit ?_
    refine LG_val (want0 rfl) rfl rfl HH60 (Y_idxE (q := o1 + i) HH60 rfl ty_ints rfl e1 rfl (by omega) (by omega) (by simp)) (fun aa64 HH64 => ?_)
    clear HH60
    refine LG_val (want0 rfl) rfl rfl HH64 (Y_load HH64 rfl (by kernel_rfl) rfl (RdI.atY (hv _ SS58.tail) e1 i (by omega))) (fun aa65 HH65 => ?_)
    clear HH64
    refine LG_val (want0 rfl) rfl rfl HH65 (Y_asg HH65 rfl rfl) (fun aa66 HH66 => ?_)
    clear HH65
    refine L_end (t_norm (hKK63 _ _ ?_))
    refine wp_seq_k fun KK67 hKK67 => ?_
    refine wp_region_lit ?_
    refine LG_val (want0 rfl) rfl rfl HH66 (Y_asg HH66 rfl rfl) (fun aa68 HH68 => ?_)
    clear HH66
    refine L_end (t_norm (hKK67 _ _ ?_))
    refine wp_block ?_
    refine c_loop (σ := Nat) (fun (k : Nat) a wx => ∃ ov : Value, Fr a 70 [(5, ov), (7, VI (p.data.getD i 0)), (8, VI (7 - (k : Int))), (47, .slice va p.data.length vc), (48, VI p.data.length), (49, VI i)] ∧ k ≤ 8 ∧ Sat wx (Bys ov (pbody p i ++ (wordb (p.data.getD i 0)).take k) :: l)) (fun k => 8 - k) (0) ?_ ?_
    · exact ⟨_, HH68.sub rfl, Nat.zero_le _, by rw [List.take_zero, List.append_nil]; exact SS58⟩
    clear HH68
    clear SS58
    rintro k aa69 ww69 ⟨ov, HH69, hk, SS69⟩
    refine wp_seq_k fun KK70 hKK70 => ?_
    refine wp_seq_k fun KK71 hKK71 => ?_
    refine wp_region_lit ?_
    refine LG_val (want0 rfl) rfl rfl HH69 (Y_mov HH69 rfl rfl) (fun aa72 HH72 => ?_)
    clear HH69
    by_cases hlk : (0 : Int) ≤ 7 - (k : Int)
    ·
      refine LG_val (want0 rfl) rfl rfl HH72 (Y_yes (Y_geq HH72 rfl rfl rfl) (hlk)) (fun aa73 HH73 => ?_)
      clear HH72
      refine L_end (t_norm (hKK71 _ _ ?_))
      refine c_yes HH73 rfl ?_
      refine wp_skip (t_norm (hKK70 _ _ ?_))
      refine wp_seq_k fun KK74 hKK74 => ?_
      refine wp_block ?_
      refine wp_region_lit ?_
      refine LG_val (want0 rfl) rfl rfl HH73 (Y_mov HH73 rfl rfl) (fun aa75 HH75 => ?_)
      clear HH73
      refine LG_val (want0 rfl) rfl rfl HH75 (Y_mov HH75 rfl rfl) (fun aa76 HH76 => ?_)
      clear HH75
      refine LG_val (want0 rfl) rfl rfl HH76 (Y_conv (k' := .u64) (r := ((p.data.getD i 0) % 18446744073709551616)) HH76 rfl (by kernel_rfl) (by kernel_rfl) rfl (wrap64m _)) (fun aa77 HH77 => ?_)
      clear HH76
      refine LG_val (want0 rfl) rfl rfl HH77 (Y_mov HH77 rfl rfl) (fun aa78 HH78 => ?_)
      clear HH77
      refine LG_val (want0 rfl) rfl rfl HH78 (Y_mul (r := (8 * (7 - (k : Int)))) HH78 rfl rfl rfl (IntWalk.i64_in _ (by omega))) (fun aa79 HH79 => ?_)
      clear HH78
      refine LG_val (want0 rfl) rfl rfl HH79 (Y_conv (k' := .u64) (r := (8 * (7 - (k : Int)))) HH79 rfl (by kernel_rfl) (by kernel_rfl) rfl (wrap64 _ (by omega) (by omega))) (fun aa80 HH80 => ?_)
      clear HH79
      refine LG_val (want0 rfl) rfl rfl HH80 (Y_shr (r := (((p.data.getD i 0) % 18446744073709551616).fdiv (2 ^ (56 - 8 * k)))) HH80 rfl rfl rfl (by omega) (shr64 _ rfl _ _ (56 - 8 * k) (by omega) (by omega))) (fun aa81 HH81 => ?_)
      clear HH80
      refine LG_val (want0 rfl) rfl rfl HH81 (Y_conv (k' := .u8) (r := ((wb (p.data.getD i 0) k).toNat : Int)) HH81 rfl (by kernel_rfl) (by kernel_rfl) rfl ((conv8 _).trans (by rw [wb_mod _ _ (by omega)]))) (fun aa82 HH82 => ?_)
      clear HH81
      refine LG_do (want0 rfl) rfl rfl HH82 (M_buildSlice HH82 rfl ty_bytes rfl rfl rfl (by simp [Value.cells]) rfl SS69) ?_
      rintro _ ww83 ⟨b65, rfl, SS83, _⟩ aa83 HH83
      clear HH82
      clear SS69
      refine LG_do (want0 rfl) rfl rfl HH83 (M_appY (cs := [wb (p.data.getD i 0) k]) HH83 rfl rfl rfl SS83.p1 (Sl.rd SS83) rfl (by have := pbody_len p i; rw [List.length_append, List.length_take, wordb_len]; simp; omega)) ?_
      rintro _ ww84 ⟨a66, c66, rfl, SS84⟩ aa84 HH84
      clear HH83
      clear SS83
      refine LG_val (want0 rfl) rfl rfl HH84 (Y_asg HH84 rfl rfl) (fun aa85 HH85 => ?_)
      clear HH84
      refine L_end (b_norm (t_norm (hKK74 _ _ ?_)))
      refine wp_region_lit ?_
      refine LG_val (want0 rfl) rfl rfl HH85 (Y_mov HH85 rfl rfl) (fun aa86 HH86 => ?_)
      clear HH85
      refine LG_val (want0 rfl) rfl rfl HH86 (Y_sub (r := (7 - ((k + 1 : Nat) : Int))) HH86 rfl rfl rfl (by rw [IntWalk.i64_in _ (by omega)]; omega)) (fun aa87 HH87 => ?_)
      clear HH86
      refine LG_val (want0 rfl) rfl rfl HH87 (Y_asg HH87 rfl rfl) (fun aa88 HH88 => ?_)
      clear HH87
      refine L_end (t_norm ?_)
      exact ⟨k + 1, ⟨_, HH88.sub rfl, by omega, by rw [wordb_more (p.data.getD i 0) k (by omega), ← List.append_assoc]; exact SS84.p1.tail⟩, by first | omega | (dsimp only; omega)⟩
    ·
      refine LG_val (want0 rfl) rfl rfl HH72 (Y_no (Y_geq HH72 rfl rfl rfl) (hlk)) (fun aa89 HH89 => ?_)
      clear HH72
      refine L_end (t_norm (hKK71 _ _ ?_))
      refine c_no HH89 rfl ?_
      refine wp_exit (t_exit (t_exit (b_exit (b_norm (t_norm (hKK62 _ _ ?_))))))
      refine wp_region_lit ?_
      refine LG_val (want0 rfl) rfl rfl HH89 (Y_add HH89 rfl rfl rfl (IntWalk.i64_in _ (by omega))) (fun aa90 HH90 => ?_)
      clear HH89
      refine LG_val (want0 rfl) rfl rfl HH90 (Y_mov HH90 rfl rfl) (fun aa91 HH91 => ?_)
      clear HH90
      refine L_end (t_norm ?_)
      have hk8 : k = 8 := by omega
      subst hk8
      have e : (wordb (p.data.getD i 0)).take 8 = wordb (p.data.getD i 0) := List.take_of_length_le (by rw [wordb_len]; omega)
      rw [e] at SS69
      exact ⟨i + 1, ⟨_, HH91.sub rfl, by omega, by rw [pbody_more p i (by omega)]; exact SS69⟩, by first | omega | (dsimp only; omega)⟩
  ·
    refine LG_val (want0 rfl) rfl rfl HH58 (Y_no (Y_lss HH58 rfl rfl rfl) (hlt)) (fun aa92 HH92 => ?_)
    clear HH58
    refine L_end (t_norm (hKK59 _ _ ?_))
    refine wp_seq_k fun KK93 hKK93 => ?_
    refine c_no HH92 rfl ?_
    refine wp_exit (t_exit (t_exit (b_exit (t_norm (hKK52 _ _ ?_)))))
    refine wp_seq_k fun KK94 hKK94 => ?_
    refine wp_region_lit ?_
    refine LG_val (want0 rfl) rfl rfl HH92 (Y_mov HH92 rfl rfl) (fun aa95 HH95 => ?_)
    clear HH92
    refine LG_call (want0 rfl) rfl rfl rfl Try.func61 (by kernel_rfl) rfl HH95 (rseal_ok (fun w' h => Bys.rd h) (by have := pbody_len p i; omega) SS58) rfl ?_
    rintro e ww96 ⟨v60, rfl, SS96⟩
    refine ⟨_, rfl, fun aa96 HH96 => ?_⟩
    clear HH95
    clear SS58
    refine LG_val (want0 rfl) rfl rfl HH96 (Y_asg HH96 rfl rfl) (fun aa97 HH97 => ?_)
    clear HH96
    refine LG_val (want0 rfl) rfl rfl HH97 (Y_asg HH97 rfl rfl) (fun aa98 HH98 => ?_)
    clear HH97
    refine L_end (t_norm (hKK94 _ _ ?_))
    refine wp_ret (ret2 rfl HH98 rfl rfl ?_)
    have hil : i = p.data.length := by omega
    have e : ppack p = cseal (pbody p i) := by rw [hil, pbody_all]; rfl
    rw [e]
    exact ⟨_, rfl, SS96.p1.tail⟩

set_option maxRecDepth 100000 in
theorem rpack_bad {w : World} {l : List HProp} (p : Pkt) {va : Option Addr} {vc : Nat} (hp : ¬ p.right) (S : Sat w l) :
    Calls Try.prog 70 #[p.val (.slice va p.data.length vc)] w fun e w' => e = .returned (.tuple #[VNil, VB false]) ∧ Sat w' l := by
  refine enter (n := 70) Try.func70 rfl [(0, p.val (.slice va p.data.length vc))] rfl rfl fun aa0 HH0 => ?_
  refine wp_seq_k fun KK1 hKK1 => ?_
  refine wp_region_lit ?_
  refine LG_do (want0 rfl) rfl rfl HH0 (M_box HH0 rfl rfl rfl S) ?_
  rintro _ ww2 ⟨b1, rfl, SS2, _⟩ aa2 HH2
  clear HH0
  clear S
  refine LG_val (want0 rfl) rfl rfl HH2 (Y_asg HH2 rfl rfl) (fun aa3 HH3 => ?_)
  clear HH2
  refine LG_val (want0 rfl) rfl rfl HH3 (Y_asg HH3 rfl rfl) (fun aa4 HH4 => ?_)
  clear HH3
  refine L_end (t_norm (hKK1 _ _ ?_))
  refine wp_seq_k fun KK5 hKK5 => ?_
  refine wp_seq_k fun KK6 hKK6 => ?_
  refine wp_region_lit ?_
  refine LG_val (want0 rfl) rfl rfl HH4 (Y_loadS HH4 rfl rfl SS2 st_api_Packet.und st_api_Packet.size) (fun aa7 HH7 => ?_)
  clear HH4
  refine LG_call (want0 rfl) rfl rfl rfl Try.func97 (by kernel_rfl) rfl HH7 (right_ok p va vc SS2) rfl ?_
  rintro e ww8 ⟨rfl, SS8⟩
  rw [decide_eq_false hp]
  refine ⟨_, rfl, fun aa8 HH8 => ?_⟩
  clear HH7
  clear SS2
  refine LG_val (want0 rfl) rfl rfl HH8 (Y_not HH8 rfl rfl) (fun aa9 HH9 => ?_)
  clear HH8
  refine L_end (t_norm (hKK6 _ _ ?_))
  refine c_yes HH9 rfl ?_
  refine wp_seq_k fun KK10 hKK10 => ?_
  refine wp_region_lit ?_
  refine LG_val (want0 rfl) rfl rfl HH9 (Y_asg HH9 rfl rfl) (fun aa11 HH11 => ?_)
  clear HH9
  refine LG_val (want0 rfl) rfl rfl HH11 (Y_asg HH11 rfl rfl) (fun aa12 HH12 => ?_)
  clear HH11
  refine L_end (t_norm (hKK10 _ _ ?_))
  refine wp_ret (t_ret (ret2 rfl HH12 rfl rfl ?_))
  exact ⟨rfl, SS8.tail⟩
end Go.Proofs.Ytaekiecidbhjhaa
