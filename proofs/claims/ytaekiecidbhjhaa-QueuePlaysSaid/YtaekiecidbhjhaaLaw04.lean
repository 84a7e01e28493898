/- QueuePlays: the walk of the law. Printed by wip/specs/law04.py over wip/tools/walk.py. -/
import Derived.Test.YtaekiecidbhjhaaPkr
import Derived.Test.YtaekiecidbhjhaaQueue3
import Derived.Test.YtaekiecidbhjhaaBase2
namespace Go.Proofs.Ytaekiecidbhjhaa
open Go.RowKit

set_option maxRecDepth 100000 in
theorem wakes04_ok {w : World} {l : List HProp} (S : Sat w l) : Calls Try.prog 28 #[] w fun e w' => e = .returned (VB true) ∧ Sat w' l := by
  refine enter (n := 31) Try.func28 rfl [] rfl rfl fun aa0 HH0 => ?_
  refine wp_seq_k fun KK1 hKK1 => ?_
  refine wp_region_lit ?_
  refine LG_val (want0 rfl) rfl rfl HH0 (Y_asg HH0 rfl rfl) (fun aa2 HH2 => ?_)
  clear HH0
  refine L_end (t_norm (hKK1 _ _ ?_))
  refine wp_seq_k fun KK3 hKK3 => ?_
  refine wp_region_lit ?_
  refine LG_call (want0 rfl) rfl rfl rfl Try.func18 (by kernel_rfl) rfl HH2 (qnew_ok 1 (by omega) S) rfl ?_
  rintro e ww4 ⟨q, rfl, SS4, _⟩
  refine ⟨_, rfl, fun aa4 HH4 => ?_⟩
  clear HH2
  clear S
  refine LG_val (want0 rfl) rfl rfl HH4 (Y_asg HH4 rfl rfl) (fun aa5 HH5 => ?_)
  clear HH4
  refine L_end (t_norm (hKK3 _ _ ?_))
  refine wp_seq_k fun KK6 hKK6 => ?_
  refine wp_seq_k fun KK7 hKK7 => ?_
  refine wp_region_lit ?_
  refine LG_val (want0 rfl) rfl rfl HH5 (Y_mov HH5 rfl rfl) (fun aa8 HH8 => ?_)
  clear HH5
  refine LG_val (want0 rfl) rfl rfl HH8 (Y_to (Y_eqlP HH8 rfl (by kernel_rfl) rfl rfl) (rfl)) (fun aa9 HH9 => ?_)
  clear HH8
  refine L_end (t_norm (hKK7 _ _ ?_))
  refine c_no HH9 rfl ?_
  refine wp_skip (t_norm (hKK6 _ _ ?_))
  refine wp_seq_k fun KK10 hKK10 => ?_
  refine wp_region_lit ?_
  refine LG_val (want0 rfl) rfl rfl HH9 (Y_mov HH9 rfl rfl) (fun aa11 HH11 => ?_)
  clear HH9
  refine LG_call (want0 rfl) rfl rfl rfl Try.func23 (by kernel_rfl) rfl HH11 (qtake_none SS4) rfl ?_
  rintro e ww12 ⟨rfl, SS12, _⟩
  refine ⟨_, rfl, fun aa12 HH12 => ?_⟩
  clear HH11
  clear SS4
  refine LG_val (want0 rfl) rfl rfl HH12 (Y_mov HH12 rfl rfl) (fun aa13 HH13 => ?_)
  clear HH12
  refine LG_val (want0 rfl) rfl rfl HH13 (Y_ext HH13 rfl rfl rfl) (fun aa14 HH14 => ?_)
  clear HH13
  refine LG_val (want0 rfl) rfl rfl HH14 (Y_ext HH14 rfl rfl rfl) (fun aa15 HH15 => ?_)
  clear HH14
  refine LG_do (want0 rfl) rfl rfl HH15 (M_alloc HH15 rfl st_api_Packet.zero SS12) ?_
  rintro _ ww16 ⟨b2, rfl, SS16, _⟩ aa16 HH16
  clear HH15
  clear SS12
  refine LG_do0 (want0 rfl) rfl HH16 (M_storeS HH16 rfl rfl rfl SS16 st_api_Packet.size rfl rfl (by simp [Value.oneCell'])) ?_
  rintro _ ww17 ⟨SS17, _⟩ aa17 HH17
  clear HH16
  clear SS16
  refine LG_val (want0 rfl) rfl rfl HH17 (Y_asg HH17 rfl rfl) (fun aa18 HH18 => ?_)
  clear HH17
  refine L_end (t_norm (hKK10 _ _ ?_))
  refine wp_seq_k fun KK19 hKK19 => ?_
  refine wp_region_lit ?_
  refine LG_val (want0 rfl) rfl rfl HH18 (Y_mov HH18 rfl rfl) (fun aa20 HH20 => ?_)
  clear HH18
  refine LG_val (want0 rfl) rfl rfl HH20 (Y_not HH20 rfl rfl) (fun aa21 HH21 => ?_)
  clear HH20
  refine LG_val (want0 rfl) rfl rfl HH21 (Y_mov HH21 rfl rfl) (fun aa22 HH22 => ?_)
  clear HH21
  refine LG_val (HH22.want rfl rfl rfl) rfl rfl HH22 (Y_mov HH22 rfl rfl) (fun aa23 HH23 => ?_)
  clear HH22
  refine LG_val (HH23.want rfl rfl rfl) rfl rfl HH23 (Y_build (cs := Pkt.cells ⟨0, 0, 0, 5, 0, 0, 0, false, []⟩ VNil) HH23 rfl st_api_Packet rfl rfl) (fun aa24 HH24 => ?_)
  clear HH23
  refine LG_call (HH24.want rfl rfl rfl) rfl rfl rfl Try.func20 (by kernel_rfl) rfl HH24 (qput_room SS17.p1 ⟨0, 0, 0, 5, 0, 0, 0, false, []⟩ VNil (Rd.nil _ _) (by simp) (by decide)) rfl ?_
  rintro e ww25 ⟨rfl, SS25, _⟩
  refine ⟨_, rfl, fun aa25 HH25 => ?_⟩
  clear HH24
  clear SS17
  refine LG_val (HH25.want rfl rfl rfl) rfl rfl HH25 (Y_yes (Y_eql HH25 rfl rfl rfl) (rfl)) (fun aa26 HH26 => ?_)
  clear HH25
  refine LG_val (want0 rfl) rfl rfl HH26 (Y_pickT HH26 rfl rfl rfl) (fun aa27 HH27 => ?_)
  clear HH26
  refine LG_val (want0 rfl) rfl rfl HH27 (Y_mov HH27 rfl rfl) (fun aa28 HH28 => ?_)
  clear HH27
  refine LG_val (HH28.want rfl rfl rfl) rfl rfl HH28 (Y_mov HH28 rfl rfl) (fun aa29 HH29 => ?_)
  clear HH28
  refine LG_val (HH29.want rfl rfl rfl) rfl rfl HH29 (Y_build (cs := Pkt.cells ⟨0, 0, 0, 0, 0, 0, 0, false, []⟩ VNil) HH29 rfl st_api_Packet rfl rfl) (fun aa30 HH30 => ?_)
  clear HH29
  refine LG_call (HH30.want rfl rfl rfl) rfl rfl rfl Try.func20 (by kernel_rfl) rfl HH30 (qput_full SS25 ⟨0, 0, 0, 0, 0, 0, 0, false, []⟩ VNil (by decide)) rfl ?_
  rintro e ww31 ⟨rfl, SS31, _⟩
  refine ⟨_, rfl, fun aa31 HH31 => ?_⟩
  clear HH30
  clear SS25
  refine LG_val (HH31.want rfl rfl rfl) rfl rfl HH31 (Y_yes (Y_eql HH31 rfl rfl rfl) (rfl)) (fun aa32 HH32 => ?_)
  clear HH31
  refine LG_val (want0 rfl) rfl rfl HH32 (Y_pickT HH32 rfl rfl rfl) (fun aa33 HH33 => ?_)
  clear HH32
  refine LG_val (want0 rfl) rfl rfl HH33 (Y_mov HH33 rfl rfl) (fun aa34 HH34 => ?_)
  clear HH33
  refine LG_val (HH34.want rfl rfl rfl) rfl rfl HH34 (Y_mov HH34 rfl rfl) (fun aa35 HH35 => ?_)
  clear HH34
  refine LG_call (HH35.want rfl rfl rfl) rfl rfl rfl Try.func24 (by kernel_rfl) rfl HH35 (qlen_ok SS31) rfl ?_
  rintro e ww36 ⟨rfl, rfl⟩
  refine ⟨_, rfl, fun aa36 HH36 => ?_⟩
  clear HH35
  refine LG_val (HH36.want rfl rfl rfl) rfl rfl HH36 (Y_yes (Y_eql HH36 rfl rfl rfl) (rfl)) (fun aa37 HH37 => ?_)
  clear HH36
  refine LG_val (want0 rfl) rfl rfl HH37 (Y_pickT HH37 rfl rfl rfl) (fun aa38 HH38 => ?_)
  clear HH37
  refine LG_val (want0 rfl) rfl rfl HH38 (Y_asg HH38 rfl rfl) (fun aa39 HH39 => ?_)
  clear HH38
  refine L_end (t_norm (hKK19 _ _ ?_))
  refine wp_ret (ret1 rfl HH39 rfl ?_)
  exact ⟨rfl, SS31.tail.tail⟩

set_option maxRecDepth 100000 in
theorem queuePlays_ok {w : World} (room : Int) {av dv : Value} {acts data : List Int} (hra : RdI w av acts) (hrd : RdI w dv data) (hb : data.length * 8 ≤ 140737488351232) :
    Calls Try.prog 4 #[VI room, av, dv] w fun e w' => e = .returned (VB true) ∧ Below w.heap.size w w' := by
  obtain ⟨a1, c1, rfl, _, _⟩ := hra.val
  obtain ⟨a2, c2, rfl, _, _⟩ := hrd.val
  have S := Sat.old w
  refine enter (n := 166) Try.func4 rfl [(0, VI room), (1, .slice a1 acts.length c1), (2, .slice a2 data.length c2)] rfl rfl fun aa0 HH0 => ?_
  refine wp_seq_k fun KK1 hKK1 => ?_
  refine wp_region_lit ?_
  refine LG_val (want0 rfl) rfl rfl HH0 (Y_asg HH0 rfl rfl) (fun aa2 HH2 => ?_)
  clear HH0
  refine L_end (t_norm (hKK1 _ _ ?_))
  refine c_cut (fun a wx => ∃ r : Int, Fr a 166 [(0, VI r), (1, .slice a1 acts.length c1), (2, .slice a2 data.length c2), (6, VB false)] ∧ Sat wx [Old w]) ?_ ?_
  ·
    refine wp_seq_k fun KK3 hKK3 => ?_
    refine wp_region_lit ?_
    refine LG_val (want0 rfl) rfl rfl HH2 (Y_mov HH2 rfl rfl) (fun aa4 HH4 => ?_)
    clear HH2
    refine LG_val (want0 rfl) rfl rfl HH4 (Y_rem HH4 rfl rfl rfl (by omega) (rfl)) (fun aa5 HH5 => ?_)
    clear HH4
    by_cases h6 : room.tmod 7 ≠ 6
    ·
      refine LG_val (want0 rfl) rfl rfl HH5 (Y_yes (Y_neq HH5 rfl rfl rfl) (h6)) (fun aa6 HH6 => ?_)
      clear HH5
      refine L_end (t_norm (hKK3 _ _ ?_))
      refine c_yes HH6 rfl ?_
      refine wp_region_lit ?_
      refine LG_val (want0 rfl) rfl rfl HH6 (Y_mov HH6 rfl rfl) (fun aa7 HH7 => ?_)
      clear HH6
      refine LG_call (want0 rfl) rfl rfl rfl Try.func17 (by kernel_rfl) rfl HH7 (within_ok (room) (5) (by omega)) rfl ?_
      rintro e ww8 ⟨rfl, rfl⟩
      refine ⟨_, rfl, fun aa8 HH8 => ?_⟩
      clear HH7
      refine LG_val (want0 rfl) rfl rfl HH8 (Y_asg HH8 rfl rfl) (fun aa9 HH9 => ?_)
      clear HH8
      refine L_end (t_norm ?_)
      exact ⟨_, HH9.sub rfl, S⟩
    ·
      refine LG_val (want0 rfl) rfl rfl HH5 (Y_no (Y_neq HH5 rfl rfl rfl) (h6)) (fun aa10 HH10 => ?_)
      clear HH5
      refine L_end (t_norm (hKK3 _ _ ?_))
      refine c_no HH10 rfl ?_
      refine wp_skip (t_norm ?_)
      exact ⟨_, HH10.sub rfl, S⟩
  clear HH2
  clear S
  rintro aa11 ww11 ⟨r0, HH11, SS11⟩
  refine wp_seq_k fun KK12 hKK12 => ?_
  refine wp_region_lit ?_
  refine LG_val (want0 rfl) rfl rfl HH11 (Y_mov HH11 rfl rfl) (fun aa13 HH13 => ?_)
  clear HH11
  obtain ⟨r, hr, hr30⟩ : ∃ r, min r0 30 = r ∧ r ≤ 30 := ⟨_, rfl, by omega⟩
  refine LG_val (want0 rfl) rfl rfl HH13 (Y_min (r := r) HH13 rfl rfl rfl (hr)) (fun aa14 HH14 => ?_)
  clear HH13
  refine LG_val (want0 rfl) rfl rfl HH14 (Y_asg HH14 rfl rfl) (fun aa15 HH15 => ?_)
  clear HH14
  refine L_end (t_norm (hKK12 _ _ ?_))
  refine wp_seq_k fun KK16 hKK16 => ?_
  refine wp_region_lit ?_
  refine LG_val (want0 rfl) rfl rfl HH15 (Y_mov HH15 rfl rfl) (fun aa17 HH17 => ?_)
  clear HH15
  refine LG_call (want0 rfl) rfl rfl rfl Try.func18 (by kernel_rfl) rfl HH17 (qnew_ok r (by omega) SS11) rfl ?_
  rintro e ww18 ⟨q, rfl, SS18, _⟩
  refine ⟨_, rfl, fun aa18 HH18 => ?_⟩
  clear HH17
  clear SS11
  refine LG_val (want0 rfl) rfl rfl HH18 (Y_asg HH18 rfl rfl) (fun aa19 HH19 => ?_)
  clear HH18
  refine L_end (t_norm (hKK16 _ _ ?_))
  refine wp_seq_k fun KK20 hKK20 => ?_
  refine wp_seq_k fun KK21 hKK21 => ?_
  obtain ⟨R, hR⟩ : ∃ R, max 0 r = R := ⟨_, rfl⟩
  rw [hR] at SS18
  refine wp_region_lit ?_
  refine LG_val (want0 rfl) rfl rfl HH19 (Y_mov HH19 rfl rfl) (fun aa22 HH22 => ?_)
  clear HH19
  refine LG_val (want0 rfl) rfl rfl HH22 (Y_to (Y_eqlP HH22 rfl (by kernel_rfl) rfl rfl) (rfl)) (fun aa23 HH23 => ?_)
  clear HH22
  refine L_end (t_norm (hKK21 _ _ ?_))
  refine c_no HH23 rfl ?_
  refine wp_skip (t_norm (hKK20 _ _ ?_))
  refine wp_seq_k fun KK24 hKK24 => ?_
  refine wp_region_lit ?_
  refine LG_val (want0 rfl) rfl rfl HH23 (Y_asg HH23 rfl rfl) (fun aa25 HH25 => ?_)
  clear HH23
  refine L_end (t_norm (hKK24 _ _ ?_))
  refine wp_seq_k fun KK26 hKK26 => ?_
  refine wp_seq_k fun KK27 hKK27 => ?_
  refine wp_region_lit ?_
  refine LG_val (want0 rfl) rfl rfl HH25 (Y_asg HH25 rfl rfl) (fun aa28 HH28 => ?_)
  clear HH25
  refine L_end (t_norm (hKK27 _ _ ?_))
  refine wp_block ?_
  have S0 := PkR.nil (.slice a2 data.length c2) SS18
  refine c_loop (σ := Nat) (fun (i : Nat) a wx => ∃ (rs : List Pkt) (ar : Option Addr) (cr : Nat), Fr a 166 [(0, VI r), (1, .slice a1 acts.length c1), (2, .slice a2 data.length c2), (6, VB false), (7, VP q 0), (8, .slice ar rs.length cr), (9, VI i)] ∧ i ≤ 20 ∧ i ≤ acts.length ∧ rs.length ≤ i ∧ (∀ p ∈ rs, p.data = data) ∧ Sat wx [PkR (.slice ar rs.length cr) (.slice a2 data.length c2) rs, QRep q R rs, Old w]) (fun i => 20 - i) (0) ?_ ?_
  · exact ⟨[], _, _, HH28.sub rfl, by omega, by omega, by simp, by simp, S0⟩
  clear HH28
  clear SS18
  rintro i aa29 ww29 ⟨rs, ar, cr, HH29, hi20, hia, hri, hdata, SS29⟩
  refine wp_seq_k fun KK30 hKK30 => ?_
  refine wp_seq_k fun KK31 hKK31 => ?_
  refine wp_region_lit ?_
  refine LG_val (want0 rfl) rfl rfl HH29 (Y_mov HH29 rfl rfl) (fun aa32 HH32 => ?_)
  clear HH29
  refine LG_val (want0 rfl) rfl rfl HH32 (Y_mov HH32 rfl rfl) (fun aa33 HH33 => ?_)
  clear HH32
  refine LG_val (want0 rfl) rfl rfl HH33 (Y_lenS HH33 rfl (by kernel_rfl) rfl) (fun aa34 HH34 => ?_)
  clear HH33
  by_cases hlt : (i : Int) < (acts.length : Int)
  ·
    refine LG_val (want0 rfl) rfl rfl HH34 (Y_yes (Y_lss HH34 rfl rfl rfl) (hlt)) (fun aa35 HH35 => ?_)
    clear HH34
    refine LG_val (want0 rfl) rfl rfl HH35 (Y_mov HH35 rfl rfl) (fun aa36 HH36 => ?_)
    clear HH35
    refine LG_val (HH36.want rfl rfl rfl) rfl rfl HH36 (Y_mov HH36 rfl rfl) (fun aa37 HH37 => ?_)
    clear HH36
    by_cases hlt2 : (i : Int) < 20
    ·
      refine LG_val (HH37.want rfl rfl rfl) rfl rfl HH37 (Y_yes (Y_lss HH37 rfl rfl rfl) (hlt2)) (fun aa38 HH38 => ?_)
      clear HH37
      refine LG_val (want0 rfl) rfl rfl HH38 (Y_pickT HH38 rfl rfl rfl) (fun aa39 HH39 => ?_)
      clear HH38
      refine L_end (t_norm (hKK31 _ _ ?_))
      refine c_yes HH39 rfl ?_
      refine wp_skip (t_norm (hKK30 _ _ ?_))
      refine wp_seq_k fun KK40 hKK40 => ?_
      refine wp_block ?_
      refine c_cut (fun a wx => ∃ (rs : List Pkt) (ar : Option Addr) (cr : Nat), Fr a 166 [(0, VI r), (1, .slice a1 acts.length c1), (2, .slice a2 data.length c2), (6, VB false), (7, VP q 0), (8, .slice ar rs.length cr), (9, VI i)] ∧ rs.length ≤ i + 1 ∧ (∀ p ∈ rs, p.data = data) ∧ Sat wx [PkR (.slice ar rs.length cr) (.slice a2 data.length c2) rs, QRep q R rs, Old w]) ?_ ?_
      ·
        refine wp_seq_k fun KK41 hKK41 => ?_
        obtain ⟨b1, o1, e1, ca⟩ := RdI.some (RdI.old hra SS29.p2) (by omega)
        have ci := ca i (by omega)
        refine wp_region_lit ?_
        refine LG_val (want0 rfl) rfl rfl HH39 (Y_mov HH39 rfl rfl) (fun aa42 HH42 => ?_)
        clear HH39
        refine LG_val (want0 rfl) rfl rfl HH42 (Y_mov HH42 rfl rfl) (fun aa43 HH43 => ?_)
        clear HH42
        refine LG_val (want0 rfl) rfl rfl HH43 (Y_idxE (q := o1 + i) HH43 rfl ty_ints rfl e1 rfl (by omega) (by omega) (by simp)) (fun aa44 HH44 => ?_)
        clear HH43
        refine LG_val (want0 rfl) rfl rfl HH44 (Y_load HH44 rfl (by kernel_rfl) rfl ci) (fun aa45 HH45 => ?_)
        clear HH44
        refine LG_call (want0 rfl) rfl rfl rfl Try.func17 (by kernel_rfl) rfl HH45 (within_ok (acts.getD i 0) (4) (by omega)) rfl ?_
        rintro e ww46 ⟨rfl, rfl⟩
        have hk0 := within_lo (acts.getD i 0) 4
        have hk4 := within_hi (acts.getD i 0) 4 (by omega)
        obtain ⟨k, hk⟩ : ∃ k, within (acts.getD i 0) 4 = k := ⟨_, rfl⟩
        rw [hk] at hk0 hk4 ⊢
        refine ⟨_, rfl, fun aa46 HH46 => ?_⟩
        clear HH45
        refine L_end (t_norm (hKK41 _ _ ?_))
        refine wp_block ?_
        refine wp_seq_k fun KK47 hKK47 => ?_
        refine wp_seq_k fun KK48 hKK48 => ?_
        refine wp_region_lit ?_
        by_cases h0 : k = 0
        ·
          refine LG_val (want0 rfl) rfl rfl HH46 (Y_yes (Y_eql HH46 rfl rfl rfl) (h0)) (fun aa49 HH49 => ?_)
          clear HH46
          refine LG_val (want0 rfl) rfl rfl HH49 (Y_asg HH49 rfl rfl) (fun aa50 HH50 => ?_)
          clear HH49
          refine L_end (t_norm (hKK48 _ _ ?_))
          refine c_yes HH50 rfl ?_
          refine wp_skip (t_norm (hKK47 _ _ ?_))
          refine c_yes HH50 rfl ?_
          refine wp_seq_k fun KK51 hKK51 => ?_
          refine wp_region_lit ?_
          refine LG_val (want0 rfl) rfl rfl HH50 (Y_mov HH50 rfl rfl) (fun aa52 HH52 => ?_)
          clear HH50
          refine LG_call (want0 rfl) rfl rfl rfl Try.func19 (by kernel_rfl) rfl HH52 (copy_ok (RdI.old hrd SS29.p2) (by omega) SS29) rfl ?_
          rintro e ww53 ⟨x0, rfl, SS53, _⟩
          obtain ⟨a4, c4, rfl, _, _⟩ := Ints.val SS53
          refine ⟨_, rfl, fun aa53 HH53 => ?_⟩
          clear HH52
          clear SS29
          refine LG_val (want0 rfl) rfl rfl HH53 (Y_asg HH53 rfl rfl) (fun aa54 HH54 => ?_)
          clear HH53
          refine L_end (t_norm (hKK51 _ _ ?_))
          refine wp_seq_k fun KK55 hKK55 => ?_
          refine wp_region_lit ?_
          refine LG_val (want0 rfl) rfl rfl HH54 (Y_mov HH54 rfl rfl) (fun aa56 HH56 => ?_)
          clear HH54
          refine LG_val (want0 rfl) rfl rfl HH56 (Y_rem (r := (i : Int) % 9) HH56 rfl rfl rfl (by omega) (Int.tmod_eq_emod_of_nonneg (by omega))) (fun aa57 HH57 => ?_)
          clear HH56
          refine LG_val (want0 rfl) rfl rfl HH57 (Y_add HH57 rfl rfl rfl (IntWalk.i64_in _ (by omega))) (fun aa58 HH58 => ?_)
          clear HH57
          refine LG_val (want0 rfl) rfl rfl HH58 (Y_mov HH58 rfl rfl) (fun aa59 HH59 => ?_)
          clear HH58
          refine LG_val (want0 rfl) rfl rfl HH59 (Y_mov HH59 rfl rfl) (fun aa60 HH60 => ?_)
          clear HH59
          refine LG_val (want0 rfl) rfl rfl HH60 (Y_build (cs := Pkt.cells ⟨1 + (i : Int) % 9, 0, 0, i, 0, 0, 0, false, data⟩ (.slice a4 data.length c4)) HH60 rfl st_api_Packet rfl rfl) (fun aa61 HH61 => ?_)
          clear HH60
          refine LG_do (want0 rfl) rfl rfl HH61 (M_alloc HH61 rfl st_api_Packet.zero SS53) ?_
          rintro _ ww62 ⟨b11, rfl, SS62, _⟩ aa62 HH62
          clear HH61
          clear SS53
          refine LG_do0 (want0 rfl) rfl HH62 (M_storeS HH62 rfl rfl rfl SS62 st_api_Packet.size rfl rfl (by simp [Value.oneCell'])) ?_
          rintro _ ww63 ⟨SS63, _⟩ aa63 HH63
          clear HH62
          clear SS62
          refine L_end (t_norm (hKK55 _ _ ?_))
          refine wp_seq_k fun KK64 hKK64 => ?_
          refine wp_region_lit ?_
          refine LG_val (want0 rfl) rfl rfl HH63 (Y_asg HH63 rfl rfl) (fun aa65 HH65 => ?_)
          clear HH63
          refine L_end (t_norm (hKK64 _ _ ?_))
          refine wp_seq_k fun KK66 hKK66 => ?_
          refine wp_seq_k fun KK67 hKK67 => ?_
          refine wp_region_lit ?_
          refine LG_val (want0 rfl) rfl rfl HH65 (Y_mov HH65 rfl rfl) (fun aa68 HH68 => ?_)
          clear HH65
          refine LG_val (want0 rfl) rfl rfl HH68 (Y_lenS HH68 rfl (by kernel_rfl) rfl) (fun aa69 HH69 => ?_)
          clear HH68
          refine LG_val (want0 rfl) rfl rfl HH69 (Y_mov HH69 rfl rfl) (fun aa70 HH70 => ?_)
          clear HH69
          refine LG_val (want0 rfl) rfl rfl HH70 (Y_max HH70 rfl rfl rfl (rfl)) (fun aa71 HH71 => ?_)
          clear HH70
          by_cases hfull : max r 0 ≤ (rs.length : Int)
          ·
            refine LG_val (want0 rfl) rfl rfl HH71 (Y_yes (Y_geq HH71 rfl rfl rfl) (hfull)) (fun aa72 HH72 => ?_)
            clear HH71
            refine L_end (t_norm (hKK67 _ _ ?_))
            refine c_yes HH72 rfl ?_
            refine wp_region_lit ?_
            refine LG_val (want0 rfl) rfl rfl HH72 (Y_asg HH72 rfl rfl) (fun aa73 HH73 => ?_)
            clear HH72
            refine L_end (t_norm (hKK66 _ _ ?_))
            refine wp_seq_k fun KK74 hKK74 => ?_
            refine wp_seq_k fun KK75 hKK75 => ?_
            refine wp_region_lit ?_
            refine LG_val (want0 rfl) rfl rfl HH73 (Y_mov HH73 rfl rfl) (fun aa76 HH76 => ?_)
            clear HH73
            refine LG_val (want0 rfl) rfl rfl HH76 (Y_loadS HH76 rfl rfl SS63 st_api_Packet.und st_api_Packet.size) (fun aa77 HH77 => ?_)
            clear HH76
            have hok := (QRep.open.1 SS63.p3).1.2.1
            refine LG_call (want0 rfl) rfl rfl rfl Try.func20 (by kernel_rfl) rfl HH77 (qput_full SS63.p3 ⟨1 + (i : Int) % 9, 0, 0, i, 0, 0, 0, false, data⟩ _ (by omega)) rfl ?_
            rintro e ww78 ⟨rfl, SS78, _⟩
            refine ⟨_, rfl, fun aa78 HH78 => ?_⟩
            clear HH77
            clear SS63
            refine LG_val (want0 rfl) rfl rfl HH78 (Y_mov HH78 rfl rfl) (fun aa79 HH79 => ?_)
            clear HH78
            refine LG_val (want0 rfl) rfl rfl HH79 (Y_no (Y_neq HH79 rfl rfl rfl) (by simp)) (fun aa80 HH80 => ?_)
            clear HH79
            refine L_end (t_norm (hKK75 _ _ ?_))
            refine c_no HH80 rfl ?_
            refine wp_skip (t_norm (hKK74 _ _ ?_))
            refine wp_seq_k fun KK81 hKK81 => ?_
            refine wp_region_lit ?_
            refine LG_val (want0 rfl) rfl rfl HH80 (Y_mov HH80 rfl rfl) (fun aa82 HH82 => ?_)
            clear HH80
            refine LG_val (want0 rfl) rfl rfl HH82 (Y_lenS HH82 rfl (by kernel_rfl) rfl) (fun aa83 HH83 => ?_)
            clear HH82
            refine LG_val (want0 rfl) rfl rfl HH83 (Y_mov HH83 rfl rfl) (fun aa84 HH84 => ?_)
            clear HH83
            refine L_end (t_norm (hKK81 _ _ ?_))
            refine wp_block ?_
            refine c_loop (σ := Nat) (fun (j : Nat) a wx => ∃ ys : List Int, Fr a 166 [(0, VI r), (1, .slice a1 acts.length c1), (2, .slice a2 data.length c2), (6, VB false), (7, VP q 0), (8, .slice ar rs.length cr), (9, VI i), (10, .slice a4 data.length c4), (109, VI data.length), (110, VI j)] ∧ j ≤ data.length ∧ ys.length = data.length ∧ Sat wx [Ints (.slice a4 data.length c4) ys, QRep q R rs, PkR (.slice ar rs.length cr) (.slice a2 data.length c2) rs, Old w]) (fun j => data.length - j) (0) ?_ ?_
            · exact ⟨data, HH84.sub rfl, Nat.zero_le _, rfl, SS78.p4.p4.p2.p4.t4⟩
            clear HH84
            clear SS78
            rintro j aa85 ww85 ⟨ys, HH85, hj, hys, SS85⟩
            refine wp_seq_k fun KK86 hKK86 => ?_
            refine wp_region_lit ?_
            by_cases hjl : (j : Int) < (data.length : Int)
            ·
              refine LG_val (want0 rfl) rfl rfl HH85 (Y_yes (Y_lss HH85 rfl rfl rfl) (hjl)) (fun aa87 HH87 => ?_)
              clear HH85
              refine L_end (t_norm (hKK86 _ _ ?_))
              refine wp_seq_k fun KK88 hKK88 => ?_
              refine c_yes HH87 rfl ?_
              refine wp_skip (t_norm (hKK88 _ _ ?_))
              refine wp_seq_k fun KK89 hKK89 => ?_
              refine wp_block ?_
              refine wp_seq_k fun KK90 hKK90 => ?_
              refine wp_region_lit ?_
              refine LG_val (want0 rfl) rfl rfl HH87 (Y_mov HH87 rfl rfl) (fun aa91 HH91 => ?_)
              clear HH87
              refine LG_val (want0 rfl) rfl rfl HH91 (Y_asg HH91 rfl rfl) (fun aa92 HH92 => ?_)
              clear HH91
              refine L_end (t_norm (hKK90 _ _ ?_))
              obtain ⟨b5, o5, e5⟩ := Ints.some SS85 hys (by omega)
              have cj := Ints.atE e5 hys SS85 j (by omega)
              refine wp_region_lit ?_
              refine LG_val (want0 rfl) rfl rfl HH92 (Y_mov HH92 rfl rfl) (fun aa93 HH93 => ?_)
              clear HH92
              refine LG_val (want0 rfl) rfl rfl HH93 (Y_mov HH93 rfl rfl) (fun aa94 HH94 => ?_)
              clear HH93
              refine LG_val (want0 rfl) rfl rfl HH94 (Y_idxE (q := o5 + j) HH94 rfl ty_ints rfl e5 rfl (by omega) (by omega) (by simp)) (fun aa95 HH95 => ?_)
              clear HH94
              refine LG_val (want0 rfl) rfl rfl HH95 (Y_load HH95 rfl (by kernel_rfl) rfl cj) (fun aa96 HH96 => ?_)
              clear HH95
              refine LG_val (want0 rfl) rfl rfl HH96 (Y_xor HH96 rfl rfl rfl (rfl)) (fun aa97 HH97 => ?_)
              clear HH96
              refine LG_val (want0 rfl) rfl rfl HH97 (Y_idxE (q := o5 + j) HH97 rfl ty_ints rfl e5 rfl (by omega) (by omega) (by simp)) (fun aa98 HH98 => ?_)
              clear HH97
              refine LG_do0 (want0 rfl) rfl HH98 (M_storeI HH98 rfl j rfl rfl e5 SS85 hys (by omega)) ?_
              rintro _ ww99 SS99 aa99 HH99
              clear HH98
              clear SS85
              refine L_end (b_norm (t_norm (hKK89 _ _ ?_)))
              refine wp_region_lit ?_
              refine LG_val (want0 rfl) rfl rfl HH99 (Y_add HH99 rfl rfl rfl (IntWalk.i64_in _ (by omega))) (fun aa100 HH100 => ?_)
              clear HH99
              refine LG_val (want0 rfl) rfl rfl HH100 (Y_mov HH100 rfl rfl) (fun aa101 HH101 => ?_)
              clear HH100
              refine L_end (t_norm ?_)
              exact ⟨j + 1, ⟨_, HH101.sub rfl, by omega, (by rw [List.length_set]; exact hys), SS99.p3.p3.p3.p3.t4⟩, by first | omega | (dsimp only; omega)⟩
            ·
              refine LG_val (want0 rfl) rfl rfl HH85 (Y_no (Y_lss HH85 rfl rfl rfl) (hjl)) (fun aa102 HH102 => ?_)
              clear HH85
              refine L_end (t_norm (hKK86 _ _ ?_))
              refine wp_seq_k fun KK103 hKK103 => ?_
              refine c_no HH102 rfl ?_
              refine wp_exit (t_exit (t_exit (b_exit (b_norm (t_norm ?_)))))
              exact ⟨rs, ar, cr, HH102.sub rfl, by omega, hdata, SS85.p3.p2.p3.t3⟩
          ·
            refine LG_val (want0 rfl) rfl rfl HH71 (Y_no (Y_geq HH71 rfl rfl rfl) (hfull)) (fun aa104 HH104 => ?_)
            clear HH71
            refine L_end (t_norm (hKK67 _ _ ?_))
            refine c_no HH104 rfl ?_
            refine wp_region_lit ?_
            refine LG_val (want0 rfl) rfl rfl HH104 (Y_mov HH104 rfl rfl) (fun aa105 HH105 => ?_)
            clear HH104
            refine LG_val (want0 rfl) rfl rfl HH105 (Y_mov HH105 rfl rfl) (fun aa106 HH106 => ?_)
            clear HH105
            refine LG_val (want0 rfl) rfl rfl HH106 (Y_rem (r := (i : Int) % 9) HH106 rfl rfl rfl (by omega) (Int.tmod_eq_emod_of_nonneg (by omega))) (fun aa107 HH107 => ?_)
            clear HH106
            refine LG_val (want0 rfl) rfl rfl HH107 (Y_add HH107 rfl rfl rfl (IntWalk.i64_in _ (by omega))) (fun aa108 HH108 => ?_)
            clear HH107
            refine LG_val (want0 rfl) rfl rfl HH108 (Y_mov HH108 rfl rfl) (fun aa109 HH109 => ?_)
            clear HH108
            refine LG_val (want0 rfl) rfl rfl HH109 (Y_mov HH109 rfl rfl) (fun aa110 HH110 => ?_)
            clear HH109
            refine LG_val (want0 rfl) rfl rfl HH110 (Y_build (cs := Pkt.cells ⟨1 + (i : Int) % 9, 0, 0, i, 0, 0, 0, false, data⟩ (.slice a2 data.length c2)) HH110 rfl st_api_Packet rfl rfl) (fun aa111 HH111 => ?_)
            clear HH110
            refine LG_do (want0 rfl) rfl rfl HH111 (M_buildSlice (cs := Pkt.cells ⟨1 + (i : Int) % 9, 0, 0, i, 0, 0, 0, false, data⟩ (.slice a2 data.length c2)) HH111 rfl ty_pkts rfl rfl rfl (by simp [Value.cells]) rfl SS63) ?_
            rintro _ ww112 ⟨b101, rfl, SS112, _⟩ aa112 HH112
            clear HH111
            clear SS63
            refine LG_do (want0 rfl) rfl rfl HH112 (M_appR (p := ⟨1 + (i : Int) % 9, 0, 0, i, 0, 0, 0, false, data⟩) (d := .slice a2 data.length c2) HH112 rfl rfl rfl SS112.p3.p1 (one_pkt _ _ _ _) (by omega)) ?_
            rintro _ ww113 ⟨a5, c5, rfl, SS113⟩ aa113 HH113
            clear HH112
            clear SS112
            refine LG_val (want0 rfl) rfl rfl HH113 (Y_asg HH113 rfl rfl) (fun aa114 HH114 => ?_)
            clear HH113
            refine L_end (t_norm (hKK66 _ _ ?_))
            refine wp_seq_k fun KK115 hKK115 => ?_
            refine wp_seq_k fun KK116 hKK116 => ?_
            refine wp_region_lit ?_
            refine LG_val (want0 rfl) rfl rfl HH114 (Y_mov HH114 rfl rfl) (fun aa117 HH117 => ?_)
            clear HH114
            refine LG_val (want0 rfl) rfl rfl HH117 (Y_loadS HH117 rfl rfl SS113.p1 st_api_Packet.und st_api_Packet.size) (fun aa118 HH118 => ?_)
            clear HH117
            refine LG_call (want0 rfl) rfl rfl rfl Try.func20 (by kernel_rfl) rfl HH118 (qput_room SS113.p3 ⟨1 + (i : Int) % 9, 0, 0, i, 0, 0, 0, false, data⟩ _ (Ints.rd SS113.p2) hb (by omega)) rfl ?_
            rintro e ww119 ⟨rfl, SS119, _⟩
            refine ⟨_, rfl, fun aa119 HH119 => ?_⟩
            clear HH118
            clear SS113
            refine LG_val (want0 rfl) rfl rfl HH119 (Y_mov HH119 rfl rfl) (fun aa120 HH120 => ?_)
            clear HH119
            refine LG_val (want0 rfl) rfl rfl HH120 (Y_no (Y_neq HH120 rfl rfl rfl) (by simp)) (fun aa121 HH121 => ?_)
            clear HH120
            refine L_end (t_norm (hKK116 _ _ ?_))
            refine c_no HH121 rfl ?_
            refine wp_skip (t_norm (hKK115 _ _ ?_))
            refine wp_seq_k fun KK122 hKK122 => ?_
            refine wp_region_lit ?_
            refine LG_val (want0 rfl) rfl rfl HH121 (Y_mov HH121 rfl rfl) (fun aa123 HH123 => ?_)
            clear HH121
            refine LG_val (want0 rfl) rfl rfl HH123 (Y_lenS HH123 rfl (by kernel_rfl) rfl) (fun aa124 HH124 => ?_)
            clear HH123
            refine LG_val (want0 rfl) rfl rfl HH124 (Y_mov HH124 rfl rfl) (fun aa125 HH125 => ?_)
            clear HH124
            refine L_end (t_norm (hKK122 _ _ ?_))
            refine wp_block ?_
            refine c_loop (σ := Nat) (fun (j : Nat) a wx => ∃ ys : List Int, Fr a 166 [(0, VI r), (1, .slice a1 acts.length c1), (2, .slice a2 data.length c2), (6, VB false), (7, VP q 0), (8, .slice a5 (rs ++ [(⟨1 + (i : Int) % 9, 0, 0, i, 0, 0, 0, false, data⟩ : Pkt)]).length c5), (9, VI i), (10, .slice a4 data.length c4), (109, VI data.length), (110, VI j)] ∧ j ≤ data.length ∧ ys.length = data.length ∧ Sat wx [Ints (.slice a4 data.length c4) ys, QRep q R (rs ++ [(⟨1 + (i : Int) % 9, 0, 0, i, 0, 0, 0, false, data⟩ : Pkt)]), PkR (.slice a5 (rs ++ [(⟨1 + (i : Int) % 9, 0, 0, i, 0, 0, 0, false, data⟩ : Pkt)]).length c5) (.slice a2 data.length c2) (rs ++ [(⟨1 + (i : Int) % 9, 0, 0, i, 0, 0, 0, false, data⟩ : Pkt)]), Old w]) (fun j => data.length - j) (0) ?_ ?_
            · exact ⟨data, HH125.sub rfl, Nat.zero_le _, rfl, SS119.p4.p2.p2.p4.t4⟩
            clear HH125
            clear SS119
            rintro j aa126 ww126 ⟨ys, HH126, hj, hys, SS126⟩
            refine wp_seq_k fun KK127 hKK127 => ?_
            refine wp_region_lit ?_
            by_cases hjl : (j : Int) < (data.length : Int)
            ·
              refine LG_val (want0 rfl) rfl rfl HH126 (Y_yes (Y_lss HH126 rfl rfl rfl) (hjl)) (fun aa128 HH128 => ?_)
              clear HH126
              refine L_end (t_norm (hKK127 _ _ ?_))
              refine wp_seq_k fun KK129 hKK129 => ?_
              refine c_yes HH128 rfl ?_
              refine wp_skip (t_norm (hKK129 _ _ ?_))
              refine wp_seq_k fun KK130 hKK130 => ?_
              refine wp_block ?_
              refine wp_seq_k fun KK131 hKK131 => ?_
              refine wp_region_lit ?_
              refine LG_val (want0 rfl) rfl rfl HH128 (Y_mov HH128 rfl rfl) (fun aa132 HH132 => ?_)
              clear HH128
              refine LG_val (want0 rfl) rfl rfl HH132 (Y_asg HH132 rfl rfl) (fun aa133 HH133 => ?_)
              clear HH132
              refine L_end (t_norm (hKK131 _ _ ?_))
              obtain ⟨b5, o5, e5⟩ := Ints.some SS126 hys (by omega)
              have cj := Ints.atE e5 hys SS126 j (by omega)
              refine wp_region_lit ?_
              refine LG_val (want0 rfl) rfl rfl HH133 (Y_mov HH133 rfl rfl) (fun aa134 HH134 => ?_)
              clear HH133
              refine LG_val (want0 rfl) rfl rfl HH134 (Y_mov HH134 rfl rfl) (fun aa135 HH135 => ?_)
              clear HH134
              refine LG_val (want0 rfl) rfl rfl HH135 (Y_idxE (q := o5 + j) HH135 rfl ty_ints rfl e5 rfl (by omega) (by omega) (by simp)) (fun aa136 HH136 => ?_)
              clear HH135
              refine LG_val (want0 rfl) rfl rfl HH136 (Y_load HH136 rfl (by kernel_rfl) rfl cj) (fun aa137 HH137 => ?_)
              clear HH136
              refine LG_val (want0 rfl) rfl rfl HH137 (Y_xor HH137 rfl rfl rfl (rfl)) (fun aa138 HH138 => ?_)
              clear HH137
              refine LG_val (want0 rfl) rfl rfl HH138 (Y_idxE (q := o5 + j) HH138 rfl ty_ints rfl e5 rfl (by omega) (by omega) (by simp)) (fun aa139 HH139 => ?_)
              clear HH138
              refine LG_do0 (want0 rfl) rfl HH139 (M_storeI HH139 rfl j rfl rfl e5 SS126 hys (by omega)) ?_
              rintro _ ww140 SS140 aa140 HH140
              clear HH139
              clear SS126
              refine L_end (b_norm (t_norm (hKK130 _ _ ?_)))
              refine wp_region_lit ?_
              refine LG_val (want0 rfl) rfl rfl HH140 (Y_add HH140 rfl rfl rfl (IntWalk.i64_in _ (by omega))) (fun aa141 HH141 => ?_)
              clear HH140
              refine LG_val (want0 rfl) rfl rfl HH141 (Y_mov HH141 rfl rfl) (fun aa142 HH142 => ?_)
              clear HH141
              refine L_end (t_norm ?_)
              exact ⟨j + 1, ⟨_, HH142.sub rfl, by omega, (by rw [List.length_set]; exact hys), SS140.p3.p3.p3.p3.t4⟩, by first | omega | (dsimp only; omega)⟩
            ·
              refine LG_val (want0 rfl) rfl rfl HH126 (Y_no (Y_lss HH126 rfl rfl rfl) (hjl)) (fun aa143 HH143 => ?_)
              clear HH126
              refine L_end (t_norm (hKK127 _ _ ?_))
              refine wp_seq_k fun KK144 hKK144 => ?_
              refine c_no HH143 rfl ?_
              refine wp_exit (t_exit (t_exit (b_exit (b_norm (t_norm ?_)))))
              exact ⟨(rs ++ [(⟨1 + (i : Int) % 9, 0, 0, i, 0, 0, 0, false, data⟩ : Pkt)]), a5, c5, HH143.sub rfl, by simp; omega, (by intro p hp; rcases List.mem_append.1 hp with h | h; exact hdata p h; simp at h; subst h; rfl), SS126.p3.p2.p3.t3⟩
        ·
          refine LG_val (want0 rfl) rfl rfl HH46 (Y_no (Y_eql HH46 rfl rfl rfl) (h0)) (fun aa145 HH145 => ?_)
          clear HH46
          refine LG_val (want0 rfl) rfl rfl HH145 (Y_asg HH145 rfl rfl) (fun aa146 HH146 => ?_)
          clear HH145
          refine L_end (t_norm (hKK48 _ _ ?_))
          refine c_no HH146 rfl ?_
          refine wp_region_lit ?_
          by_cases h1 : k = 1
          ·
            refine LG_val (want0 rfl) rfl rfl HH146 (Y_yes (Y_eql HH146 rfl rfl rfl) (h1)) (fun aa147 HH147 => ?_)
            clear HH146
            refine LG_val (want0 rfl) rfl rfl HH147 (Y_asg HH147 rfl rfl) (fun aa148 HH148 => ?_)
            clear HH147
            refine L_end (t_norm (hKK47 _ _ ?_))
            refine c_yes HH148 rfl ?_
            refine wp_seq_k fun KK149 hKK149 => ?_
            refine wp_region_lit ?_
            refine LG_val (want0 rfl) rfl rfl HH148 (Y_mov HH148 rfl rfl) (fun aa150 HH150 => ?_)
            clear HH148
            refine LG_call (want0 rfl) rfl rfl rfl Try.func19 (by kernel_rfl) rfl HH150 (copy_ok (RdI.old hrd SS29.p2) (by omega) SS29) rfl ?_
            rintro e ww151 ⟨x0, rfl, SS151, _⟩
            obtain ⟨a4, c4, rfl, _, _⟩ := Ints.val SS151
            refine ⟨_, rfl, fun aa151 HH151 => ?_⟩
            clear HH150
            clear SS29
            refine LG_val (want0 rfl) rfl rfl HH151 (Y_asg HH151 rfl rfl) (fun aa152 HH152 => ?_)
            clear HH151
            refine L_end (t_norm (hKK149 _ _ ?_))
            refine wp_seq_k fun KK153 hKK153 => ?_
            refine wp_region_lit ?_
            refine LG_val (want0 rfl) rfl rfl HH152 (Y_mov HH152 rfl rfl) (fun aa154 HH154 => ?_)
            clear HH152
            refine LG_val (want0 rfl) rfl rfl HH154 (Y_rem (r := (i : Int) % 9) HH154 rfl rfl rfl (by omega) (Int.tmod_eq_emod_of_nonneg (by omega))) (fun aa155 HH155 => ?_)
            clear HH154
            refine LG_val (want0 rfl) rfl rfl HH155 (Y_add HH155 rfl rfl rfl (IntWalk.i64_in _ (by omega))) (fun aa156 HH156 => ?_)
            clear HH155
            refine LG_val (want0 rfl) rfl rfl HH156 (Y_mov HH156 rfl rfl) (fun aa157 HH157 => ?_)
            clear HH156
            refine LG_val (want0 rfl) rfl rfl HH157 (Y_mov HH157 rfl rfl) (fun aa158 HH158 => ?_)
            clear HH157
            refine LG_val (want0 rfl) rfl rfl HH158 (Y_build (cs := Pkt.cells ⟨1 + (i : Int) % 9, 0, 0, i, 0, 0, 0, false, data⟩ (.slice a4 data.length c4)) HH158 rfl st_api_Packet rfl rfl) (fun aa159 HH159 => ?_)
            clear HH158
            refine LG_do (want0 rfl) rfl rfl HH159 (M_alloc HH159 rfl st_api_Packet.zero SS151) ?_
            rintro _ ww160 ⟨b11, rfl, SS160, _⟩ aa160 HH160
            clear HH159
            clear SS151
            refine LG_do0 (want0 rfl) rfl HH160 (M_storeS HH160 rfl rfl rfl SS160 st_api_Packet.size rfl rfl (by simp [Value.oneCell'])) ?_
            rintro _ ww161 ⟨SS161, _⟩ aa161 HH161
            clear HH160
            clear SS160
            refine L_end (t_norm (hKK153 _ _ ?_))
            refine wp_seq_k fun KK162 hKK162 => ?_
            refine wp_region_lit ?_
            refine LG_val (want0 rfl) rfl rfl HH161 (Y_asg HH161 rfl rfl) (fun aa163 HH163 => ?_)
            clear HH161
            refine L_end (t_norm (hKK162 _ _ ?_))
            refine wp_seq_k fun KK164 hKK164 => ?_
            refine wp_seq_k fun KK165 hKK165 => ?_
            refine wp_region_lit ?_
            refine LG_val (want0 rfl) rfl rfl HH163 (Y_mov HH163 rfl rfl) (fun aa166 HH166 => ?_)
            clear HH163
            refine LG_val (want0 rfl) rfl rfl HH166 (Y_lenS HH166 rfl (by kernel_rfl) rfl) (fun aa167 HH167 => ?_)
            clear HH166
            refine LG_val (want0 rfl) rfl rfl HH167 (Y_mov HH167 rfl rfl) (fun aa168 HH168 => ?_)
            clear HH167
            refine LG_val (want0 rfl) rfl rfl HH168 (Y_max HH168 rfl rfl rfl (rfl)) (fun aa169 HH169 => ?_)
            clear HH168
            by_cases hfull : max r 0 ≤ (rs.length : Int)
            ·
              refine LG_val (want0 rfl) rfl rfl HH169 (Y_yes (Y_geq HH169 rfl rfl rfl) (hfull)) (fun aa170 HH170 => ?_)
              clear HH169
              refine L_end (t_norm (hKK165 _ _ ?_))
              refine c_yes HH170 rfl ?_
              refine wp_region_lit ?_
              refine LG_val (want0 rfl) rfl rfl HH170 (Y_asg HH170 rfl rfl) (fun aa171 HH171 => ?_)
              clear HH170
              refine L_end (t_norm (hKK164 _ _ ?_))
              refine wp_seq_k fun KK172 hKK172 => ?_
              refine wp_seq_k fun KK173 hKK173 => ?_
              refine wp_region_lit ?_
              refine LG_val (want0 rfl) rfl rfl HH171 (Y_mov HH171 rfl rfl) (fun aa174 HH174 => ?_)
              clear HH171
              refine LG_val (want0 rfl) rfl rfl HH174 (Y_loadS HH174 rfl rfl SS161 st_api_Packet.und st_api_Packet.size) (fun aa175 HH175 => ?_)
              clear HH174
              have hok := (QRep.open.1 SS161.p3).1.2.1
              refine LG_call (want0 rfl) rfl rfl rfl Try.func20 (by kernel_rfl) rfl HH175 (qput_full SS161.p3 ⟨1 + (i : Int) % 9, 0, 0, i, 0, 0, 0, false, data⟩ _ (by omega)) rfl ?_
              rintro e ww176 ⟨rfl, SS176, _⟩
              refine ⟨_, rfl, fun aa176 HH176 => ?_⟩
              clear HH175
              clear SS161
              refine LG_val (want0 rfl) rfl rfl HH176 (Y_mov HH176 rfl rfl) (fun aa177 HH177 => ?_)
              clear HH176
              refine LG_val (want0 rfl) rfl rfl HH177 (Y_no (Y_neq HH177 rfl rfl rfl) (by simp)) (fun aa178 HH178 => ?_)
              clear HH177
              refine L_end (t_norm (hKK173 _ _ ?_))
              refine c_no HH178 rfl ?_
              refine wp_skip (t_norm (hKK172 _ _ ?_))
              refine wp_seq_k fun KK179 hKK179 => ?_
              refine wp_region_lit ?_
              refine LG_val (want0 rfl) rfl rfl HH178 (Y_mov HH178 rfl rfl) (fun aa180 HH180 => ?_)
              clear HH178
              refine LG_val (want0 rfl) rfl rfl HH180 (Y_lenS HH180 rfl (by kernel_rfl) rfl) (fun aa181 HH181 => ?_)
              clear HH180
              refine LG_val (want0 rfl) rfl rfl HH181 (Y_mov HH181 rfl rfl) (fun aa182 HH182 => ?_)
              clear HH181
              refine L_end (t_norm (hKK179 _ _ ?_))
              refine wp_block ?_
              refine c_loop (σ := Nat) (fun (j : Nat) a wx => ∃ ys : List Int, Fr a 166 [(0, VI r), (1, .slice a1 acts.length c1), (2, .slice a2 data.length c2), (6, VB false), (7, VP q 0), (8, .slice ar rs.length cr), (9, VI i), (10, .slice a4 data.length c4), (109, VI data.length), (110, VI j)] ∧ j ≤ data.length ∧ ys.length = data.length ∧ Sat wx [Ints (.slice a4 data.length c4) ys, QRep q R rs, PkR (.slice ar rs.length cr) (.slice a2 data.length c2) rs, Old w]) (fun j => data.length - j) (0) ?_ ?_
              · exact ⟨data, HH182.sub rfl, Nat.zero_le _, rfl, SS176.p4.p4.p2.p4.t4⟩
              clear HH182
              clear SS176
              rintro j aa183 ww183 ⟨ys, HH183, hj, hys, SS183⟩
              refine wp_seq_k fun KK184 hKK184 => ?_
              refine wp_region_lit ?_
              by_cases hjl : (j : Int) < (data.length : Int)
              ·
                refine LG_val (want0 rfl) rfl rfl HH183 (Y_yes (Y_lss HH183 rfl rfl rfl) (hjl)) (fun aa185 HH185 => ?_)
                clear HH183
                refine L_end (t_norm (hKK184 _ _ ?_))
                refine wp_seq_k fun KK186 hKK186 => ?_
                refine c_yes HH185 rfl ?_
                refine wp_skip (t_norm (hKK186 _ _ ?_))
                refine wp_seq_k fun KK187 hKK187 => ?_
                refine wp_block ?_
                refine wp_seq_k fun KK188 hKK188 => ?_
                refine wp_region_lit ?_
                refine LG_val (want0 rfl) rfl rfl HH185 (Y_mov HH185 rfl rfl) (fun aa189 HH189 => ?_)
                clear HH185
                refine LG_val (want0 rfl) rfl rfl HH189 (Y_asg HH189 rfl rfl) (fun aa190 HH190 => ?_)
                clear HH189
                refine L_end (t_norm (hKK188 _ _ ?_))
                obtain ⟨b5, o5, e5⟩ := Ints.some SS183 hys (by omega)
                have cj := Ints.atE e5 hys SS183 j (by omega)
                refine wp_region_lit ?_
                refine LG_val (want0 rfl) rfl rfl HH190 (Y_mov HH190 rfl rfl) (fun aa191 HH191 => ?_)
                clear HH190
                refine LG_val (want0 rfl) rfl rfl HH191 (Y_mov HH191 rfl rfl) (fun aa192 HH192 => ?_)
                clear HH191
                refine LG_val (want0 rfl) rfl rfl HH192 (Y_idxE (q := o5 + j) HH192 rfl ty_ints rfl e5 rfl (by omega) (by omega) (by simp)) (fun aa193 HH193 => ?_)
                clear HH192
                refine LG_val (want0 rfl) rfl rfl HH193 (Y_load HH193 rfl (by kernel_rfl) rfl cj) (fun aa194 HH194 => ?_)
                clear HH193
                refine LG_val (want0 rfl) rfl rfl HH194 (Y_xor HH194 rfl rfl rfl (rfl)) (fun aa195 HH195 => ?_)
                clear HH194
                refine LG_val (want0 rfl) rfl rfl HH195 (Y_idxE (q := o5 + j) HH195 rfl ty_ints rfl e5 rfl (by omega) (by omega) (by simp)) (fun aa196 HH196 => ?_)
                clear HH195
                refine LG_do0 (want0 rfl) rfl HH196 (M_storeI HH196 rfl j rfl rfl e5 SS183 hys (by omega)) ?_
                rintro _ ww197 SS197 aa197 HH197
                clear HH196
                clear SS183
                refine L_end (b_norm (t_norm (hKK187 _ _ ?_)))
                refine wp_region_lit ?_
                refine LG_val (want0 rfl) rfl rfl HH197 (Y_add HH197 rfl rfl rfl (IntWalk.i64_in _ (by omega))) (fun aa198 HH198 => ?_)
                clear HH197
                refine LG_val (want0 rfl) rfl rfl HH198 (Y_mov HH198 rfl rfl) (fun aa199 HH199 => ?_)
                clear HH198
                refine L_end (t_norm ?_)
                exact ⟨j + 1, ⟨_, HH199.sub rfl, by omega, (by rw [List.length_set]; exact hys), SS197.p3.p3.p3.p3.t4⟩, by first | omega | (dsimp only; omega)⟩
              ·
                refine LG_val (want0 rfl) rfl rfl HH183 (Y_no (Y_lss HH183 rfl rfl rfl) (hjl)) (fun aa200 HH200 => ?_)
                clear HH183
                refine L_end (t_norm (hKK184 _ _ ?_))
                refine wp_seq_k fun KK201 hKK201 => ?_
                refine c_no HH200 rfl ?_
                refine wp_exit (t_exit (t_exit (b_exit (b_norm (t_norm ?_)))))
                exact ⟨rs, ar, cr, HH200.sub rfl, by omega, hdata, SS183.p3.p2.p3.t3⟩
            ·
              refine LG_val (want0 rfl) rfl rfl HH169 (Y_no (Y_geq HH169 rfl rfl rfl) (hfull)) (fun aa202 HH202 => ?_)
              clear HH169
              refine L_end (t_norm (hKK165 _ _ ?_))
              refine c_no HH202 rfl ?_
              refine wp_region_lit ?_
              refine LG_val (want0 rfl) rfl rfl HH202 (Y_mov HH202 rfl rfl) (fun aa203 HH203 => ?_)
              clear HH202
              refine LG_val (want0 rfl) rfl rfl HH203 (Y_mov HH203 rfl rfl) (fun aa204 HH204 => ?_)
              clear HH203
              refine LG_val (want0 rfl) rfl rfl HH204 (Y_rem (r := (i : Int) % 9) HH204 rfl rfl rfl (by omega) (Int.tmod_eq_emod_of_nonneg (by omega))) (fun aa205 HH205 => ?_)
              clear HH204
              refine LG_val (want0 rfl) rfl rfl HH205 (Y_add HH205 rfl rfl rfl (IntWalk.i64_in _ (by omega))) (fun aa206 HH206 => ?_)
              clear HH205
              refine LG_val (want0 rfl) rfl rfl HH206 (Y_mov HH206 rfl rfl) (fun aa207 HH207 => ?_)
              clear HH206
              refine LG_val (want0 rfl) rfl rfl HH207 (Y_mov HH207 rfl rfl) (fun aa208 HH208 => ?_)
              clear HH207
              refine LG_val (want0 rfl) rfl rfl HH208 (Y_build (cs := Pkt.cells ⟨1 + (i : Int) % 9, 0, 0, i, 0, 0, 0, false, data⟩ (.slice a2 data.length c2)) HH208 rfl st_api_Packet rfl rfl) (fun aa209 HH209 => ?_)
              clear HH208
              refine LG_do (want0 rfl) rfl rfl HH209 (M_buildSlice (cs := Pkt.cells ⟨1 + (i : Int) % 9, 0, 0, i, 0, 0, 0, false, data⟩ (.slice a2 data.length c2)) HH209 rfl ty_pkts rfl rfl rfl (by simp [Value.cells]) rfl SS161) ?_
              rintro _ ww210 ⟨b101, rfl, SS210, _⟩ aa210 HH210
              clear HH209
              clear SS161
              refine LG_do (want0 rfl) rfl rfl HH210 (M_appR (p := ⟨1 + (i : Int) % 9, 0, 0, i, 0, 0, 0, false, data⟩) (d := .slice a2 data.length c2) HH210 rfl rfl rfl SS210.p3.p1 (one_pkt _ _ _ _) (by omega)) ?_
              rintro _ ww211 ⟨a5, c5, rfl, SS211⟩ aa211 HH211
              clear HH210
              clear SS210
              refine LG_val (want0 rfl) rfl rfl HH211 (Y_asg HH211 rfl rfl) (fun aa212 HH212 => ?_)
              clear HH211
              refine L_end (t_norm (hKK164 _ _ ?_))
              refine wp_seq_k fun KK213 hKK213 => ?_
              refine wp_seq_k fun KK214 hKK214 => ?_
              refine wp_region_lit ?_
              refine LG_val (want0 rfl) rfl rfl HH212 (Y_mov HH212 rfl rfl) (fun aa215 HH215 => ?_)
              clear HH212
              refine LG_val (want0 rfl) rfl rfl HH215 (Y_loadS HH215 rfl rfl SS211.p1 st_api_Packet.und st_api_Packet.size) (fun aa216 HH216 => ?_)
              clear HH215
              refine LG_call (want0 rfl) rfl rfl rfl Try.func20 (by kernel_rfl) rfl HH216 (qput_room SS211.p3 ⟨1 + (i : Int) % 9, 0, 0, i, 0, 0, 0, false, data⟩ _ (Ints.rd SS211.p2) hb (by omega)) rfl ?_
              rintro e ww217 ⟨rfl, SS217, _⟩
              refine ⟨_, rfl, fun aa217 HH217 => ?_⟩
              clear HH216
              clear SS211
              refine LG_val (want0 rfl) rfl rfl HH217 (Y_mov HH217 rfl rfl) (fun aa218 HH218 => ?_)
              clear HH217
              refine LG_val (want0 rfl) rfl rfl HH218 (Y_no (Y_neq HH218 rfl rfl rfl) (by simp)) (fun aa219 HH219 => ?_)
              clear HH218
              refine L_end (t_norm (hKK214 _ _ ?_))
              refine c_no HH219 rfl ?_
              refine wp_skip (t_norm (hKK213 _ _ ?_))
              refine wp_seq_k fun KK220 hKK220 => ?_
              refine wp_region_lit ?_
              refine LG_val (want0 rfl) rfl rfl HH219 (Y_mov HH219 rfl rfl) (fun aa221 HH221 => ?_)
              clear HH219
              refine LG_val (want0 rfl) rfl rfl HH221 (Y_lenS HH221 rfl (by kernel_rfl) rfl) (fun aa222 HH222 => ?_)
              clear HH221
              refine LG_val (want0 rfl) rfl rfl HH222 (Y_mov HH222 rfl rfl) (fun aa223 HH223 => ?_)
              clear HH222
              refine L_end (t_norm (hKK220 _ _ ?_))
              refine wp_block ?_
              refine c_loop (σ := Nat) (fun (j : Nat) a wx => ∃ ys : List Int, Fr a 166 [(0, VI r), (1, .slice a1 acts.length c1), (2, .slice a2 data.length c2), (6, VB false), (7, VP q 0), (8, .slice a5 (rs ++ [(⟨1 + (i : Int) % 9, 0, 0, i, 0, 0, 0, false, data⟩ : Pkt)]).length c5), (9, VI i), (10, .slice a4 data.length c4), (109, VI data.length), (110, VI j)] ∧ j ≤ data.length ∧ ys.length = data.length ∧ Sat wx [Ints (.slice a4 data.length c4) ys, QRep q R (rs ++ [(⟨1 + (i : Int) % 9, 0, 0, i, 0, 0, 0, false, data⟩ : Pkt)]), PkR (.slice a5 (rs ++ [(⟨1 + (i : Int) % 9, 0, 0, i, 0, 0, 0, false, data⟩ : Pkt)]).length c5) (.slice a2 data.length c2) (rs ++ [(⟨1 + (i : Int) % 9, 0, 0, i, 0, 0, 0, false, data⟩ : Pkt)]), Old w]) (fun j => data.length - j) (0) ?_ ?_
              · exact ⟨data, HH223.sub rfl, Nat.zero_le _, rfl, SS217.p4.p2.p2.p4.t4⟩
              clear HH223
              clear SS217
              rintro j aa224 ww224 ⟨ys, HH224, hj, hys, SS224⟩
              refine wp_seq_k fun KK225 hKK225 => ?_
              refine wp_region_lit ?_
              by_cases hjl : (j : Int) < (data.length : Int)
              ·
                refine LG_val (want0 rfl) rfl rfl HH224 (Y_yes (Y_lss HH224 rfl rfl rfl) (hjl)) (fun aa226 HH226 => ?_)
                clear HH224
                refine L_end (t_norm (hKK225 _ _ ?_))
                refine wp_seq_k fun KK227 hKK227 => ?_
                refine c_yes HH226 rfl ?_
                refine wp_skip (t_norm (hKK227 _ _ ?_))
                refine wp_seq_k fun KK228 hKK228 => ?_
                refine wp_block ?_
                refine wp_seq_k fun KK229 hKK229 => ?_
                refine wp_region_lit ?_
                refine LG_val (want0 rfl) rfl rfl HH226 (Y_mov HH226 rfl rfl) (fun aa230 HH230 => ?_)
                clear HH226
                refine LG_val (want0 rfl) rfl rfl HH230 (Y_asg HH230 rfl rfl) (fun aa231 HH231 => ?_)
                clear HH230
                refine L_end (t_norm (hKK229 _ _ ?_))
                obtain ⟨b5, o5, e5⟩ := Ints.some SS224 hys (by omega)
                have cj := Ints.atE e5 hys SS224 j (by omega)
                refine wp_region_lit ?_
                refine LG_val (want0 rfl) rfl rfl HH231 (Y_mov HH231 rfl rfl) (fun aa232 HH232 => ?_)
                clear HH231
                refine LG_val (want0 rfl) rfl rfl HH232 (Y_mov HH232 rfl rfl) (fun aa233 HH233 => ?_)
                clear HH232
                refine LG_val (want0 rfl) rfl rfl HH233 (Y_idxE (q := o5 + j) HH233 rfl ty_ints rfl e5 rfl (by omega) (by omega) (by simp)) (fun aa234 HH234 => ?_)
                clear HH233
                refine LG_val (want0 rfl) rfl rfl HH234 (Y_load HH234 rfl (by kernel_rfl) rfl cj) (fun aa235 HH235 => ?_)
                clear HH234
                refine LG_val (want0 rfl) rfl rfl HH235 (Y_xor HH235 rfl rfl rfl (rfl)) (fun aa236 HH236 => ?_)
                clear HH235
                refine LG_val (want0 rfl) rfl rfl HH236 (Y_idxE (q := o5 + j) HH236 rfl ty_ints rfl e5 rfl (by omega) (by omega) (by simp)) (fun aa237 HH237 => ?_)
                clear HH236
                refine LG_do0 (want0 rfl) rfl HH237 (M_storeI HH237 rfl j rfl rfl e5 SS224 hys (by omega)) ?_
                rintro _ ww238 SS238 aa238 HH238
                clear HH237
                clear SS224
                refine L_end (b_norm (t_norm (hKK228 _ _ ?_)))
                refine wp_region_lit ?_
                refine LG_val (want0 rfl) rfl rfl HH238 (Y_add HH238 rfl rfl rfl (IntWalk.i64_in _ (by omega))) (fun aa239 HH239 => ?_)
                clear HH238
                refine LG_val (want0 rfl) rfl rfl HH239 (Y_mov HH239 rfl rfl) (fun aa240 HH240 => ?_)
                clear HH239
                refine L_end (t_norm ?_)
                exact ⟨j + 1, ⟨_, HH240.sub rfl, by omega, (by rw [List.length_set]; exact hys), SS238.p3.p3.p3.p3.t4⟩, by first | omega | (dsimp only; omega)⟩
              ·
                refine LG_val (want0 rfl) rfl rfl HH224 (Y_no (Y_lss HH224 rfl rfl rfl) (hjl)) (fun aa241 HH241 => ?_)
                clear HH224
                refine L_end (t_norm (hKK225 _ _ ?_))
                refine wp_seq_k fun KK242 hKK242 => ?_
                refine c_no HH241 rfl ?_
                refine wp_exit (t_exit (t_exit (b_exit (b_norm (t_norm ?_)))))
                exact ⟨(rs ++ [(⟨1 + (i : Int) % 9, 0, 0, i, 0, 0, 0, false, data⟩ : Pkt)]), a5, c5, HH241.sub rfl, by simp; omega, (by intro p hp; rcases List.mem_append.1 hp with h | h; exact hdata p h; simp at h; subst h; rfl), SS224.p3.p2.p3.t3⟩
          ·
            refine LG_val (want0 rfl) rfl rfl HH146 (Y_no (Y_eql HH146 rfl rfl rfl) (h1)) (fun aa243 HH243 => ?_)
            clear HH146
            refine LG_val (want0 rfl) rfl rfl HH243 (Y_asg HH243 rfl rfl) (fun aa244 HH244 => ?_)
            clear HH243
            refine L_end (t_norm (hKK47 _ _ ?_))
            refine c_no HH244 rfl ?_
            refine wp_seq_k fun KK245 hKK245 => ?_
            refine wp_region_lit ?_
            by_cases hpk : k = 2
            ·
              refine LG_val (want0 rfl) rfl rfl HH244 (Y_yes (Y_eql HH244 rfl rfl rfl) (hpk)) (fun aa246 HH246 => ?_)
              clear HH244
              refine LG_val (want0 rfl) rfl rfl HH246 (Y_asg HH246 rfl rfl) (fun aa247 HH247 => ?_)
              clear HH246
              refine L_end (t_norm (hKK245 _ _ ?_))
              refine c_yes HH247 rfl ?_
              refine wp_seq_k fun KK248 hKK248 => ?_
              rcases rs with _ | ⟨p, ps⟩
              ·
                refine wp_region_lit ?_
                refine LG_val (want0 rfl) rfl rfl HH247 (Y_mov HH247 rfl rfl) (fun aa249 HH249 => ?_)
                clear HH247
                refine LG_call (want0 rfl) rfl rfl rfl Try.func21 (by kernel_rfl) rfl HH249 (qpeek_none SS29.p1) rfl ?_
                rintro e ww250 ⟨rfl, SS250, _⟩
                refine ⟨_, rfl, fun aa250 HH250 => ?_⟩
                clear HH249
                clear SS29
                refine LG_val (want0 rfl) rfl rfl HH250 (Y_mov HH250 rfl rfl) (fun aa251 HH251 => ?_)
                clear HH250
                refine LG_val (want0 rfl) rfl rfl HH251 (Y_ext HH251 rfl rfl rfl) (fun aa252 HH252 => ?_)
                clear HH251
                refine LG_val (want0 rfl) rfl rfl HH252 (Y_ext HH252 rfl rfl rfl) (fun aa253 HH253 => ?_)
                clear HH252
                refine LG_do (want0 rfl) rfl rfl HH253 (M_alloc HH253 rfl st_api_Packet.zero SS250) ?_
                rintro _ ww254 ⟨b14, rfl, SS254, _⟩ aa254 HH254
                clear HH253
                clear SS250
                refine LG_do0 (want0 rfl) rfl HH254 (M_storeS HH254 rfl rfl rfl SS254 st_api_Packet.size rfl rfl (by simp [Value.oneCell'])) ?_
                rintro _ ww255 ⟨SS255, _⟩ aa255 HH255
                clear HH254
                clear SS254
                refine LG_val (want0 rfl) rfl rfl HH255 (Y_asg HH255 rfl rfl) (fun aa256 HH256 => ?_)
                clear HH255
                refine L_end (t_norm (hKK248 _ _ ?_))
                refine wp_seq_k fun KK257 hKK257 => ?_
                -- region 34, drawn
                refine N_begin (fun w' => Sat w' _) [(0, false), (1, false), (2, false), (3, false), (4, false), (5, false), (6, false), (7, false), (8, false), (9, false), (10, false), (11, false), (12, false), (13, false), (14, false), (15, false)] (by kernel_rfl) (by kernel_rfl) (by decide) (by kernel_rfl) (fun _ _ _ _ _ h => h) (SS255.drew) (fun ww258 SS258 _ => ?_)
                clear SS255
                refine N_val rfl (want0 rfl) rfl rfl HH256 (fun ww258 SS258 => Y_mov HH256 rfl rfl) (fun aa259 HH259 => ?_)
                clear HH256
                refine N_val rfl (want0 rfl) rfl rfl HH259 (fun ww258 SS258 => Y_mov HH259 rfl rfl) (fun aa260 HH260 => ?_)
                clear HH259
                refine N_val rfl (want0 rfl) rfl rfl HH260 (fun ww258 SS258 => Y_lenS HH260 rfl (by kernel_rfl) rfl) (fun aa261 HH261 => ?_)
                clear HH260
                refine N_val rfl (want0 rfl) rfl rfl HH261 (fun ww258 SS258 => Y_no (Y_gtr HH261 rfl rfl rfl) (by simp)) (fun aa262 HH262 => ?_)
                clear HH261
                refine N_val rfl (want0 rfl) rfl rfl HH262 (fun ww258 SS258 => Y_to (Y_neqB HH262 rfl (by kernel_rfl) rfl rfl) (rfl)) (fun aa263 HH263 => ?_)
                clear HH262
                refine N_val rfl (want0 rfl) rfl rfl HH263 (fun ww258 SS258 => Y_mov HH263 rfl rfl) (fun aa264 HH264 => ?_)
                clear HH263
                refine N_val rfl (HH264.want rfl rfl rfl) rfl rfl HH264 (fun ww258 SS258 => Y_mov HH264 rfl rfl) (fun aa265 HH265 => ?_)
                clear HH264
                refine N_val rfl (HH265.want rfl rfl rfl) rfl rfl HH265 (fun ww258 SS258 => Y_mov HH265 rfl rfl) (fun aa266 HH266 => ?_)
                clear HH265
                refine N_skip rfl (HH266.unwant rfl rfl rfl rfl) rfl rfl HH266 SS258 (fun aa267 HH267 => ?_)
                clear HH266
                refine N_skip rfl (HH267.unwant rfl rfl rfl rfl) rfl rfl HH267 SS258 (fun aa268 HH268 => ?_)
                clear HH267
                refine N_skip rfl (HH268.unwant rfl rfl rfl rfl) rfl rfl HH268 SS258 (fun aa269 HH269 => ?_)
                clear HH268
                refine N_skip rfl (HH269.unwant rfl rfl rfl rfl) rfl rfl HH269 SS258 (fun aa270 HH270 => ?_)
                clear HH269
                refine N_skip rfl (HH270.unwant rfl rfl rfl rfl) rfl rfl HH270 SS258 (fun aa271 HH271 => ?_)
                clear HH270
                refine N_skip rfl (HH271.unwant rfl rfl rfl rfl) rfl rfl HH271 SS258 (fun aa272 HH272 => ?_)
                clear HH271
                refine N_val rfl (HH272.want rfl rfl rfl) rfl rfl HH272 (fun ww258 SS258 => Y_pickF HH272 rfl rfl rfl) (fun aa273 HH273 => ?_)
                clear HH272
                refine N_val rfl (want0 rfl) rfl rfl HH273 (fun ww258 SS258 => Y_pickF HH273 rfl rfl rfl) (fun aa274 HH274 => ?_)
                clear HH273
                refine N_end (t_norm (hKK257 _ _ ?_))
                refine c_no HH274 rfl ?_
                refine wp_skip (b_norm (t_norm ?_))
                exact ⟨[], ar, cr, HH274.sub rfl, by simp, (by simp), SS258.p3.p2.p3.t3⟩
              ·
                obtain ⟨bk, ok, hbk⟩ := PkR.some SS29 rfl (by simp)
                have hpd := hdata p List.mem_cons_self
                have hbp : p.data.length * 8 ≤ 140737488355328 := by rw [hpd]; omega
                refine wp_region_lit ?_
                refine LG_val (want0 rfl) rfl rfl HH247 (Y_mov HH247 rfl rfl) (fun aa275 HH275 => ?_)
                clear HH247
                refine LG_call (want0 rfl) rfl rfl rfl Try.func21 (by kernel_rfl) rfl HH275 (qpeek_some SS29.p1) rfl ?_
                rintro e ww276 ⟨u0, rfl, SS276, _⟩
                obtain ⟨a4, c4, rfl, _, _⟩ := Ints.val SS276
                refine ⟨_, rfl, fun aa276 HH276 => ?_⟩
                clear HH275
                clear SS29
                refine LG_val (want0 rfl) rfl rfl HH276 (Y_mov HH276 rfl rfl) (fun aa277 HH277 => ?_)
                clear HH276
                refine LG_val (want0 rfl) rfl rfl HH277 (Y_ext HH277 rfl rfl rfl) (fun aa278 HH278 => ?_)
                clear HH277
                refine LG_val (want0 rfl) rfl rfl HH278 (Y_ext HH278 rfl rfl rfl) (fun aa279 HH279 => ?_)
                clear HH278
                refine LG_do (want0 rfl) rfl rfl HH279 (M_alloc HH279 rfl st_api_Packet.zero SS276) ?_
                rintro _ ww280 ⟨b14, rfl, SS280, _⟩ aa280 HH280
                clear HH279
                clear SS276
                refine LG_do0 (want0 rfl) rfl HH280 (M_storeS HH280 rfl rfl rfl SS280 st_api_Packet.size rfl rfl (by simp [Value.oneCell'])) ?_
                rintro _ ww281 ⟨SS281, _⟩ aa281 HH281
                clear HH280
                clear SS280
                refine LG_val (want0 rfl) rfl rfl HH281 (Y_asg HH281 rfl rfl) (fun aa282 HH282 => ?_)
                clear HH281
                refine L_end (t_norm (hKK248 _ _ ?_))
                refine wp_seq_k fun KK283 hKK283 => ?_
                -- region 34, drawn
                refine N_begin (fun w' => Sat w' _) [(0, false), (1, false), (2, false), (3, false), (4, false), (5, false), (6, false), (7, false), (8, false), (9, false), (10, false), (11, false), (12, true), (13, false), (14, false), (15, false)] (by kernel_rfl) (by kernel_rfl) (by decide) (by kernel_rfl) (fun _ _ _ _ _ h => h) (SS281.drew) (fun ww284 SS284 _ => ?_)
                clear SS281
                refine N_val rfl (want0 rfl) rfl rfl HH282 (fun ww284 SS284 => Y_mov HH282 rfl rfl) (fun aa285 HH285 => ?_)
                clear HH282
                refine N_val rfl (want0 rfl) rfl rfl HH285 (fun ww284 SS284 => Y_mov HH285 rfl rfl) (fun aa286 HH286 => ?_)
                clear HH285
                refine N_val rfl (want0 rfl) rfl rfl HH286 (fun ww284 SS284 => Y_lenS HH286 rfl (by kernel_rfl) rfl) (fun aa287 HH287 => ?_)
                clear HH286
                refine N_val rfl (want0 rfl) rfl rfl HH287 (fun ww284 SS284 => Y_yes (Y_gtr HH287 rfl rfl rfl) (by simp)) (fun aa288 HH288 => ?_)
                clear HH287
                refine N_val rfl (want0 rfl) rfl rfl HH288 (fun ww284 SS284 => Y_to (Y_neqB HH288 rfl (by kernel_rfl) rfl rfl) (rfl)) (fun aa289 HH289 => ?_)
                clear HH288
                refine N_val rfl (want0 rfl) rfl rfl HH289 (fun ww284 SS284 => Y_mov HH289 rfl rfl) (fun aa290 HH290 => ?_)
                clear HH289
                refine N_val rfl (HH290.want rfl rfl rfl) rfl rfl HH290 (fun ww284 SS284 => Y_mov HH290 rfl rfl) (fun aa291 HH291 => ?_)
                clear HH290
                refine N_val rfl (HH291.want rfl rfl rfl) rfl rfl HH291 (fun ww284 SS284 => Y_mov HH291 rfl rfl) (fun aa292 HH292 => ?_)
                clear HH291
                refine N_val rfl (HH292.want rfl rfl rfl) rfl rfl HH292 (fun ww284 SS284 => Y_loadS HH292 rfl rfl SS284 st_api_Packet.und st_api_Packet.size) (fun aa293 HH293 => ?_)
                clear HH292
                refine N_val rfl (HH293.want rfl rfl rfl) rfl rfl HH293 (fun ww284 SS284 => Y_mov HH293 rfl rfl) (fun aa294 HH294 => ?_)
                clear HH293
                refine N_val rfl (HH294.want rfl rfl rfl) rfl rfl HH294 (fun ww284 SS284 => Y_idxE (b := bk) (q := ok) HH294 rfl ty_pkts rfl hbk rfl (by omega) (by simp) (by simp)) (fun aa295 HH295 => ?_)
                clear HH294
                refine N_val rfl (HH295.want rfl rfl rfl) rfl rfl HH295 (fun ww284 SS284 => Y_loadC HH295 rfl rfl (PkR.cellAt hbk SS284.p3 0 p rfl ok (by simp)) st_api_Packet.und st_api_Packet.size) (fun aa296 HH296 => ?_)
                clear HH295
                refine N_call rfl (HH296.want rfl rfl rfl) rfl rfl rfl Try.func22 (by kernel_rfl) rfl HH296 (same_ok p p (Ints.rd SS284.p1) (by rw [hpd]; exact RdI.old hrd SS284.p4) hbp) rfl ?_
                rintro e ww297 ⟨rfl, hk⟩
                have SS297 := hk.sat SS284
                rw [Pkt.eqb_refl]
                refine ⟨_, rfl, SS297, fun aa297 HH297 => ?_⟩
                clear HH296
                clear SS284
                refine N_val rfl (HH297.want rfl rfl rfl) rfl rfl HH297 (fun ww297 SS297 => Y_not HH297 rfl rfl) (fun aa298 HH298 => ?_)
                clear HH297
                refine N_val rfl (HH298.want rfl rfl rfl) rfl rfl HH298 (fun ww297 SS297 => Y_pickT HH298 rfl rfl rfl) (fun aa299 HH299 => ?_)
                clear HH298
                refine N_val rfl (want0 rfl) rfl rfl HH299 (fun ww297 SS297 => Y_pickF HH299 rfl rfl rfl) (fun aa300 HH300 => ?_)
                clear HH299
                refine N_end (t_norm (hKK283 _ _ ?_))
                refine c_no HH300 rfl ?_
                refine wp_skip (b_norm (t_norm ?_))
                exact ⟨(p :: ps), ar, cr, HH300.sub rfl, by simp at hri ⊢; omega, hdata, SS297.p4.p3.p4.t3⟩
            ·
              refine LG_val (want0 rfl) rfl rfl HH244 (Y_no (Y_eql HH244 rfl rfl rfl) (hpk)) (fun aa301 HH301 => ?_)
              clear HH244
              refine LG_val (want0 rfl) rfl rfl HH301 (Y_asg HH301 rfl rfl) (fun aa302 HH302 => ?_)
              clear HH301
              refine L_end (t_norm (hKK245 _ _ ?_))
              refine c_no HH302 rfl ?_
              refine wp_seq_k fun KK303 hKK303 => ?_
              rcases rs with _ | ⟨p, ps⟩
              ·
                refine wp_region_lit ?_
                refine LG_val (want0 rfl) rfl rfl HH302 (Y_mov HH302 rfl rfl) (fun aa304 HH304 => ?_)
                clear HH302
                refine LG_call (want0 rfl) rfl rfl rfl Try.func23 (by kernel_rfl) rfl HH304 (qtake_none SS29.p1) rfl ?_
                rintro e ww305 ⟨rfl, SS305, _⟩
                refine ⟨_, rfl, fun aa305 HH305 => ?_⟩
                clear HH304
                clear SS29
                refine LG_val (want0 rfl) rfl rfl HH305 (Y_mov HH305 rfl rfl) (fun aa306 HH306 => ?_)
                clear HH305
                refine LG_val (want0 rfl) rfl rfl HH306 (Y_ext HH306 rfl rfl rfl) (fun aa307 HH307 => ?_)
                clear HH306
                refine LG_val (want0 rfl) rfl rfl HH307 (Y_ext HH307 rfl rfl rfl) (fun aa308 HH308 => ?_)
                clear HH307
                refine LG_do (want0 rfl) rfl rfl HH308 (M_alloc HH308 rfl st_api_Packet.zero SS305) ?_
                rintro _ ww309 ⟨b16, rfl, SS309, _⟩ aa309 HH309
                clear HH308
                clear SS305
                refine LG_do0 (want0 rfl) rfl HH309 (M_storeS HH309 rfl rfl rfl SS309 st_api_Packet.size rfl rfl (by simp [Value.oneCell'])) ?_
                rintro _ ww310 ⟨SS310, _⟩ aa310 HH310
                clear HH309
                clear SS309
                refine LG_val (want0 rfl) rfl rfl HH310 (Y_asg HH310 rfl rfl) (fun aa311 HH311 => ?_)
                clear HH310
                refine L_end (t_norm (hKK303 _ _ ?_))
                refine wp_seq_k fun KK312 hKK312 => ?_
                refine wp_seq_k fun KK313 hKK313 => ?_
                -- region 13, drawn
                refine N_begin (fun w' => Sat w' _) [(0, false), (1, false), (2, false), (3, false), (4, false), (5, false), (6, false), (7, false), (8, false), (9, false), (10, false), (11, false), (12, false), (13, false), (14, false), (15, false), (16, false), (17, false), (18, false), (19, false), (20, false), (21, false), (22, true), (23, false), (24, false), (25, false)] (by kernel_rfl) (by kernel_rfl) (by decide) (by kernel_rfl) (fun _ _ _ _ _ h => h) (SS310.drew) (fun ww314 SS314 _ => ?_)
                clear SS310
                refine N_val rfl (want0 rfl) rfl rfl HH311 (fun ww314 SS314 => Y_mov HH311 rfl rfl) (fun aa315 HH315 => ?_)
                clear HH311
                refine N_val rfl (want0 rfl) rfl rfl HH315 (fun ww314 SS314 => Y_mov HH315 rfl rfl) (fun aa316 HH316 => ?_)
                clear HH315
                refine N_val rfl (want0 rfl) rfl rfl HH316 (fun ww314 SS314 => Y_lenS HH316 rfl (by kernel_rfl) rfl) (fun aa317 HH317 => ?_)
                clear HH316
                refine N_val rfl (want0 rfl) rfl rfl HH317 (fun ww314 SS314 => Y_no (Y_gtr HH317 rfl rfl rfl) (by simp)) (fun aa318 HH318 => ?_)
                clear HH317
                refine N_val rfl (want0 rfl) rfl rfl HH318 (fun ww314 SS314 => Y_to (Y_neqB HH318 rfl (by kernel_rfl) rfl rfl) (rfl)) (fun aa319 HH319 => ?_)
                clear HH318
                refine N_val rfl (want0 rfl) rfl rfl HH319 (fun ww314 SS314 => Y_mov HH319 rfl rfl) (fun aa320 HH320 => ?_)
                clear HH319
                refine N_val rfl (HH320.want rfl rfl rfl) rfl rfl HH320 (fun ww314 SS314 => Y_mov HH320 rfl rfl) (fun aa321 HH321 => ?_)
                clear HH320
                refine N_val rfl (HH321.want rfl rfl rfl) rfl rfl HH321 (fun ww314 SS314 => Y_mov HH321 rfl rfl) (fun aa322 HH322 => ?_)
                clear HH321
                refine N_skip rfl (HH322.unwant rfl rfl rfl rfl) rfl rfl HH322 SS314 (fun aa323 HH323 => ?_)
                clear HH322
                refine N_skip rfl (HH323.unwant rfl rfl rfl rfl) rfl rfl HH323 SS314 (fun aa324 HH324 => ?_)
                clear HH323
                refine N_skip rfl (HH324.unwant rfl rfl rfl rfl) rfl rfl HH324 SS314 (fun aa325 HH325 => ?_)
                clear HH324
                refine N_skip rfl (HH325.unwant rfl rfl rfl rfl) rfl rfl HH325 SS314 (fun aa326 HH326 => ?_)
                clear HH325
                refine N_skip rfl (HH326.unwant rfl rfl rfl rfl) rfl rfl HH326 SS314 (fun aa327 HH327 => ?_)
                clear HH326
                refine N_skip rfl (HH327.unwant rfl rfl rfl rfl) rfl rfl HH327 SS314 (fun aa328 HH328 => ?_)
                clear HH327
                refine N_val rfl (HH328.want rfl rfl rfl) rfl rfl HH328 (fun ww314 SS314 => Y_pickF HH328 rfl rfl rfl) (fun aa329 HH329 => ?_)
                clear HH328
                refine N_val rfl (want0 rfl) rfl rfl HH329 (fun ww314 SS314 => Y_pickF HH329 rfl rfl rfl) (fun aa330 HH330 => ?_)
                clear HH329
                refine N_val rfl (want0 rfl) rfl rfl HH330 (fun ww314 SS314 => Y_mov HH330 rfl rfl) (fun aa331 HH331 => ?_)
                clear HH330
                refine N_val rfl (HH331.want rfl rfl rfl) rfl rfl HH331 (fun ww314 SS314 => Y_mov HH331 rfl rfl) (fun aa332 HH332 => ?_)
                clear HH331
                refine N_val rfl (HH332.want rfl rfl rfl) rfl rfl HH332 (fun ww314 SS314 => Y_not HH332 rfl rfl) (fun aa333 HH333 => ?_)
                clear HH332
                refine N_val rfl (HH333.want rfl rfl rfl) rfl rfl HH333 (fun ww314 SS314 => Y_mov HH333 rfl rfl) (fun aa334 HH334 => ?_)
                clear HH333
                refine N_val rfl (HH334.want rfl rfl rfl) rfl rfl HH334 (fun ww314 SS314 => Y_loadS HH334 rfl rfl SS314 st_api_Packet.und st_api_Packet.size) (fun aa335 HH335 => ?_)
                clear HH334
                refine N_val rfl (HH335.want rfl rfl rfl) rfl rfl HH335 (fun ww314 SS314 => Y_build (cs := Pkt.cells ⟨0, 0, 0, 0, 0, 0, 0, false, []⟩ VNil) HH335 rfl st_api_Packet rfl rfl) (fun aa336 HH336 => ?_)
                clear HH335
                refine N_call rfl (HH336.want rfl rfl rfl) rfl rfl rfl Try.func22 (by kernel_rfl) rfl HH336 (same_ok Pkt.zero Pkt.zero (Rd.nil _ _) (Rd.nil _ _) (by simp [Pkt.zero])) rfl ?_
                rintro e ww337 ⟨rfl, hk⟩
                have SS337 := hk.sat SS314
                rw [Pkt.eqb_refl]
                refine ⟨_, rfl, SS337, fun aa337 HH337 => ?_⟩
                clear HH336
                clear SS314
                refine N_val rfl (HH337.want rfl rfl rfl) rfl rfl HH337 (fun ww337 SS337 => Y_not HH337 rfl rfl) (fun aa338 HH338 => ?_)
                clear HH337
                refine N_val rfl (HH338.want rfl rfl rfl) rfl rfl HH338 (fun ww337 SS337 => Y_pickT HH338 rfl rfl rfl) (fun aa339 HH339 => ?_)
                clear HH338
                refine N_val rfl (want0 rfl) rfl rfl HH339 (fun ww337 SS337 => Y_pickF HH339 rfl rfl rfl) (fun aa340 HH340 => ?_)
                clear HH339
                refine N_end (t_norm (hKK313 _ _ ?_))
                refine c_no HH340 rfl ?_
                refine wp_skip (t_norm (hKK312 _ _ ?_))
                refine wp_seq_k fun KK341 hKK341 => ?_
                refine wp_region_lit ?_
                refine LG_val (want0 rfl) rfl rfl HH340 (Y_mov HH340 rfl rfl) (fun aa342 HH342 => ?_)
                clear HH340
                refine L_end (t_norm (hKK341 _ _ ?_))
                refine c_no HH342 rfl ?_
                refine wp_skip (b_norm (t_norm ?_))
                exact ⟨[], ar, cr, HH342.sub rfl, by simp, by simp, SS337.p3.p2.p3.t3⟩
              ·
                obtain ⟨bk, ok, hbk⟩ := PkR.some SS29 rfl (by simp)
                have hpd := hdata p List.mem_cons_self
                have hbp : p.data.length * 8 ≤ 140737488355328 := by rw [hpd]; omega
                refine wp_region_lit ?_
                refine LG_val (want0 rfl) rfl rfl HH302 (Y_mov HH302 rfl rfl) (fun aa343 HH343 => ?_)
                clear HH302
                refine LG_call (want0 rfl) rfl rfl rfl Try.func23 (by kernel_rfl) rfl HH343 (qtake_some SS29.p1) rfl ?_
                rintro e ww344 ⟨u0, rfl, SS344, _⟩
                obtain ⟨a4, c4, rfl, _, _⟩ := Ints.val SS344
                refine ⟨_, rfl, fun aa344 HH344 => ?_⟩
                clear HH343
                clear SS29
                refine LG_val (want0 rfl) rfl rfl HH344 (Y_mov HH344 rfl rfl) (fun aa345 HH345 => ?_)
                clear HH344
                refine LG_val (want0 rfl) rfl rfl HH345 (Y_ext HH345 rfl rfl rfl) (fun aa346 HH346 => ?_)
                clear HH345
                refine LG_val (want0 rfl) rfl rfl HH346 (Y_ext HH346 rfl rfl rfl) (fun aa347 HH347 => ?_)
                clear HH346
                refine LG_do (want0 rfl) rfl rfl HH347 (M_alloc HH347 rfl st_api_Packet.zero SS344) ?_
                rintro _ ww348 ⟨b16, rfl, SS348, _⟩ aa348 HH348
                clear HH347
                clear SS344
                refine LG_do0 (want0 rfl) rfl HH348 (M_storeS HH348 rfl rfl rfl SS348 st_api_Packet.size rfl rfl (by simp [Value.oneCell'])) ?_
                rintro _ ww349 ⟨SS349, _⟩ aa349 HH349
                clear HH348
                clear SS348
                refine LG_val (want0 rfl) rfl rfl HH349 (Y_asg HH349 rfl rfl) (fun aa350 HH350 => ?_)
                clear HH349
                refine L_end (t_norm (hKK303 _ _ ?_))
                refine wp_seq_k fun KK351 hKK351 => ?_
                refine wp_seq_k fun KK352 hKK352 => ?_
                -- region 13, drawn
                refine N_begin (fun w' => Sat w' _) [(0, false), (1, false), (2, false), (3, false), (4, false), (5, false), (6, false), (7, false), (8, false), (9, false), (10, false), (11, false), (12, true), (13, false), (14, false), (15, false), (16, false), (17, false), (18, false), (19, false), (20, false), (21, false), (22, false), (23, false), (24, false), (25, false)] (by kernel_rfl) (by kernel_rfl) (by decide) (by kernel_rfl) (fun _ _ _ _ _ h => h) (SS349.drew) (fun ww353 SS353 _ => ?_)
                clear SS349
                refine N_val rfl (want0 rfl) rfl rfl HH350 (fun ww353 SS353 => Y_mov HH350 rfl rfl) (fun aa354 HH354 => ?_)
                clear HH350
                refine N_val rfl (want0 rfl) rfl rfl HH354 (fun ww353 SS353 => Y_mov HH354 rfl rfl) (fun aa355 HH355 => ?_)
                clear HH354
                refine N_val rfl (want0 rfl) rfl rfl HH355 (fun ww353 SS353 => Y_lenS HH355 rfl (by kernel_rfl) rfl) (fun aa356 HH356 => ?_)
                clear HH355
                refine N_val rfl (want0 rfl) rfl rfl HH356 (fun ww353 SS353 => Y_yes (Y_gtr HH356 rfl rfl rfl) (by simp)) (fun aa357 HH357 => ?_)
                clear HH356
                refine N_val rfl (want0 rfl) rfl rfl HH357 (fun ww353 SS353 => Y_to (Y_neqB HH357 rfl (by kernel_rfl) rfl rfl) (rfl)) (fun aa358 HH358 => ?_)
                clear HH357
                refine N_val rfl (want0 rfl) rfl rfl HH358 (fun ww353 SS353 => Y_mov HH358 rfl rfl) (fun aa359 HH359 => ?_)
                clear HH358
                refine N_val rfl (HH359.want rfl rfl rfl) rfl rfl HH359 (fun ww353 SS353 => Y_mov HH359 rfl rfl) (fun aa360 HH360 => ?_)
                clear HH359
                refine N_val rfl (HH360.want rfl rfl rfl) rfl rfl HH360 (fun ww353 SS353 => Y_mov HH360 rfl rfl) (fun aa361 HH361 => ?_)
                clear HH360
                refine N_val rfl (HH361.want rfl rfl rfl) rfl rfl HH361 (fun ww353 SS353 => Y_loadS HH361 rfl rfl SS353 st_api_Packet.und st_api_Packet.size) (fun aa362 HH362 => ?_)
                clear HH361
                refine N_val rfl (HH362.want rfl rfl rfl) rfl rfl HH362 (fun ww353 SS353 => Y_mov HH362 rfl rfl) (fun aa363 HH363 => ?_)
                clear HH362
                refine N_val rfl (HH363.want rfl rfl rfl) rfl rfl HH363 (fun ww353 SS353 => Y_idxE (b := bk) (q := ok) HH363 rfl ty_pkts rfl hbk rfl (by omega) (by simp) (by simp)) (fun aa364 HH364 => ?_)
                clear HH363
                refine N_val rfl (HH364.want rfl rfl rfl) rfl rfl HH364 (fun ww353 SS353 => Y_loadC HH364 rfl rfl (PkR.cellAt hbk SS353.p3 0 p rfl ok (by simp)) st_api_Packet.und st_api_Packet.size) (fun aa365 HH365 => ?_)
                clear HH364
                refine N_call rfl (HH365.want rfl rfl rfl) rfl rfl rfl Try.func22 (by kernel_rfl) rfl HH365 (same_ok p p (Ints.rd SS353.p1) (by rw [hpd]; exact RdI.old hrd SS353.p4) hbp) rfl ?_
                rintro e ww366 ⟨rfl, hk⟩
                have SS366 := hk.sat SS353
                rw [Pkt.eqb_refl]
                refine ⟨_, rfl, SS366, fun aa366 HH366 => ?_⟩
                clear HH365
                clear SS353
                refine N_val rfl (HH366.want rfl rfl rfl) rfl rfl HH366 (fun ww366 SS366 => Y_not HH366 rfl rfl) (fun aa367 HH367 => ?_)
                clear HH366
                refine N_val rfl (HH367.want rfl rfl rfl) rfl rfl HH367 (fun ww366 SS366 => Y_pickT HH367 rfl rfl rfl) (fun aa368 HH368 => ?_)
                clear HH367
                refine N_val rfl (want0 rfl) rfl rfl HH368 (fun ww366 SS366 => Y_pickF HH368 rfl rfl rfl) (fun aa369 HH369 => ?_)
                clear HH368
                refine N_val rfl (want0 rfl) rfl rfl HH369 (fun ww366 SS366 => Y_mov HH369 rfl rfl) (fun aa370 HH370 => ?_)
                clear HH369
                refine N_val rfl (HH370.want rfl rfl rfl) rfl rfl HH370 (fun ww366 SS366 => Y_mov HH370 rfl rfl) (fun aa371 HH371 => ?_)
                clear HH370
                refine N_val rfl (HH371.want rfl rfl rfl) rfl rfl HH371 (fun ww366 SS366 => Y_not HH371 rfl rfl) (fun aa372 HH372 => ?_)
                clear HH371
                refine N_val rfl (HH372.want rfl rfl rfl) rfl rfl HH372 (fun ww366 SS366 => Y_mov HH372 rfl rfl) (fun aa373 HH373 => ?_)
                clear HH372
                refine N_skip rfl (HH373.unwant rfl rfl rfl rfl) rfl rfl HH373 SS366 (fun aa374 HH374 => ?_)
                clear HH373
                refine N_skip rfl (HH374.unwant rfl rfl rfl rfl) rfl rfl HH374 SS366 (fun aa375 HH375 => ?_)
                clear HH374
                refine N_skip rfl (HH375.unwant rfl rfl rfl rfl) rfl rfl HH375 SS366 (fun aa376 HH376 => ?_)
                clear HH375
                refine N_skip rfl (HH376.unwant rfl rfl rfl rfl) rfl rfl HH376 SS366 (fun aa377 HH377 => ?_)
                clear HH376
                refine N_val rfl (HH377.want rfl rfl rfl) rfl rfl HH377 (fun ww366 SS366 => Y_pickF HH377 rfl rfl rfl) (fun aa378 HH378 => ?_)
                clear HH377
                refine N_val rfl (want0 rfl) rfl rfl HH378 (fun ww366 SS366 => Y_pickF HH378 rfl rfl rfl) (fun aa379 HH379 => ?_)
                clear HH378
                refine N_end (t_norm (hKK352 _ _ ?_))
                refine c_no HH379 rfl ?_
                refine wp_skip (t_norm (hKK351 _ _ ?_))
                refine wp_seq_k fun KK380 hKK380 => ?_
                refine wp_region_lit ?_
                refine LG_val (want0 rfl) rfl rfl HH379 (Y_mov HH379 rfl rfl) (fun aa381 HH381 => ?_)
                clear HH379
                refine L_end (t_norm (hKK380 _ _ ?_))
                refine c_yes HH381 rfl ?_
                refine wp_region_lit ?_
                refine LG_val (want0 rfl) rfl rfl HH381 (Y_mov HH381 rfl rfl) (fun aa382 HH382 => ?_)
                clear HH381
                refine LG_val (want0 rfl) rfl rfl HH382 (Y_sliceFrom (lo := 1) HH382 rfl ty_pkts rfl rfl (by simp)) (fun aa383 HH383 => ?_)
                clear HH382
                refine LG_val (want0 rfl) rfl rfl HH383 (Y_asg HH383 rfl rfl) (fun aa384 HH384 => ?_)
                clear HH383
                refine L_end (b_norm (t_norm ?_))
                have S0 := PkR.tail hbk rfl SS366.p4.p3.p4.t3
                exact ⟨ps, _, _, HH384.sub rfl, by simp at hri; omega, (fun x hx => hdata x (List.mem_cons_of_mem _ hx)), S0⟩
      clear hdata hri
      clear HH39
      clear SS29
      rintro aa385 ww385 ⟨rs, ar, cr, HH385, hri, hdata, SS385⟩
      refine wp_seq_k fun KK386 hKK386 => ?_
      refine wp_region_lit ?_
      refine LG_val (want0 rfl) rfl rfl HH385 (Y_mov HH385 rfl rfl) (fun aa387 HH387 => ?_)
      clear HH385
      refine LG_call (want0 rfl) rfl rfl rfl Try.func24 (by kernel_rfl) rfl HH387 (qlen_ok SS385.p1) rfl ?_
      rintro e ww388 ⟨rfl, rfl⟩
      refine ⟨_, rfl, fun aa388 HH388 => ?_⟩
      clear HH387
      refine LG_val (want0 rfl) rfl rfl HH388 (Y_mov HH388 rfl rfl) (fun aa389 HH389 => ?_)
      clear HH388
      refine LG_val (want0 rfl) rfl rfl HH389 (Y_lenS HH389 rfl (by kernel_rfl) rfl) (fun aa390 HH390 => ?_)
      clear HH389
      refine LG_val (want0 rfl) rfl rfl HH390 (Y_no (Y_neq HH390 rfl rfl rfl) (by simp)) (fun aa391 HH391 => ?_)
      clear HH390
      refine LG_val (want0 rfl) rfl rfl HH391 (Y_mov HH391 rfl rfl) (fun aa392 HH392 => ?_)
      clear HH391
      refine LG_val (HH392.want rfl rfl rfl) rfl rfl HH392 (Y_mov HH392 rfl rfl) (fun aa393 HH393 => ?_)
      clear HH392
      refine LG_call (HH393.want rfl rfl rfl) rfl rfl rfl Try.func25 (by kernel_rfl) rfl HH393 (qroom_ok SS385.p1) rfl ?_
      rintro e ww394 ⟨rfl, k1, rfl⟩
      have SS394 := SS385.drewN k1
      refine ⟨_, rfl, fun aa394 HH394 => ?_⟩
      clear HH393
      clear SS385
      refine LG_val (HH394.want rfl rfl rfl) rfl rfl HH394 (Y_mov HH394 rfl rfl) (fun aa395 HH395 => ?_)
      clear HH394
      refine LG_val (HH395.want rfl rfl rfl) rfl rfl HH395 (Y_max (r := R) HH395 rfl rfl rfl (by omega)) (fun aa396 HH396 => ?_)
      clear HH395
      refine LG_val (HH396.want rfl rfl rfl) rfl rfl HH396 (Y_mov HH396 rfl rfl) (fun aa397 HH397 => ?_)
      clear HH396
      refine LG_val (HH397.want rfl rfl rfl) rfl rfl HH397 (Y_lenS HH397 rfl (by kernel_rfl) rfl) (fun aa398 HH398 => ?_)
      clear HH397
      refine LG_val (HH398.want rfl rfl rfl) rfl rfl HH398 (Y_sub HH398 rfl rfl rfl (IntWalk.i64_in _ (by omega))) (fun aa399 HH399 => ?_)
      clear HH398
      refine LG_val (HH399.want rfl rfl rfl) rfl rfl HH399 (Y_no (Y_neq HH399 rfl rfl rfl) (by simp)) (fun aa400 HH400 => ?_)
      clear HH399
      refine LG_val (want0 rfl) rfl rfl HH400 (Y_pickF HH400 rfl rfl rfl) (fun aa401 HH401 => ?_)
      clear HH400
      refine LG_val (want0 rfl) rfl rfl HH401 (Y_mov HH401 rfl rfl) (fun aa402 HH402 => ?_)
      clear HH401
      refine LG_val (HH402.want rfl rfl rfl) rfl rfl HH402 (Y_mov HH402 rfl rfl) (fun aa403 HH403 => ?_)
      clear HH402
      refine LG_call (HH403.want rfl rfl rfl) rfl rfl rfl Try.func27 (by kernel_rfl) rfl HH403 (qall_ok SS394.p1) rfl ?_
      rintro e ww404 ⟨u1, rfl, SS404, _⟩
      obtain ⟨a7, c7, rfl, _, _⟩ := PkQ.val SS404
      refine ⟨_, rfl, fun aa404 HH404 => ?_⟩
      clear HH403
      clear SS394
      refine LG_val (HH404.want rfl rfl rfl) rfl rfl HH404 (Y_mov HH404 rfl rfl) (fun aa405 HH405 => ?_)
      clear HH404
      refine LG_call (HH405.want rfl rfl rfl) rfl rfl rfl Try.func26 (by kernel_rfl) rfl HH405 (all_ok rs rs (PkQ.rd SS404) (PkR.rd SS404.p2 (RdI.old hrd SS404.p3) hdata) (by omega) (fun p hp => by rw [hdata p hp]; omega)) rfl ?_
      rintro e ww406 ⟨rfl, hk⟩
      have SS406 := hk.sat SS404
      rw [show pksEqb rs rs = true from pksEqb_iff.2 rfl]
      refine ⟨_, rfl, fun aa406 HH406 => ?_⟩
      clear HH405
      clear SS404
      refine LG_val (HH406.want rfl rfl rfl) rfl rfl HH406 (Y_not HH406 rfl rfl) (fun aa407 HH407 => ?_)
      clear HH406
      refine LG_val (want0 rfl) rfl rfl HH407 (Y_pickF HH407 rfl rfl rfl) (fun aa408 HH408 => ?_)
      clear HH407
      refine L_end (t_norm (hKK386 _ _ ?_))
      refine c_no HH408 rfl ?_
      refine wp_skip (b_norm (t_norm (hKK40 _ _ ?_)))
      refine wp_region_lit ?_
      refine LG_val (want0 rfl) rfl rfl HH408 (Y_mov HH408 rfl rfl) (fun aa409 HH409 => ?_)
      clear HH408
      refine LG_val (want0 rfl) rfl rfl HH409 (Y_add HH409 rfl rfl rfl (IntWalk.i64_in _ (by omega))) (fun aa410 HH410 => ?_)
      clear HH409
      refine LG_val (want0 rfl) rfl rfl HH410 (Y_asg HH410 rfl rfl) (fun aa411 HH411 => ?_)
      clear HH410
      refine L_end (t_norm ?_)
      exact ⟨i + 1, ⟨rs, ar, cr, HH411.sub rfl, by omega, by omega, by omega, hdata, SS406.p3.p2.p3.t3⟩, by first | omega | (dsimp only; omega)⟩
    ·
      refine LG_val (HH37.want rfl rfl rfl) rfl rfl HH37 (Y_no (Y_lss HH37 rfl rfl rfl) (hlt2)) (fun aa412 HH412 => ?_)
      clear HH37
      refine LG_val (want0 rfl) rfl rfl HH412 (Y_pickT HH412 rfl rfl rfl) (fun aa413 HH413 => ?_)
      clear HH412
      refine L_end (t_norm (hKK31 _ _ ?_))
      refine c_no HH413 rfl ?_
      refine wp_exit (t_exit (t_exit (b_exit (t_norm (hKK26 _ _ ?_)))))
      refine wp_seq_k fun KK414 hKK414 => ?_
      refine wp_region_lit ?_
      refine LG_call (want0 rfl) rfl rfl rfl Try.func28 (by kernel_rfl) rfl HH413 (wakes04_ok SS29) rfl ?_
      rintro e ww415 ⟨rfl, SS415⟩
      refine ⟨_, rfl, fun aa415 HH415 => ?_⟩
      clear HH413
      clear SS29
      refine LG_val (want0 rfl) rfl rfl HH415 (Y_asg HH415 rfl rfl) (fun aa416 HH416 => ?_)
      clear HH415
      refine L_end (t_norm (hKK414 _ _ ?_))
      refine wp_ret (ret1 rfl HH416 rfl ?_)
      exact ⟨rfl, SS415.p2.below⟩
  ·
    refine LG_val (want0 rfl) rfl rfl HH34 (Y_no (Y_lss HH34 rfl rfl rfl) (hlt)) (fun aa417 HH417 => ?_)
    clear HH34
    refine LG_val (want0 rfl) rfl rfl HH417 (Y_mov HH417 rfl rfl) (fun aa418 HH418 => ?_)
    clear HH417
    refine LG_skip (HH418.unwant rfl rfl rfl rfl) rfl rfl HH418 (fun aa419 HH419 => ?_)
    clear HH418
    by_cases hlt2 : (i : Int) < 20
    ·
      refine LG_skip (HH419.unwant rfl rfl rfl rfl) rfl rfl HH419 (fun aa420 HH420 => ?_)
      clear HH419
      refine LG_val (want0 rfl) rfl rfl HH420 (Y_pickF HH420 rfl rfl rfl) (fun aa421 HH421 => ?_)
      clear HH420
      refine L_end (t_norm (hKK31 _ _ ?_))
      refine c_no HH421 rfl ?_
      refine wp_exit (t_exit (t_exit (b_exit (t_norm (hKK26 _ _ ?_)))))
      refine wp_seq_k fun KK422 hKK422 => ?_
      refine wp_region_lit ?_
      refine LG_call (want0 rfl) rfl rfl rfl Try.func28 (by kernel_rfl) rfl HH421 (wakes04_ok SS29) rfl ?_
      rintro e ww423 ⟨rfl, SS423⟩
      refine ⟨_, rfl, fun aa423 HH423 => ?_⟩
      clear HH421
      clear SS29
      refine LG_val (want0 rfl) rfl rfl HH423 (Y_asg HH423 rfl rfl) (fun aa424 HH424 => ?_)
      clear HH423
      refine L_end (t_norm (hKK422 _ _ ?_))
      refine wp_ret (ret1 rfl HH424 rfl ?_)
      exact ⟨rfl, SS423.p2.below⟩
    ·
      refine LG_skip (HH419.unwant rfl rfl rfl rfl) rfl rfl HH419 (fun aa425 HH425 => ?_)
      clear HH419
      refine LG_val (want0 rfl) rfl rfl HH425 (Y_pickF HH425 rfl rfl rfl) (fun aa426 HH426 => ?_)
      clear HH425
      refine L_end (t_norm (hKK31 _ _ ?_))
      refine c_no HH426 rfl ?_
      refine wp_exit (t_exit (t_exit (b_exit (t_norm (hKK26 _ _ ?_)))))
      refine wp_seq_k fun KK427 hKK427 => ?_
      refine wp_region_lit ?_
      refine LG_call (want0 rfl) rfl rfl rfl Try.func28 (by kernel_rfl) rfl HH426 (wakes04_ok SS29) rfl ?_
      rintro e ww428 ⟨rfl, SS428⟩
      refine ⟨_, rfl, fun aa428 HH428 => ?_⟩
      clear HH426
      clear SS29
      refine LG_val (want0 rfl) rfl rfl HH428 (Y_asg HH428 rfl rfl) (fun aa429 HH429 => ?_)
      clear HH428
      refine L_end (t_norm (hKK427 _ _ ?_))
      refine wp_ret (ret1 rfl HH429 rfl ?_)
      exact ⟨rfl, SS428.p2.below⟩
end Go.Proofs.Ytaekiecidbhjhaa
