/- PoolPlays: the walk of the law. Printed by wip/specs/law05.py over wip/tools/walk.py. -/
import Derived.Test.YtaekiecidbhjhaaPool
namespace Go.Proofs.Ytaekiecidbhjhaa
open Go.RowKit

set_option maxRecDepth 100000 in
theorem wakes05_ok {w : World} {l : List HProp} (S : Sat w l) : Calls Try.prog 36 #[] w fun e w' => e = .returned (VB true) ∧ Sat w' l := by
  refine enter (n := 31) Try.func36 rfl [] rfl rfl fun aa0 HH0 => ?_
  refine wp_seq_k fun KK1 hKK1 => ?_
  refine wp_region_lit ?_
  refine LG_val (want0 rfl) rfl rfl HH0 (Y_asg HH0 rfl rfl) (fun aa2 HH2 => ?_)
  clear HH0
  refine L_end (t_norm (hKK1 _ _ ?_))
  refine wp_seq_k fun KK3 hKK3 => ?_
  refine wp_region_lit ?_
  refine LG_call (want0 rfl) rfl rfl rfl Try.func29 (by kernel_rfl) rfl HH2 (lnew_ok 1 (by omega) S) rfl ?_
  rintro e ww4 ⟨q, rfl, SS4, _⟩
  refine ⟨_, rfl, fun aa4 HH4 => ?_⟩
  clear HH2
  clear S
  refine LG_val (want0 rfl) rfl rfl HH4 (Y_asg HH4 rfl rfl) (fun aa5 HH5 => ?_)
  clear HH4
  refine L_end (t_norm (hKK3 _ _ ?_))
  refine wp_seq_k fun KK6 hKK6 => ?_
  refine wp_seq_k fun KK7 hKK7 => ?_
  refine wp_region_lit ?_
  refine LG_val (want0 rfl) rfl rfl HH5 (Y_mov HH5 rfl rfl) (fun aa8 HH8 => ?_)
  clear HH5
  refine LG_val (want0 rfl) rfl rfl HH8 (Y_to (Y_eqlP HH8 rfl (by kernel_rfl) rfl rfl) (rfl)) (fun aa9 HH9 => ?_)
  clear HH8
  refine L_end (t_norm (hKK7 _ _ ?_))
  refine c_no HH9 rfl ?_
  refine wp_skip (t_norm (hKK6 _ _ ?_))
  refine wp_seq_k fun KK10 hKK10 => ?_
  refine wp_region_lit ?_
  refine LG_val (want0 rfl) rfl rfl HH9 (Y_mov HH9 rfl rfl) (fun aa11 HH11 => ?_)
  clear HH9
  refine LG_call (want0 rfl) rfl rfl rfl Try.func31 (by kernel_rfl) rfl HH11 (lget_none SS4 0 (by simp)) rfl ?_
  rintro e ww12 ⟨rfl, SS12⟩
  refine ⟨_, rfl, fun aa12 HH12 => ?_⟩
  clear HH11
  clear SS4
  refine LG_val (want0 rfl) rfl rfl HH12 (Y_mov HH12 rfl rfl) (fun aa13 HH13 => ?_)
  clear HH12
  refine LG_val (want0 rfl) rfl rfl HH13 (Y_ext HH13 rfl rfl rfl) (fun aa14 HH14 => ?_)
  clear HH13
  refine LG_val (want0 rfl) rfl rfl HH14 (Y_ext HH14 rfl rfl rfl) (fun aa15 HH15 => ?_)
  clear HH14
  refine LG_do (want0 rfl) rfl rfl HH15 (M_alloc HH15 rfl st_api_Packet.zero SS12) ?_
  rintro _ ww16 ⟨b2, rfl, SS16, _⟩ aa16 HH16
  clear HH15
  clear SS12
  refine LG_do0 (want0 rfl) rfl HH16 (M_storeS HH16 rfl rfl rfl SS16 st_api_Packet.size rfl rfl (by simp [Value.oneCell'])) ?_
  rintro _ ww17 ⟨SS17, _⟩ aa17 HH17
  clear HH16
  clear SS16
  refine LG_val (want0 rfl) rfl rfl HH17 (Y_asg HH17 rfl rfl) (fun aa18 HH18 => ?_)
  clear HH17
  refine L_end (t_norm (hKK10 _ _ ?_))
  refine wp_seq_k fun KK19 hKK19 => ?_
  refine wp_region_lit ?_
  refine LG_val (want0 rfl) rfl rfl HH18 (Y_mov HH18 rfl rfl) (fun aa20 HH20 => ?_)
  clear HH18
  refine LG_val (want0 rfl) rfl rfl HH20 (Y_not HH20 rfl rfl) (fun aa21 HH21 => ?_)
  clear HH20
  refine LG_val (want0 rfl) rfl rfl HH21 (Y_mov HH21 rfl rfl) (fun aa22 HH22 => ?_)
  clear HH21
  refine LG_val (HH22.want rfl rfl rfl) rfl rfl HH22 (Y_mov HH22 rfl rfl) (fun aa23 HH23 => ?_)
  clear HH22
  refine LG_val (HH23.want rfl rfl rfl) rfl rfl HH23 (Y_build (cs := Pkt.cells ⟨0, 0, 0, 5, 0, 0, 0, false, []⟩ VNil) HH23 rfl st_api_Packet rfl rfl) (fun aa24 HH24 => ?_)
  clear HH23
  refine LG_call (HH24.want rfl rfl rfl) rfl rfl rfl Try.func30 (by kernel_rfl) rfl HH24 (lput_room SS17.p1 ⟨0, 0, 0, 5, 0, 0, 0, false, []⟩ VNil (Rd.nil _ _) (by simp) (by decide)) rfl ?_
  rintro e ww25 ⟨rfl, SS25, _⟩
  refine ⟨_, rfl, fun aa25 HH25 => ?_⟩
  clear HH24
  clear SS17
  refine LG_val (HH25.want rfl rfl rfl) rfl rfl HH25 (Y_yes (Y_eql HH25 rfl rfl rfl) (rfl)) (fun aa26 HH26 => ?_)
  clear HH25
  refine LG_val (want0 rfl) rfl rfl HH26 (Y_pickT HH26 rfl rfl rfl) (fun aa27 HH27 => ?_)
  clear HH26
  refine LG_val (want0 rfl) rfl rfl HH27 (Y_mov HH27 rfl rfl) (fun aa28 HH28 => ?_)
  clear HH27
  refine LG_val (HH28.want rfl rfl rfl) rfl rfl HH28 (Y_mov HH28 rfl rfl) (fun aa29 HH29 => ?_)
  clear HH28
  refine LG_val (HH29.want rfl rfl rfl) rfl rfl HH29 (Y_build (cs := Pkt.cells ⟨0, 0, 0, 0, 0, 0, 0, false, []⟩ VNil) HH29 rfl st_api_Packet rfl rfl) (fun aa30 HH30 => ?_)
  clear HH29
  refine LG_call (HH30.want rfl rfl rfl) rfl rfl rfl Try.func30 (by kernel_rfl) rfl HH30 (lput_full SS25 ⟨0, 0, 0, 0, 0, 0, 0, false, []⟩ VNil (by decide)) rfl ?_
  rintro e ww31 ⟨rfl, SS31, _⟩
  refine ⟨_, rfl, fun aa31 HH31 => ?_⟩
  clear HH30
  clear SS25
  refine LG_val (HH31.want rfl rfl rfl) rfl rfl HH31 (Y_yes (Y_eql HH31 rfl rfl rfl) (rfl)) (fun aa32 HH32 => ?_)
  clear HH31
  refine LG_val (want0 rfl) rfl rfl HH32 (Y_pickT HH32 rfl rfl rfl) (fun aa33 HH33 => ?_)
  clear HH32
  refine LG_val (want0 rfl) rfl rfl HH33 (Y_mov HH33 rfl rfl) (fun aa34 HH34 => ?_)
  clear HH33
  refine LG_val (HH34.want rfl rfl rfl) rfl rfl HH34 (Y_mov HH34 rfl rfl) (fun aa35 HH35 => ?_)
  clear HH34
  refine LG_call (HH35.want rfl rfl rfl) rfl rfl rfl Try.func33 (by kernel_rfl) rfl HH35 (llen_ok SS31) rfl ?_
  rintro e ww36 ⟨rfl, rfl⟩
  refine ⟨_, rfl, fun aa36 HH36 => ?_⟩
  clear HH35
  refine LG_val (HH36.want rfl rfl rfl) rfl rfl HH36 (Y_yes (Y_eql HH36 rfl rfl rfl) (rfl)) (fun aa37 HH37 => ?_)
  clear HH36
  refine LG_val (want0 rfl) rfl rfl HH37 (Y_pickT HH37 rfl rfl rfl) (fun aa38 HH38 => ?_)
  clear HH37
  refine LG_val (want0 rfl) rfl rfl HH38 (Y_asg HH38 rfl rfl) (fun aa39 HH39 => ?_)
  clear HH38
  refine L_end (t_norm (hKK19 _ _ ?_))
  refine wp_ret (ret1 rfl HH39 rfl ?_)
  exact ⟨rfl, SS31.tail.tail⟩

set_option maxRecDepth 100000 in
theorem poolPlays_ok {w : World} (room : Int) {av pv dv : Value} {acts places data : List Int} (hra : RdI w av acts) (hrp : RdI w pv places) (hrd : RdI w dv data) (hb : data.length * 8 ≤ 140737488351232) :
    Calls Try.prog 5 #[VI room, av, pv, dv] w fun e w' => e = .returned (VB true) ∧ Below w.heap.size w w' := by
  obtain ⟨a1, c1, rfl, _, _⟩ := hra.val
  obtain ⟨a2, c2, rfl, _, _⟩ := hrp.val
  obtain ⟨a3, c3, rfl, _, _⟩ := hrd.val
  have S := Sat.old w
  refine enter (n := 208) Try.func5 rfl [(0, VI room), (1, .slice a1 acts.length c1), (2, .slice a2 places.length c2), (3, .slice a3 data.length c3)] rfl rfl fun aa0 HH0 => ?_
  refine wp_seq_k fun KK1 hKK1 => ?_
  refine wp_region_lit ?_
  refine LG_val (want0 rfl) rfl rfl HH0 (Y_asg HH0 rfl rfl) (fun aa2 HH2 => ?_)
  clear HH0
  refine L_end (t_norm (hKK1 _ _ ?_))
  refine c_cut (fun a wx => ∃ r : Int, Fr a 208 [(0, VI r), (1, .slice a1 acts.length c1), (2, .slice a2 places.length c2), (3, .slice a3 data.length c3), (8, VB false)] ∧ Sat wx [Old w]) ?_ ?_
  ·
    refine wp_seq_k fun KK3 hKK3 => ?_
    refine wp_region_lit ?_
    refine LG_val (want0 rfl) rfl rfl HH2 (Y_mov HH2 rfl rfl) (fun aa4 HH4 => ?_)
    clear HH2
    refine LG_val (want0 rfl) rfl rfl HH4 (Y_rem HH4 rfl rfl rfl (by omega) (rfl)) (fun aa5 HH5 => ?_)
    clear HH4
    by_cases h6 : room.tmod 7 ≠ 6
    ·
      refine LG_val (want0 rfl) rfl rfl HH5 (Y_yes (Y_neq HH5 rfl rfl rfl) (h6)) (fun aa6 HH6 => ?_)
      clear HH5
      refine L_end (t_norm (hKK3 _ _ ?_))
      refine c_yes HH6 rfl ?_
      refine wp_region_lit ?_
      refine LG_val (want0 rfl) rfl rfl HH6 (Y_mov HH6 rfl rfl) (fun aa7 HH7 => ?_)
      clear HH6
      refine LG_call (want0 rfl) rfl rfl rfl Try.func17 (by kernel_rfl) rfl HH7 (within_ok (room) (5) (by omega)) rfl ?_
      rintro e ww8 ⟨rfl, rfl⟩
      refine ⟨_, rfl, fun aa8 HH8 => ?_⟩
      clear HH7
      refine LG_val (want0 rfl) rfl rfl HH8 (Y_asg HH8 rfl rfl) (fun aa9 HH9 => ?_)
      clear HH8
      refine L_end (t_norm ?_)
      exact ⟨_, HH9.sub rfl, S⟩
    ·
      refine LG_val (want0 rfl) rfl rfl HH5 (Y_no (Y_neq HH5 rfl rfl rfl) (h6)) (fun aa10 HH10 => ?_)
      clear HH5
      refine L_end (t_norm (hKK3 _ _ ?_))
      refine c_no HH10 rfl ?_
      refine wp_skip (t_norm ?_)
      exact ⟨_, HH10.sub rfl, S⟩
  clear HH2
  clear S
  rintro aa11 ww11 ⟨r0, HH11, SS11⟩
  refine wp_seq_k fun KK12 hKK12 => ?_
  refine wp_region_lit ?_
  refine LG_val (want0 rfl) rfl rfl HH11 (Y_mov HH11 rfl rfl) (fun aa13 HH13 => ?_)
  clear HH11
  obtain ⟨r, hr, hr30⟩ : ∃ r, min r0 30 = r ∧ r ≤ 30 := ⟨_, rfl, by omega⟩
  refine LG_val (want0 rfl) rfl rfl HH13 (Y_min (r := r) HH13 rfl rfl rfl (hr)) (fun aa14 HH14 => ?_)
  clear HH13
  refine LG_val (want0 rfl) rfl rfl HH14 (Y_asg HH14 rfl rfl) (fun aa15 HH15 => ?_)
  clear HH14
  refine L_end (t_norm (hKK12 _ _ ?_))
  refine wp_seq_k fun KK16 hKK16 => ?_
  refine wp_region_lit ?_
  refine LG_val (want0 rfl) rfl rfl HH15 (Y_mov HH15 rfl rfl) (fun aa17 HH17 => ?_)
  clear HH15
  refine LG_call (want0 rfl) rfl rfl rfl Try.func29 (by kernel_rfl) rfl HH17 (lnew_ok r (by omega) SS11) rfl ?_
  rintro e ww18 ⟨q, rfl, SS18, _⟩
  refine ⟨_, rfl, fun aa18 HH18 => ?_⟩
  clear HH17
  clear SS11
  refine LG_val (want0 rfl) rfl rfl HH18 (Y_asg HH18 rfl rfl) (fun aa19 HH19 => ?_)
  clear HH18
  refine L_end (t_norm (hKK16 _ _ ?_))
  refine wp_seq_k fun KK20 hKK20 => ?_
  refine wp_seq_k fun KK21 hKK21 => ?_
  obtain ⟨R, hR⟩ : ∃ R, max 0 r = R := ⟨_, rfl⟩
  rw [hR] at SS18
  refine wp_region_lit ?_
  refine LG_val (want0 rfl) rfl rfl HH19 (Y_mov HH19 rfl rfl) (fun aa22 HH22 => ?_)
  clear HH19
  refine LG_val (want0 rfl) rfl rfl HH22 (Y_to (Y_eqlP HH22 rfl (by kernel_rfl) rfl rfl) (rfl)) (fun aa23 HH23 => ?_)
  clear HH22
  refine L_end (t_norm (hKK21 _ _ ?_))
  refine c_no HH23 rfl ?_
  refine wp_skip (t_norm (hKK20 _ _ ?_))
  refine wp_seq_k fun KK24 hKK24 => ?_
  refine wp_region_lit ?_
  refine LG_val (want0 rfl) rfl rfl HH23 (Y_asg HH23 rfl rfl) (fun aa25 HH25 => ?_)
  clear HH23
  refine L_end (t_norm (hKK24 _ _ ?_))
  refine wp_seq_k fun KK26 hKK26 => ?_
  refine wp_seq_k fun KK27 hKK27 => ?_
  refine wp_region_lit ?_
  refine LG_val (want0 rfl) rfl rfl HH25 (Y_asg HH25 rfl rfl) (fun aa28 HH28 => ?_)
  clear HH25
  refine L_end (t_norm (hKK27 _ _ ?_))
  refine wp_block ?_
  have S0 := PkR.nil (.slice a3 data.length c3) SS18
  refine c_loop (σ := Nat) (fun (i : Nat) a wx => ∃ (rs : List Pkt) (ar : Option Addr) (cr : Nat), Fr a 208 [(0, VI r), (1, .slice a1 acts.length c1), (2, .slice a2 places.length c2), (3, .slice a3 data.length c3), (8, VB false), (9, VP q 0), (10, .slice ar rs.length cr), (11, VI i)] ∧ i ≤ 20 ∧ i ≤ acts.length ∧ rs.length ≤ i ∧ (∀ p ∈ rs, p.data = data) ∧ Sat wx [PkR (.slice ar rs.length cr) (.slice a3 data.length c3) rs, LRep q R rs, Old w]) (fun i => 20 - i) (0) ?_ ?_
  · exact ⟨[], _, _, HH28.sub rfl, by omega, by omega, by simp, by simp, S0⟩
  clear HH28
  clear SS18
  rintro i aa29 ww29 ⟨rs, ar, cr, HH29, hi20, hia, hri, hdata, SS29⟩
  refine wp_seq_k fun KK30 hKK30 => ?_
  refine wp_seq_k fun KK31 hKK31 => ?_
  refine wp_region_lit ?_
  refine LG_val (want0 rfl) rfl rfl HH29 (Y_mov HH29 rfl rfl) (fun aa32 HH32 => ?_)
  clear HH29
  refine LG_val (want0 rfl) rfl rfl HH32 (Y_mov HH32 rfl rfl) (fun aa33 HH33 => ?_)
  clear HH32
  refine LG_val (want0 rfl) rfl rfl HH33 (Y_lenS HH33 rfl (by kernel_rfl) rfl) (fun aa34 HH34 => ?_)
  clear HH33
  by_cases hlt : (i : Int) < (acts.length : Int)
  ·
    refine LG_val (want0 rfl) rfl rfl HH34 (Y_yes (Y_lss HH34 rfl rfl rfl) (hlt)) (fun aa35 HH35 => ?_)
    clear HH34
    refine LG_val (want0 rfl) rfl rfl HH35 (Y_mov HH35 rfl rfl) (fun aa36 HH36 => ?_)
    clear HH35
    refine LG_val (HH36.want rfl rfl rfl) rfl rfl HH36 (Y_mov HH36 rfl rfl) (fun aa37 HH37 => ?_)
    clear HH36
    by_cases hlt2 : (i : Int) < 20
    ·
      refine LG_val (HH37.want rfl rfl rfl) rfl rfl HH37 (Y_yes (Y_lss HH37 rfl rfl rfl) (hlt2)) (fun aa38 HH38 => ?_)
      clear HH37
      refine LG_val (want0 rfl) rfl rfl HH38 (Y_pickT HH38 rfl rfl rfl) (fun aa39 HH39 => ?_)
      clear HH38
      refine L_end (t_norm (hKK31 _ _ ?_))
      refine c_yes HH39 rfl ?_
      refine wp_skip (t_norm (hKK30 _ _ ?_))
      refine wp_seq_k fun KK40 hKK40 => ?_
      refine wp_block ?_
      refine wp_seq_k fun KK41 hKK41 => ?_
      refine wp_region_lit ?_
      refine LG_val (want0 rfl) rfl rfl HH39 (Y_asg HH39 rfl rfl) (fun aa42 HH42 => ?_)
      clear HH39
      refine L_end (t_norm (hKK41 _ _ ?_))
      refine c_cut (fun a wx => ∃ at0 : Int, Fr a 208 [(0, VI r), (1, .slice a1 acts.length c1), (2, .slice a2 places.length c2), (3, .slice a3 data.length c3), (8, VB false), (9, VP q 0), (10, .slice ar rs.length cr), (11, VI i), (12, VI at0)] ∧ Sat wx [PkR (.slice ar rs.length cr) (.slice a3 data.length c3) rs, LRep q R rs, Old w]) ?_ ?_
      ·
        refine wp_seq_k fun KK43 hKK43 => ?_
        refine wp_region_lit ?_
        refine LG_val (want0 rfl) rfl rfl HH42 (Y_mov HH42 rfl rfl) (fun aa44 HH44 => ?_)
        clear HH42
        refine LG_val (want0 rfl) rfl rfl HH44 (Y_mov HH44 rfl rfl) (fun aa45 HH45 => ?_)
        clear HH44
        refine LG_val (want0 rfl) rfl rfl HH45 (Y_lenS HH45 rfl (by kernel_rfl) rfl) (fun aa46 HH46 => ?_)
        clear HH45
        by_cases hpl : (i : Int) < (places.length : Int)
        ·
          refine LG_val (want0 rfl) rfl rfl HH46 (Y_yes (Y_lss HH46 rfl rfl rfl) (hpl)) (fun aa47 HH47 => ?_)
          clear HH46
          refine L_end (t_norm (hKK43 _ _ ?_))
          refine c_yes HH47 rfl ?_
          refine wp_seq_k fun KK48 hKK48 => ?_
          obtain ⟨b2, o2, e2, ca2⟩ := RdI.some (RdI.old hrp SS29.p2) (by omega)
          have ci2 := ca2 i (by omega)
          refine wp_region_lit ?_
          refine LG_val (want0 rfl) rfl rfl HH47 (Y_mov HH47 rfl rfl) (fun aa49 HH49 => ?_)
          clear HH47
          refine LG_val (want0 rfl) rfl rfl HH49 (Y_mov HH49 rfl rfl) (fun aa50 HH50 => ?_)
          clear HH49
          refine LG_val (want0 rfl) rfl rfl HH50 (Y_idxE (q := o2 + i) HH50 rfl ty_ints rfl e2 rfl (by omega) (by omega) (by simp)) (fun aa51 HH51 => ?_)
          clear HH50
          refine LG_val (want0 rfl) rfl rfl HH51 (Y_load HH51 rfl (by kernel_rfl) rfl ci2) (fun aa52 HH52 => ?_)
          clear HH51
          refine LG_val (want0 rfl) rfl rfl HH52 (Y_mov HH52 rfl rfl) (fun aa53 HH53 => ?_)
          clear HH52
          refine LG_val (want0 rfl) rfl rfl HH53 (Y_lenS HH53 rfl (by kernel_rfl) rfl) (fun aa54 HH54 => ?_)
          clear HH53
          refine LG_val (want0 rfl) rfl rfl HH54 (Y_add HH54 rfl rfl rfl (IntWalk.i64_in _ (by omega))) (fun aa55 HH55 => ?_)
          clear HH54
          refine LG_call (want0 rfl) rfl rfl rfl Try.func17 (by kernel_rfl) rfl HH55 (within_ok (places.getD i 0) ((rs.length : Int) + 2) (by omega)) rfl ?_
          rintro e ww56 ⟨rfl, rfl⟩
          have hk0 := within_lo (places.getD i 0) ((rs.length : Int) + 2)
          have hk4 := within_hi (places.getD i 0) ((rs.length : Int) + 2) (by omega)
          obtain ⟨k9, hk9⟩ : ∃ k, within (places.getD i 0) ((rs.length : Int) + 2) = k := ⟨_, rfl⟩
          rw [hk9] at hk0 hk4 ⊢
          refine ⟨_, rfl, fun aa56 HH56 => ?_⟩
          clear HH55
          refine LG_val (want0 rfl) rfl rfl HH56 (Y_sub HH56 rfl rfl rfl (IntWalk.i64_in _ (by omega))) (fun aa57 HH57 => ?_)
          clear HH56
          refine LG_val (want0 rfl) rfl rfl HH57 (Y_asg HH57 rfl rfl) (fun aa58 HH58 => ?_)
          clear HH57
          refine L_end (t_norm (hKK48 _ _ ?_))
          refine wp_seq_k fun KK59 hKK59 => ?_
          refine wp_region_lit ?_
          refine LG_val (want0 rfl) rfl rfl HH58 (Y_mov HH58 rfl rfl) (fun aa60 HH60 => ?_)
          clear HH58
          refine LG_val (want0 rfl) rfl rfl HH60 (Y_mov HH60 rfl rfl) (fun aa61 HH61 => ?_)
          clear HH60
          refine LG_val (want0 rfl) rfl rfl HH61 (Y_idxE (q := o2 + i) HH61 rfl ty_ints rfl e2 rfl (by omega) (by omega) (by simp)) (fun aa62 HH62 => ?_)
          clear HH61
          refine LG_val (want0 rfl) rfl rfl HH62 (Y_load HH62 rfl (by kernel_rfl) rfl ci2) (fun aa63 HH63 => ?_)
          clear HH62
          refine LG_val (want0 rfl) rfl rfl HH63 (Y_rem HH63 rfl rfl rfl (by omega) (rfl)) (fun aa64 HH64 => ?_)
          clear HH63
          by_cases h13 : (places.getD i 0).tmod 13 = 12
          ·
            refine LG_val (want0 rfl) rfl rfl HH64 (Y_yes (Y_eql HH64 rfl rfl rfl) (h13)) (fun aa65 HH65 => ?_)
            clear HH64
            refine L_end (t_norm (hKK59 _ _ ?_))
            refine c_yes HH65 rfl ?_
            refine wp_region_lit ?_
            refine LG_val (want0 rfl) rfl rfl HH65 (Y_mov HH65 rfl rfl) (fun aa66 HH66 => ?_)
            clear HH65
            refine LG_val (want0 rfl) rfl rfl HH66 (Y_mov HH66 rfl rfl) (fun aa67 HH67 => ?_)
            clear HH66
            refine LG_val (want0 rfl) rfl rfl HH67 (Y_idxE (q := o2 + i) HH67 rfl ty_ints rfl e2 rfl (by omega) (by omega) (by simp)) (fun aa68 HH68 => ?_)
            clear HH67
            refine LG_val (want0 rfl) rfl rfl HH68 (Y_load HH68 rfl (by kernel_rfl) rfl ci2) (fun aa69 HH69 => ?_)
            clear HH68
            refine LG_val (want0 rfl) rfl rfl HH69 (Y_asg HH69 rfl rfl) (fun aa70 HH70 => ?_)
            clear HH69
            refine L_end (t_norm ?_)
            exact ⟨_, HH70.sub rfl, SS29.p2.p2.p2.t3⟩
          ·
            refine LG_val (want0 rfl) rfl rfl HH64 (Y_no (Y_eql HH64 rfl rfl rfl) (h13)) (fun aa71 HH71 => ?_)
            clear HH64
            refine L_end (t_norm (hKK59 _ _ ?_))
            refine c_no HH71 rfl ?_
            refine wp_skip (t_norm ?_)
            exact ⟨_, HH71.sub rfl, SS29.p2.p2.p2.t3⟩
        ·
          refine LG_val (want0 rfl) rfl rfl HH46 (Y_no (Y_lss HH46 rfl rfl rfl) (hpl)) (fun aa72 HH72 => ?_)
          clear HH46
          refine L_end (t_norm (hKK43 _ _ ?_))
          refine c_no HH72 rfl ?_
          refine wp_skip (t_norm ?_)
          exact ⟨_, HH72.sub rfl, SS29.p2.p2.p2.t3⟩
      clear HH42
      clear SS29
      rintro aa73 ww73 ⟨at0, HH73, SS73⟩
      refine c_cut (fun a wx => ∃ b : Bool, Fr a 208 [(0, VI r), (1, .slice a1 acts.length c1), (2, .slice a2 places.length c2), (3, .slice a3 data.length c3), (8, VB false), (9, VP q 0), (10, .slice ar rs.length cr), (11, VI i), (12, VI at0), (13, VB b)] ∧ (b = true → ∃ i2 : Nat, at0 = i2 ∧ i2 < rs.length) ∧ (b = false → at0 < 0 ∨ (rs.length : Int) ≤ at0) ∧ Sat wx [PkR (.slice ar rs.length cr) (.slice a3 data.length c3) rs, LRep q R rs, Old w]) ?_ ?_
      ·
        refine wp_region_lit ?_
        refine LG_val (want0 rfl) rfl rfl HH73 (Y_mov HH73 rfl rfl) (fun aa74 HH74 => ?_)
        clear HH73
        by_cases ha0 : 0 ≤ at0
        ·
          refine LG_val (want0 rfl) rfl rfl HH74 (Y_yes (Y_geq HH74 rfl rfl rfl) (ha0)) (fun aa75 HH75 => ?_)
          clear HH74
          refine LG_val (want0 rfl) rfl rfl HH75 (Y_mov HH75 rfl rfl) (fun aa76 HH76 => ?_)
          clear HH75
          refine LG_val (HH76.want rfl rfl rfl) rfl rfl HH76 (Y_mov HH76 rfl rfl) (fun aa77 HH77 => ?_)
          clear HH76
          refine LG_val (HH77.want rfl rfl rfl) rfl rfl HH77 (Y_mov HH77 rfl rfl) (fun aa78 HH78 => ?_)
          clear HH77
          refine LG_val (HH78.want rfl rfl rfl) rfl rfl HH78 (Y_lenS HH78 rfl (by kernel_rfl) rfl) (fun aa79 HH79 => ?_)
          clear HH78
          by_cases ha1 : at0 < (rs.length : Int)
          ·
            refine LG_val (HH79.want rfl rfl rfl) rfl rfl HH79 (Y_yes (Y_lss HH79 rfl rfl rfl) (ha1)) (fun aa80 HH80 => ?_)
            clear HH79
            refine LG_val (want0 rfl) rfl rfl HH80 (Y_pickT HH80 rfl rfl rfl) (fun aa81 HH81 => ?_)
            clear HH80
            refine LG_val (want0 rfl) rfl rfl HH81 (Y_asg HH81 rfl rfl) (fun aa82 HH82 => ?_)
            clear HH81
            refine L_end (t_norm ?_)
            exact ⟨true, HH82.sub rfl, (fun _ => ⟨at0.toNat, by omega, by omega⟩), (fun h => by cases h), SS73.p2.p2.p2.t3⟩
          ·
            refine LG_val (HH79.want rfl rfl rfl) rfl rfl HH79 (Y_no (Y_lss HH79 rfl rfl rfl) (ha1)) (fun aa83 HH83 => ?_)
            clear HH79
            refine LG_val (want0 rfl) rfl rfl HH83 (Y_pickT HH83 rfl rfl rfl) (fun aa84 HH84 => ?_)
            clear HH83
            refine LG_val (want0 rfl) rfl rfl HH84 (Y_asg HH84 rfl rfl) (fun aa85 HH85 => ?_)
            clear HH84
            refine L_end (t_norm ?_)
            exact ⟨false, HH85.sub rfl, (fun h => by cases h), (fun _ => by omega), SS73.p2.p2.p2.t3⟩
        ·
          refine LG_val (want0 rfl) rfl rfl HH74 (Y_no (Y_geq HH74 rfl rfl rfl) (ha0)) (fun aa86 HH86 => ?_)
          clear HH74
          refine LG_val (want0 rfl) rfl rfl HH86 (Y_mov HH86 rfl rfl) (fun aa87 HH87 => ?_)
          clear HH86
          refine LG_skip (HH87.unwant rfl rfl rfl rfl) rfl rfl HH87 (fun aa88 HH88 => ?_)
          clear HH87
          refine LG_skip (HH88.unwant rfl rfl rfl rfl) rfl rfl HH88 (fun aa89 HH89 => ?_)
          clear HH88
          refine LG_skip (HH89.unwant rfl rfl rfl rfl) rfl rfl HH89 (fun aa90 HH90 => ?_)
          clear HH89
          by_cases ha1 : at0 < (rs.length : Int)
          ·
            refine LG_skip (HH90.unwant rfl rfl rfl rfl) rfl rfl HH90 (fun aa91 HH91 => ?_)
            clear HH90
            refine LG_val (want0 rfl) rfl rfl HH91 (Y_pickF HH91 rfl rfl rfl) (fun aa92 HH92 => ?_)
            clear HH91
            refine LG_val (want0 rfl) rfl rfl HH92 (Y_asg HH92 rfl rfl) (fun aa93 HH93 => ?_)
            clear HH92
            refine L_end (t_norm ?_)
            exact ⟨false, HH93.sub rfl, (fun h => by cases h), (fun _ => by omega), SS73.p2.p2.p2.t3⟩
          ·
            refine LG_skip (HH90.unwant rfl rfl rfl rfl) rfl rfl HH90 (fun aa94 HH94 => ?_)
            clear HH90
            refine LG_val (want0 rfl) rfl rfl HH94 (Y_pickF HH94 rfl rfl rfl) (fun aa95 HH95 => ?_)
            clear HH94
            refine LG_val (want0 rfl) rfl rfl HH95 (Y_asg HH95 rfl rfl) (fun aa96 HH96 => ?_)
            clear HH95
            refine L_end (t_norm ?_)
            exact ⟨false, HH96.sub rfl, (fun h => by cases h), (fun _ => by omega), SS73.p2.p2.p2.t3⟩
      clear HH73
      clear SS73
      rintro aa97 ww97 ⟨b, HH97, hT, hF, SS97⟩
      refine c_cut (fun a wx => ∃ (rs : List Pkt) (ar : Option Addr) (cr : Nat), Fr a 208 [(0, VI r), (1, .slice a1 acts.length c1), (2, .slice a2 places.length c2), (3, .slice a3 data.length c3), (8, VB false), (9, VP q 0), (10, .slice ar rs.length cr), (11, VI i)] ∧ rs.length ≤ i + 1 ∧ (∀ p ∈ rs, p.data = data) ∧ Sat wx [PkR (.slice ar rs.length cr) (.slice a3 data.length c3) rs, LRep q R rs, Old w]) ?_ ?_
      ·
        refine wp_seq_k fun KK98 hKK98 => ?_
        obtain ⟨b1, o1, e1, ca⟩ := RdI.some (RdI.old hra SS97.p2) (by omega)
        have ci := ca i (by omega)
        refine wp_region_lit ?_
        refine LG_val (want0 rfl) rfl rfl HH97 (Y_mov HH97 rfl rfl) (fun aa99 HH99 => ?_)
        clear HH97
        refine LG_val (want0 rfl) rfl rfl HH99 (Y_mov HH99 rfl rfl) (fun aa100 HH100 => ?_)
        clear HH99
        refine LG_val (want0 rfl) rfl rfl HH100 (Y_idxE (q := o1 + i) HH100 rfl ty_ints rfl e1 rfl (by omega) (by omega) (by simp)) (fun aa101 HH101 => ?_)
        clear HH100
        refine LG_val (want0 rfl) rfl rfl HH101 (Y_load HH101 rfl (by kernel_rfl) rfl ci) (fun aa102 HH102 => ?_)
        clear HH101
        refine LG_call (want0 rfl) rfl rfl rfl Try.func17 (by kernel_rfl) rfl HH102 (within_ok (acts.getD i 0) (4) (by omega)) rfl ?_
        rintro e ww103 ⟨rfl, rfl⟩
        have hk0 := within_lo (acts.getD i 0) 4
        have hk4 := within_hi (acts.getD i 0) 4 (by omega)
        obtain ⟨k, hk⟩ : ∃ k, within (acts.getD i 0) 4 = k := ⟨_, rfl⟩
        rw [hk] at hk0 hk4 ⊢
        refine ⟨_, rfl, fun aa103 HH103 => ?_⟩
        clear HH102
        refine L_end (t_norm (hKK98 _ _ ?_))
        refine wp_block ?_
        refine wp_seq_k fun KK104 hKK104 => ?_
        refine wp_seq_k fun KK105 hKK105 => ?_
        refine wp_region_lit ?_
        by_cases h0 : k = 0
        ·
          refine LG_val (want0 rfl) rfl rfl HH103 (Y_yes (Y_eql HH103 rfl rfl rfl) (h0)) (fun aa106 HH106 => ?_)
          clear HH103
          refine LG_val (want0 rfl) rfl rfl HH106 (Y_asg HH106 rfl rfl) (fun aa107 HH107 => ?_)
          clear HH106
          refine L_end (t_norm (hKK105 _ _ ?_))
          refine c_yes HH107 rfl ?_
          refine wp_skip (t_norm (hKK104 _ _ ?_))
          refine c_yes HH107 rfl ?_
          refine wp_seq_k fun KK108 hKK108 => ?_
          refine wp_region_lit ?_
          refine LG_val (want0 rfl) rfl rfl HH107 (Y_mov HH107 rfl rfl) (fun aa109 HH109 => ?_)
          clear HH107
          refine LG_call (want0 rfl) rfl rfl rfl Try.func19 (by kernel_rfl) rfl HH109 (copy_ok (RdI.old hrd SS97.p2) (by omega) SS97) rfl ?_
          rintro e ww110 ⟨x0, rfl, SS110, _⟩
          obtain ⟨a4, c4, rfl, _, _⟩ := Ints.val SS110
          refine ⟨_, rfl, fun aa110 HH110 => ?_⟩
          clear HH109
          clear SS97
          refine LG_val (want0 rfl) rfl rfl HH110 (Y_asg HH110 rfl rfl) (fun aa111 HH111 => ?_)
          clear HH110
          refine L_end (t_norm (hKK108 _ _ ?_))
          refine wp_seq_k fun KK112 hKK112 => ?_
          refine wp_region_lit ?_
          refine LG_val (want0 rfl) rfl rfl HH111 (Y_mov HH111 rfl rfl) (fun aa113 HH113 => ?_)
          clear HH111
          refine LG_val (want0 rfl) rfl rfl HH113 (Y_rem (r := (i : Int) % 9) HH113 rfl rfl rfl (by omega) (Int.tmod_eq_emod_of_nonneg (by omega))) (fun aa114 HH114 => ?_)
          clear HH113
          refine LG_val (want0 rfl) rfl rfl HH114 (Y_add HH114 rfl rfl rfl (IntWalk.i64_in _ (by omega))) (fun aa115 HH115 => ?_)
          clear HH114
          refine LG_val (want0 rfl) rfl rfl HH115 (Y_mov HH115 rfl rfl) (fun aa116 HH116 => ?_)
          clear HH115
          refine LG_val (want0 rfl) rfl rfl HH116 (Y_mov HH116 rfl rfl) (fun aa117 HH117 => ?_)
          clear HH116
          refine LG_val (want0 rfl) rfl rfl HH117 (Y_build (cs := Pkt.cells ⟨1 + (i : Int) % 9, 0, 0, i, 0, 0, 0, false, data⟩ (.slice a4 data.length c4)) HH117 rfl st_api_Packet rfl rfl) (fun aa118 HH118 => ?_)
          clear HH117
          refine LG_do (want0 rfl) rfl rfl HH118 (M_alloc HH118 rfl st_api_Packet.zero SS110) ?_
          rintro _ ww119 ⟨b15, rfl, SS119, _⟩ aa119 HH119
          clear HH118
          clear SS110
          refine LG_do0 (want0 rfl) rfl HH119 (M_storeS HH119 rfl rfl rfl SS119 st_api_Packet.size rfl rfl (by simp [Value.oneCell'])) ?_
          rintro _ ww120 ⟨SS120, _⟩ aa120 HH120
          clear HH119
          clear SS119
          refine L_end (t_norm (hKK112 _ _ ?_))
          refine wp_seq_k fun KK121 hKK121 => ?_
          refine wp_region_lit ?_
          refine LG_val (want0 rfl) rfl rfl HH120 (Y_asg HH120 rfl rfl) (fun aa122 HH122 => ?_)
          clear HH120
          refine L_end (t_norm (hKK121 _ _ ?_))
          refine wp_seq_k fun KK123 hKK123 => ?_
          refine wp_seq_k fun KK124 hKK124 => ?_
          refine wp_region_lit ?_
          refine LG_val (want0 rfl) rfl rfl HH122 (Y_mov HH122 rfl rfl) (fun aa125 HH125 => ?_)
          clear HH122
          refine LG_val (want0 rfl) rfl rfl HH125 (Y_lenS HH125 rfl (by kernel_rfl) rfl) (fun aa126 HH126 => ?_)
          clear HH125
          refine LG_val (want0 rfl) rfl rfl HH126 (Y_mov HH126 rfl rfl) (fun aa127 HH127 => ?_)
          clear HH126
          refine LG_val (want0 rfl) rfl rfl HH127 (Y_max HH127 rfl rfl rfl (rfl)) (fun aa128 HH128 => ?_)
          clear HH127
          by_cases hfull : max r 0 ≤ (rs.length : Int)
          ·
            refine LG_val (want0 rfl) rfl rfl HH128 (Y_yes (Y_geq HH128 rfl rfl rfl) (hfull)) (fun aa129 HH129 => ?_)
            clear HH128
            refine L_end (t_norm (hKK124 _ _ ?_))
            refine c_yes HH129 rfl ?_
            refine wp_region_lit ?_
            refine LG_val (want0 rfl) rfl rfl HH129 (Y_asg HH129 rfl rfl) (fun aa130 HH130 => ?_)
            clear HH129
            refine L_end (t_norm (hKK123 _ _ ?_))
            refine wp_seq_k fun KK131 hKK131 => ?_
            refine wp_seq_k fun KK132 hKK132 => ?_
            refine wp_region_lit ?_
            refine LG_val (want0 rfl) rfl rfl HH130 (Y_mov HH130 rfl rfl) (fun aa133 HH133 => ?_)
            clear HH130
            refine LG_val (want0 rfl) rfl rfl HH133 (Y_loadS HH133 rfl rfl SS120 st_api_Packet.und st_api_Packet.size) (fun aa134 HH134 => ?_)
            clear HH133
            have hok := (LRep.open.1 SS120.p3).1.2.1
            refine LG_call (want0 rfl) rfl rfl rfl Try.func30 (by kernel_rfl) rfl HH134 (lput_full SS120.p3 ⟨1 + (i : Int) % 9, 0, 0, i, 0, 0, 0, false, data⟩ _ (by omega)) rfl ?_
            rintro e ww135 ⟨rfl, SS135, _⟩
            refine ⟨_, rfl, fun aa135 HH135 => ?_⟩
            clear HH134
            clear SS120
            refine LG_val (want0 rfl) rfl rfl HH135 (Y_mov HH135 rfl rfl) (fun aa136 HH136 => ?_)
            clear HH135
            refine LG_val (want0 rfl) rfl rfl HH136 (Y_no (Y_neq HH136 rfl rfl rfl) (by simp)) (fun aa137 HH137 => ?_)
            clear HH136
            refine L_end (t_norm (hKK132 _ _ ?_))
            refine c_no HH137 rfl ?_
            refine wp_skip (t_norm (hKK131 _ _ ?_))
            refine wp_seq_k fun KK138 hKK138 => ?_
            refine wp_region_lit ?_
            refine LG_val (want0 rfl) rfl rfl HH137 (Y_mov HH137 rfl rfl) (fun aa139 HH139 => ?_)
            clear HH137
            refine LG_val (want0 rfl) rfl rfl HH139 (Y_lenS HH139 rfl (by kernel_rfl) rfl) (fun aa140 HH140 => ?_)
            clear HH139
            refine LG_val (want0 rfl) rfl rfl HH140 (Y_mov HH140 rfl rfl) (fun aa141 HH141 => ?_)
            clear HH140
            refine L_end (t_norm (hKK138 _ _ ?_))
            refine wp_block ?_
            refine c_loop (σ := Nat) (fun (j : Nat) a wx => ∃ ys : List Int, Fr a 208 [(0, VI r), (1, .slice a1 acts.length c1), (2, .slice a2 places.length c2), (3, .slice a3 data.length c3), (8, VB false), (9, VP q 0), (10, .slice ar rs.length cr), (11, VI i), (14, .slice a4 data.length c4), (151, VI data.length), (152, VI j)] ∧ j ≤ data.length ∧ ys.length = data.length ∧ Sat wx [Ints (.slice a4 data.length c4) ys, LRep q R rs, PkR (.slice ar rs.length cr) (.slice a3 data.length c3) rs, Old w]) (fun j => data.length - j) (0) ?_ ?_
            · exact ⟨data, HH141.sub rfl, Nat.zero_le _, rfl, SS135.p4.p4.p2.p4.t4⟩
            clear HH141
            clear SS135
            rintro j aa142 ww142 ⟨ys, HH142, hj, hys, SS142⟩
            refine wp_seq_k fun KK143 hKK143 => ?_
            refine wp_region_lit ?_
            by_cases hjl : (j : Int) < (data.length : Int)
            ·
              refine LG_val (want0 rfl) rfl rfl HH142 (Y_yes (Y_lss HH142 rfl rfl rfl) (hjl)) (fun aa144 HH144 => ?_)
              clear HH142
              refine L_end (t_norm (hKK143 _ _ ?_))
              refine wp_seq_k fun KK145 hKK145 => ?_
              refine c_yes HH144 rfl ?_
              refine wp_skip (t_norm (hKK145 _ _ ?_))
              refine wp_seq_k fun KK146 hKK146 => ?_
              refine wp_block ?_
              refine wp_seq_k fun KK147 hKK147 => ?_
              refine wp_region_lit ?_
              refine LG_val (want0 rfl) rfl rfl HH144 (Y_mov HH144 rfl rfl) (fun aa148 HH148 => ?_)
              clear HH144
              refine LG_val (want0 rfl) rfl rfl HH148 (Y_asg HH148 rfl rfl) (fun aa149 HH149 => ?_)
              clear HH148
              refine L_end (t_norm (hKK147 _ _ ?_))
              obtain ⟨b5, o5, e5⟩ := Ints.some SS142 hys (by omega)
              have cj := Ints.atE e5 hys SS142 j (by omega)
              refine wp_region_lit ?_
              refine LG_val (want0 rfl) rfl rfl HH149 (Y_mov HH149 rfl rfl) (fun aa150 HH150 => ?_)
              clear HH149
              refine LG_val (want0 rfl) rfl rfl HH150 (Y_mov HH150 rfl rfl) (fun aa151 HH151 => ?_)
              clear HH150
              refine LG_val (want0 rfl) rfl rfl HH151 (Y_idxE (q := o5 + j) HH151 rfl ty_ints rfl e5 rfl (by omega) (by omega) (by simp)) (fun aa152 HH152 => ?_)
              clear HH151
              refine LG_val (want0 rfl) rfl rfl HH152 (Y_load HH152 rfl (by kernel_rfl) rfl cj) (fun aa153 HH153 => ?_)
              clear HH152
              refine LG_val (want0 rfl) rfl rfl HH153 (Y_xor HH153 rfl rfl rfl (rfl)) (fun aa154 HH154 => ?_)
              clear HH153
              refine LG_val (want0 rfl) rfl rfl HH154 (Y_idxE (q := o5 + j) HH154 rfl ty_ints rfl e5 rfl (by omega) (by omega) (by simp)) (fun aa155 HH155 => ?_)
              clear HH154
              refine LG_do0 (want0 rfl) rfl HH155 (M_storeI HH155 rfl j rfl rfl e5 SS142 hys (by omega)) ?_
              rintro _ ww156 SS156 aa156 HH156
              clear HH155
              clear SS142
              refine L_end (b_norm (t_norm (hKK146 _ _ ?_)))
              refine wp_region_lit ?_
              refine LG_val (want0 rfl) rfl rfl HH156 (Y_add HH156 rfl rfl rfl (IntWalk.i64_in _ (by omega))) (fun aa157 HH157 => ?_)
              clear HH156
              refine LG_val (want0 rfl) rfl rfl HH157 (Y_mov HH157 rfl rfl) (fun aa158 HH158 => ?_)
              clear HH157
              refine L_end (t_norm ?_)
              exact ⟨j + 1, ⟨_, HH158.sub rfl, by omega, (by rw [List.length_set]; exact hys), SS156.p3.p3.p3.p3.t4⟩, by first | omega | (dsimp only; omega)⟩
            ·
              refine LG_val (want0 rfl) rfl rfl HH142 (Y_no (Y_lss HH142 rfl rfl rfl) (hjl)) (fun aa159 HH159 => ?_)
              clear HH142
              refine L_end (t_norm (hKK143 _ _ ?_))
              refine wp_seq_k fun KK160 hKK160 => ?_
              refine c_no HH159 rfl ?_
              refine wp_exit (t_exit (t_exit (b_exit (b_norm (t_norm ?_)))))
              exact ⟨rs, ar, cr, HH159.sub rfl, by omega, hdata, SS142.p3.p2.p3.t3⟩
          ·
            refine LG_val (want0 rfl) rfl rfl HH128 (Y_no (Y_geq HH128 rfl rfl rfl) (hfull)) (fun aa161 HH161 => ?_)
            clear HH128
            refine L_end (t_norm (hKK124 _ _ ?_))
            refine c_no HH161 rfl ?_
            refine wp_region_lit ?_
            refine LG_val (want0 rfl) rfl rfl HH161 (Y_mov HH161 rfl rfl) (fun aa162 HH162 => ?_)
            clear HH161
            refine LG_val (want0 rfl) rfl rfl HH162 (Y_mov HH162 rfl rfl) (fun aa163 HH163 => ?_)
            clear HH162
            refine LG_val (want0 rfl) rfl rfl HH163 (Y_rem (r := (i : Int) % 9) HH163 rfl rfl rfl (by omega) (Int.tmod_eq_emod_of_nonneg (by omega))) (fun aa164 HH164 => ?_)
            clear HH163
            refine LG_val (want0 rfl) rfl rfl HH164 (Y_add HH164 rfl rfl rfl (IntWalk.i64_in _ (by omega))) (fun aa165 HH165 => ?_)
            clear HH164
            refine LG_val (want0 rfl) rfl rfl HH165 (Y_mov HH165 rfl rfl) (fun aa166 HH166 => ?_)
            clear HH165
            refine LG_val (want0 rfl) rfl rfl HH166 (Y_mov HH166 rfl rfl) (fun aa167 HH167 => ?_)
            clear HH166
            refine LG_val (want0 rfl) rfl rfl HH167 (Y_build (cs := Pkt.cells ⟨1 + (i : Int) % 9, 0, 0, i, 0, 0, 0, false, data⟩ (.slice a3 data.length c3)) HH167 rfl st_api_Packet rfl rfl) (fun aa168 HH168 => ?_)
            clear HH167
            refine LG_do (want0 rfl) rfl rfl HH168 (M_buildSlice (cs := Pkt.cells ⟨1 + (i : Int) % 9, 0, 0, i, 0, 0, 0, false, data⟩ (.slice a3 data.length c3)) HH168 rfl ty_pkts rfl rfl rfl (by simp [Value.cells]) rfl SS120) ?_
            rintro _ ww169 ⟨b143, rfl, SS169, _⟩ aa169 HH169
            clear HH168
            clear SS120
            refine LG_do (want0 rfl) rfl rfl HH169 (M_appR (p := ⟨1 + (i : Int) % 9, 0, 0, i, 0, 0, 0, false, data⟩) (d := .slice a3 data.length c3) HH169 rfl rfl rfl SS169.p3.p1 (one_pkt _ _ _ _) (by omega)) ?_
            rintro _ ww170 ⟨a5, c5, rfl, SS170⟩ aa170 HH170
            clear HH169
            clear SS169
            refine LG_val (want0 rfl) rfl rfl HH170 (Y_asg HH170 rfl rfl) (fun aa171 HH171 => ?_)
            clear HH170
            refine L_end (t_norm (hKK123 _ _ ?_))
            refine wp_seq_k fun KK172 hKK172 => ?_
            refine wp_seq_k fun KK173 hKK173 => ?_
            refine wp_region_lit ?_
            refine LG_val (want0 rfl) rfl rfl HH171 (Y_mov HH171 rfl rfl) (fun aa174 HH174 => ?_)
            clear HH171
            refine LG_val (want0 rfl) rfl rfl HH174 (Y_loadS HH174 rfl rfl SS170.p1 st_api_Packet.und st_api_Packet.size) (fun aa175 HH175 => ?_)
            clear HH174
            refine LG_call (want0 rfl) rfl rfl rfl Try.func30 (by kernel_rfl) rfl HH175 (lput_room SS170.p3 ⟨1 + (i : Int) % 9, 0, 0, i, 0, 0, 0, false, data⟩ _ (Ints.rd SS170.p2) hb (by omega)) rfl ?_
            rintro e ww176 ⟨rfl, SS176, _⟩
            refine ⟨_, rfl, fun aa176 HH176 => ?_⟩
            clear HH175
            clear SS170
            refine LG_val (want0 rfl) rfl rfl HH176 (Y_mov HH176 rfl rfl) (fun aa177 HH177 => ?_)
            clear HH176
            refine LG_val (want0 rfl) rfl rfl HH177 (Y_no (Y_neq HH177 rfl rfl rfl) (by simp)) (fun aa178 HH178 => ?_)
            clear HH177
            refine L_end (t_norm (hKK173 _ _ ?_))
            refine c_no HH178 rfl ?_
            refine wp_skip (t_norm (hKK172 _ _ ?_))
            refine wp_seq_k fun KK179 hKK179 => ?_
            refine wp_region_lit ?_
            refine LG_val (want0 rfl) rfl rfl HH178 (Y_mov HH178 rfl rfl) (fun aa180 HH180 => ?_)
            clear HH178
            refine LG_val (want0 rfl) rfl rfl HH180 (Y_lenS HH180 rfl (by kernel_rfl) rfl) (fun aa181 HH181 => ?_)
            clear HH180
            refine LG_val (want0 rfl) rfl rfl HH181 (Y_mov HH181 rfl rfl) (fun aa182 HH182 => ?_)
            clear HH181
            refine L_end (t_norm (hKK179 _ _ ?_))
            refine wp_block ?_
            refine c_loop (σ := Nat) (fun (j : Nat) a wx => ∃ ys : List Int, Fr a 208 [(0, VI r), (1, .slice a1 acts.length c1), (2, .slice a2 places.length c2), (3, .slice a3 data.length c3), (8, VB false), (9, VP q 0), (10, .slice a5 (rs ++ [(⟨1 + (i : Int) % 9, 0, 0, i, 0, 0, 0, false, data⟩ : Pkt)]).length c5), (11, VI i), (14, .slice a4 data.length c4), (151, VI data.length), (152, VI j)] ∧ j ≤ data.length ∧ ys.length = data.length ∧ Sat wx [Ints (.slice a4 data.length c4) ys, LRep q R (rs ++ [(⟨1 + (i : Int) % 9, 0, 0, i, 0, 0, 0, false, data⟩ : Pkt)]), PkR (.slice a5 (rs ++ [(⟨1 + (i : Int) % 9, 0, 0, i, 0, 0, 0, false, data⟩ : Pkt)]).length c5) (.slice a3 data.length c3) (rs ++ [(⟨1 + (i : Int) % 9, 0, 0, i, 0, 0, 0, false, data⟩ : Pkt)]), Old w]) (fun j => data.length - j) (0) ?_ ?_
            · exact ⟨data, HH182.sub rfl, Nat.zero_le _, rfl, SS176.p4.p2.p2.p4.t4⟩
            clear HH182
            clear SS176
            rintro j aa183 ww183 ⟨ys, HH183, hj, hys, SS183⟩
            refine wp_seq_k fun KK184 hKK184 => ?_
            refine wp_region_lit ?_
            by_cases hjl : (j : Int) < (data.length : Int)
            ·
              refine LG_val (want0 rfl) rfl rfl HH183 (Y_yes (Y_lss HH183 rfl rfl rfl) (hjl)) (fun aa185 HH185 => ?_)
              clear HH183
              refine L_end (t_norm (hKK184 _ _ ?_))
              refine wp_seq_k fun KK186 hKK186 => ?_
              refine c_yes HH185 rfl ?_
              refine wp_skip (t_norm (hKK186 _ _ ?_))
              refine wp_seq_k fun KK187 hKK187 => ?_
              refine wp_block ?_
              refine wp_seq_k fun KK188 hKK188 => ?_
              refine wp_region_lit ?_
              refine LG_val (want0 rfl) rfl rfl HH185 (Y_mov HH185 rfl rfl) (fun aa189 HH189 => ?_)
              clear HH185
              refine LG_val (want0 rfl) rfl rfl HH189 (Y_asg HH189 rfl rfl) (fun aa190 HH190 => ?_)
              clear HH189
              refine L_end (t_norm (hKK188 _ _ ?_))
              obtain ⟨b5, o5, e5⟩ := Ints.some SS183 hys (by omega)
              have cj := Ints.atE e5 hys SS183 j (by omega)
              refine wp_region_lit ?_
              refine LG_val (want0 rfl) rfl rfl HH190 (Y_mov HH190 rfl rfl) (fun aa191 HH191 => ?_)
              clear HH190
              refine LG_val (want0 rfl) rfl rfl HH191 (Y_mov HH191 rfl rfl) (fun aa192 HH192 => ?_)
              clear HH191
              refine LG_val (want0 rfl) rfl rfl HH192 (Y_idxE (q := o5 + j) HH192 rfl ty_ints rfl e5 rfl (by omega) (by omega) (by simp)) (fun aa193 HH193 => ?_)
              clear HH192
              refine LG_val (want0 rfl) rfl rfl HH193 (Y_load HH193 rfl (by kernel_rfl) rfl cj) (fun aa194 HH194 => ?_)
              clear HH193
              refine LG_val (want0 rfl) rfl rfl HH194 (Y_xor HH194 rfl rfl rfl (rfl)) (fun aa195 HH195 => ?_)
              clear HH194
              refine LG_val (want0 rfl) rfl rfl HH195 (Y_idxE (q := o5 + j) HH195 rfl ty_ints rfl e5 rfl (by omega) (by omega) (by simp)) (fun aa196 HH196 => ?_)
              clear HH195
              refine LG_do0 (want0 rfl) rfl HH196 (M_storeI HH196 rfl j rfl rfl e5 SS183 hys (by omega)) ?_
              rintro _ ww197 SS197 aa197 HH197
              clear HH196
              clear SS183
              refine L_end (b_norm (t_norm (hKK187 _ _ ?_)))
              refine wp_region_lit ?_
              refine LG_val (want0 rfl) rfl rfl HH197 (Y_add HH197 rfl rfl rfl (IntWalk.i64_in _ (by omega))) (fun aa198 HH198 => ?_)
              clear HH197
              refine LG_val (want0 rfl) rfl rfl HH198 (Y_mov HH198 rfl rfl) (fun aa199 HH199 => ?_)
              clear HH198
              refine L_end (t_norm ?_)
              exact ⟨j + 1, ⟨_, HH199.sub rfl, by omega, (by rw [List.length_set]; exact hys), SS197.p3.p3.p3.p3.t4⟩, by first | omega | (dsimp only; omega)⟩
            ·
              refine LG_val (want0 rfl) rfl rfl HH183 (Y_no (Y_lss HH183 rfl rfl rfl) (hjl)) (fun aa200 HH200 => ?_)
              clear HH183
              refine L_end (t_norm (hKK184 _ _ ?_))
              refine wp_seq_k fun KK201 hKK201 => ?_
              refine c_no HH200 rfl ?_
              refine wp_exit (t_exit (t_exit (b_exit (b_norm (t_norm ?_)))))
              exact ⟨(rs ++ [(⟨1 + (i : Int) % 9, 0, 0, i, 0, 0, 0, false, data⟩ : Pkt)]), a5, c5, HH200.sub rfl, by simp; omega, (by intro p hp; rcases List.mem_append.1 hp with h | h; exact hdata p h; simp at h; subst h; rfl), SS183.p3.p2.p3.t3⟩
        ·
          refine LG_val (want0 rfl) rfl rfl HH103 (Y_no (Y_eql HH103 rfl rfl rfl) (h0)) (fun aa202 HH202 => ?_)
          clear HH103
          refine LG_val (want0 rfl) rfl rfl HH202 (Y_asg HH202 rfl rfl) (fun aa203 HH203 => ?_)
          clear HH202
          refine L_end (t_norm (hKK105 _ _ ?_))
          refine c_no HH203 rfl ?_
          refine wp_region_lit ?_
          by_cases h1 : k = 1
          ·
            refine LG_val (want0 rfl) rfl rfl HH203 (Y_yes (Y_eql HH203 rfl rfl rfl) (h1)) (fun aa204 HH204 => ?_)
            clear HH203
            refine LG_val (want0 rfl) rfl rfl HH204 (Y_asg HH204 rfl rfl) (fun aa205 HH205 => ?_)
            clear HH204
            refine L_end (t_norm (hKK104 _ _ ?_))
            refine c_yes HH205 rfl ?_
            refine wp_seq_k fun KK206 hKK206 => ?_
            refine wp_region_lit ?_
            refine LG_val (want0 rfl) rfl rfl HH205 (Y_mov HH205 rfl rfl) (fun aa207 HH207 => ?_)
            clear HH205
            refine LG_call (want0 rfl) rfl rfl rfl Try.func19 (by kernel_rfl) rfl HH207 (copy_ok (RdI.old hrd SS97.p2) (by omega) SS97) rfl ?_
            rintro e ww208 ⟨x0, rfl, SS208, _⟩
            obtain ⟨a4, c4, rfl, _, _⟩ := Ints.val SS208
            refine ⟨_, rfl, fun aa208 HH208 => ?_⟩
            clear HH207
            clear SS97
            refine LG_val (want0 rfl) rfl rfl HH208 (Y_asg HH208 rfl rfl) (fun aa209 HH209 => ?_)
            clear HH208
            refine L_end (t_norm (hKK206 _ _ ?_))
            refine wp_seq_k fun KK210 hKK210 => ?_
            refine wp_region_lit ?_
            refine LG_val (want0 rfl) rfl rfl HH209 (Y_mov HH209 rfl rfl) (fun aa211 HH211 => ?_)
            clear HH209
            refine LG_val (want0 rfl) rfl rfl HH211 (Y_rem (r := (i : Int) % 9) HH211 rfl rfl rfl (by omega) (Int.tmod_eq_emod_of_nonneg (by omega))) (fun aa212 HH212 => ?_)
            clear HH211
            refine LG_val (want0 rfl) rfl rfl HH212 (Y_add HH212 rfl rfl rfl (IntWalk.i64_in _ (by omega))) (fun aa213 HH213 => ?_)
            clear HH212
            refine LG_val (want0 rfl) rfl rfl HH213 (Y_mov HH213 rfl rfl) (fun aa214 HH214 => ?_)
            clear HH213
            refine LG_val (want0 rfl) rfl rfl HH214 (Y_mov HH214 rfl rfl) (fun aa215 HH215 => ?_)
            clear HH214
            refine LG_val (want0 rfl) rfl rfl HH215 (Y_build (cs := Pkt.cells ⟨1 + (i : Int) % 9, 0, 0, i, 0, 0, 0, false, data⟩ (.slice a4 data.length c4)) HH215 rfl st_api_Packet rfl rfl) (fun aa216 HH216 => ?_)
            clear HH215
            refine LG_do (want0 rfl) rfl rfl HH216 (M_alloc HH216 rfl st_api_Packet.zero SS208) ?_
            rintro _ ww217 ⟨b15, rfl, SS217, _⟩ aa217 HH217
            clear HH216
            clear SS208
            refine LG_do0 (want0 rfl) rfl HH217 (M_storeS HH217 rfl rfl rfl SS217 st_api_Packet.size rfl rfl (by simp [Value.oneCell'])) ?_
            rintro _ ww218 ⟨SS218, _⟩ aa218 HH218
            clear HH217
            clear SS217
            refine L_end (t_norm (hKK210 _ _ ?_))
            refine wp_seq_k fun KK219 hKK219 => ?_
            refine wp_region_lit ?_
            refine LG_val (want0 rfl) rfl rfl HH218 (Y_asg HH218 rfl rfl) (fun aa220 HH220 => ?_)
            clear HH218
            refine L_end (t_norm (hKK219 _ _ ?_))
            refine wp_seq_k fun KK221 hKK221 => ?_
            refine wp_seq_k fun KK222 hKK222 => ?_
            refine wp_region_lit ?_
            refine LG_val (want0 rfl) rfl rfl HH220 (Y_mov HH220 rfl rfl) (fun aa223 HH223 => ?_)
            clear HH220
            refine LG_val (want0 rfl) rfl rfl HH223 (Y_lenS HH223 rfl (by kernel_rfl) rfl) (fun aa224 HH224 => ?_)
            clear HH223
            refine LG_val (want0 rfl) rfl rfl HH224 (Y_mov HH224 rfl rfl) (fun aa225 HH225 => ?_)
            clear HH224
            refine LG_val (want0 rfl) rfl rfl HH225 (Y_max HH225 rfl rfl rfl (rfl)) (fun aa226 HH226 => ?_)
            clear HH225
            by_cases hfull : max r 0 ≤ (rs.length : Int)
            ·
              refine LG_val (want0 rfl) rfl rfl HH226 (Y_yes (Y_geq HH226 rfl rfl rfl) (hfull)) (fun aa227 HH227 => ?_)
              clear HH226
              refine L_end (t_norm (hKK222 _ _ ?_))
              refine c_yes HH227 rfl ?_
              refine wp_region_lit ?_
              refine LG_val (want0 rfl) rfl rfl HH227 (Y_asg HH227 rfl rfl) (fun aa228 HH228 => ?_)
              clear HH227
              refine L_end (t_norm (hKK221 _ _ ?_))
              refine wp_seq_k fun KK229 hKK229 => ?_
              refine wp_seq_k fun KK230 hKK230 => ?_
              refine wp_region_lit ?_
              refine LG_val (want0 rfl) rfl rfl HH228 (Y_mov HH228 rfl rfl) (fun aa231 HH231 => ?_)
              clear HH228
              refine LG_val (want0 rfl) rfl rfl HH231 (Y_loadS HH231 rfl rfl SS218 st_api_Packet.und st_api_Packet.size) (fun aa232 HH232 => ?_)
              clear HH231
              have hok := (LRep.open.1 SS218.p3).1.2.1
              refine LG_call (want0 rfl) rfl rfl rfl Try.func30 (by kernel_rfl) rfl HH232 (lput_full SS218.p3 ⟨1 + (i : Int) % 9, 0, 0, i, 0, 0, 0, false, data⟩ _ (by omega)) rfl ?_
              rintro e ww233 ⟨rfl, SS233, _⟩
              refine ⟨_, rfl, fun aa233 HH233 => ?_⟩
              clear HH232
              clear SS218
              refine LG_val (want0 rfl) rfl rfl HH233 (Y_mov HH233 rfl rfl) (fun aa234 HH234 => ?_)
              clear HH233
              refine LG_val (want0 rfl) rfl rfl HH234 (Y_no (Y_neq HH234 rfl rfl rfl) (by simp)) (fun aa235 HH235 => ?_)
              clear HH234
              refine L_end (t_norm (hKK230 _ _ ?_))
              refine c_no HH235 rfl ?_
              refine wp_skip (t_norm (hKK229 _ _ ?_))
              refine wp_seq_k fun KK236 hKK236 => ?_
              refine wp_region_lit ?_
              refine LG_val (want0 rfl) rfl rfl HH235 (Y_mov HH235 rfl rfl) (fun aa237 HH237 => ?_)
              clear HH235
              refine LG_val (want0 rfl) rfl rfl HH237 (Y_lenS HH237 rfl (by kernel_rfl) rfl) (fun aa238 HH238 => ?_)
              clear HH237
              refine LG_val (want0 rfl) rfl rfl HH238 (Y_mov HH238 rfl rfl) (fun aa239 HH239 => ?_)
              clear HH238
              refine L_end (t_norm (hKK236 _ _ ?_))
              refine wp_block ?_
              refine c_loop (σ := Nat) (fun (j : Nat) a wx => ∃ ys : List Int, Fr a 208 [(0, VI r), (1, .slice a1 acts.length c1), (2, .slice a2 places.length c2), (3, .slice a3 data.length c3), (8, VB false), (9, VP q 0), (10, .slice ar rs.length cr), (11, VI i), (14, .slice a4 data.length c4), (151, VI data.length), (152, VI j)] ∧ j ≤ data.length ∧ ys.length = data.length ∧ Sat wx [Ints (.slice a4 data.length c4) ys, LRep q R rs, PkR (.slice ar rs.length cr) (.slice a3 data.length c3) rs, Old w]) (fun j => data.length - j) (0) ?_ ?_
              · exact ⟨data, HH239.sub rfl, Nat.zero_le _, rfl, SS233.p4.p4.p2.p4.t4⟩
              clear HH239
              clear SS233
              rintro j aa240 ww240 ⟨ys, HH240, hj, hys, SS240⟩
              refine wp_seq_k fun KK241 hKK241 => ?_
              refine wp_region_lit ?_
              by_cases hjl : (j : Int) < (data.length : Int)
              ·
                refine LG_val (want0 rfl) rfl rfl HH240 (Y_yes (Y_lss HH240 rfl rfl rfl) (hjl)) (fun aa242 HH242 => ?_)
                clear HH240
                refine L_end (t_norm (hKK241 _ _ ?_))
                refine wp_seq_k fun KK243 hKK243 => ?_
                refine c_yes HH242 rfl ?_
                refine wp_skip (t_norm (hKK243 _ _ ?_))
                refine wp_seq_k fun KK244 hKK244 => ?_
                refine wp_block ?_
                refine wp_seq_k fun KK245 hKK245 => ?_
                refine wp_region_lit ?_
                refine LG_val (want0 rfl) rfl rfl HH242 (Y_mov HH242 rfl rfl) (fun aa246 HH246 => ?_)
                clear HH242
                refine LG_val (want0 rfl) rfl rfl HH246 (Y_asg HH246 rfl rfl) (fun aa247 HH247 => ?_)
                clear HH246
                refine L_end (t_norm (hKK245 _ _ ?_))
                obtain ⟨b5, o5, e5⟩ := Ints.some SS240 hys (by omega)
                have cj := Ints.atE e5 hys SS240 j (by omega)
                refine wp_region_lit ?_
                refine LG_val (want0 rfl) rfl rfl HH247 (Y_mov HH247 rfl rfl) (fun aa248 HH248 => ?_)
                clear HH247
                refine LG_val (want0 rfl) rfl rfl HH248 (Y_mov HH248 rfl rfl) (fun aa249 HH249 => ?_)
                clear HH248
                refine LG_val (want0 rfl) rfl rfl HH249 (Y_idxE (q := o5 + j) HH249 rfl ty_ints rfl e5 rfl (by omega) (by omega) (by simp)) (fun aa250 HH250 => ?_)
                clear HH249
                refine LG_val (want0 rfl) rfl rfl HH250 (Y_load HH250 rfl (by kernel_rfl) rfl cj) (fun aa251 HH251 => ?_)
                clear HH250
                refine LG_val (want0 rfl) rfl rfl HH251 (Y_xor HH251 rfl rfl rfl (rfl)) (fun aa252 HH252 => ?_)
                clear HH251
                refine LG_val (want0 rfl) rfl rfl HH252 (Y_idxE (q := o5 + j) HH252 rfl ty_ints rfl e5 rfl (by omega) (by omega) (by simp)) (fun aa253 HH253 => ?_)
                clear HH252
                refine LG_do0 (want0 rfl) rfl HH253 (M_storeI HH253 rfl j rfl rfl e5 SS240 hys (by omega)) ?_
                rintro _ ww254 SS254 aa254 HH254
                clear HH253
                clear SS240
                refine L_end (b_norm (t_norm (hKK244 _ _ ?_)))
                refine wp_region_lit ?_
                refine LG_val (want0 rfl) rfl rfl HH254 (Y_add HH254 rfl rfl rfl (IntWalk.i64_in _ (by omega))) (fun aa255 HH255 => ?_)
                clear HH254
                refine LG_val (want0 rfl) rfl rfl HH255 (Y_mov HH255 rfl rfl) (fun aa256 HH256 => ?_)
                clear HH255
                refine L_end (t_norm ?_)
                exact ⟨j + 1, ⟨_, HH256.sub rfl, by omega, (by rw [List.length_set]; exact hys), SS254.p3.p3.p3.p3.t4⟩, by first | omega | (dsimp only; omega)⟩
              ·
                refine LG_val (want0 rfl) rfl rfl HH240 (Y_no (Y_lss HH240 rfl rfl rfl) (hjl)) (fun aa257 HH257 => ?_)
                clear HH240
                refine L_end (t_norm (hKK241 _ _ ?_))
                refine wp_seq_k fun KK258 hKK258 => ?_
                refine c_no HH257 rfl ?_
                refine wp_exit (t_exit (t_exit (b_exit (b_norm (t_norm ?_)))))
                exact ⟨rs, ar, cr, HH257.sub rfl, by omega, hdata, SS240.p3.p2.p3.t3⟩
            ·
              refine LG_val (want0 rfl) rfl rfl HH226 (Y_no (Y_geq HH226 rfl rfl rfl) (hfull)) (fun aa259 HH259 => ?_)
              clear HH226
              refine L_end (t_norm (hKK222 _ _ ?_))
              refine c_no HH259 rfl ?_
              refine wp_region_lit ?_
              refine LG_val (want0 rfl) rfl rfl HH259 (Y_mov HH259 rfl rfl) (fun aa260 HH260 => ?_)
              clear HH259
              refine LG_val (want0 rfl) rfl rfl HH260 (Y_mov HH260 rfl rfl) (fun aa261 HH261 => ?_)
              clear HH260
              refine LG_val (want0 rfl) rfl rfl HH261 (Y_rem (r := (i : Int) % 9) HH261 rfl rfl rfl (by omega) (Int.tmod_eq_emod_of_nonneg (by omega))) (fun aa262 HH262 => ?_)
              clear HH261
              refine LG_val (want0 rfl) rfl rfl HH262 (Y_add HH262 rfl rfl rfl (IntWalk.i64_in _ (by omega))) (fun aa263 HH263 => ?_)
              clear HH262
              refine LG_val (want0 rfl) rfl rfl HH263 (Y_mov HH263 rfl rfl) (fun aa264 HH264 => ?_)
              clear HH263
              refine LG_val (want0 rfl) rfl rfl HH264 (Y_mov HH264 rfl rfl) (fun aa265 HH265 => ?_)
              clear HH264
              refine LG_val (want0 rfl) rfl rfl HH265 (Y_build (cs := Pkt.cells ⟨1 + (i : Int) % 9, 0, 0, i, 0, 0, 0, false, data⟩ (.slice a3 data.length c3)) HH265 rfl st_api_Packet rfl rfl) (fun aa266 HH266 => ?_)
              clear HH265
              refine LG_do (want0 rfl) rfl rfl HH266 (M_buildSlice (cs := Pkt.cells ⟨1 + (i : Int) % 9, 0, 0, i, 0, 0, 0, false, data⟩ (.slice a3 data.length c3)) HH266 rfl ty_pkts rfl rfl rfl (by simp [Value.cells]) rfl SS218) ?_
              rintro _ ww267 ⟨b143, rfl, SS267, _⟩ aa267 HH267
              clear HH266
              clear SS218
              refine LG_do (want0 rfl) rfl rfl HH267 (M_appR (p := ⟨1 + (i : Int) % 9, 0, 0, i, 0, 0, 0, false, data⟩) (d := .slice a3 data.length c3) HH267 rfl rfl rfl SS267.p3.p1 (one_pkt _ _ _ _) (by omega)) ?_
              rintro _ ww268 ⟨a5, c5, rfl, SS268⟩ aa268 HH268
              clear HH267
              clear SS267
              refine LG_val (want0 rfl) rfl rfl HH268 (Y_asg HH268 rfl rfl) (fun aa269 HH269 => ?_)
              clear HH268
              refine L_end (t_norm (hKK221 _ _ ?_))
              refine wp_seq_k fun KK270 hKK270 => ?_
              refine wp_seq_k fun KK271 hKK271 => ?_
              refine wp_region_lit ?_
              refine LG_val (want0 rfl) rfl rfl HH269 (Y_mov HH269 rfl rfl) (fun aa272 HH272 => ?_)
              clear HH269
              refine LG_val (want0 rfl) rfl rfl HH272 (Y_loadS HH272 rfl rfl SS268.p1 st_api_Packet.und st_api_Packet.size) (fun aa273 HH273 => ?_)
              clear HH272
              refine LG_call (want0 rfl) rfl rfl rfl Try.func30 (by kernel_rfl) rfl HH273 (lput_room SS268.p3 ⟨1 + (i : Int) % 9, 0, 0, i, 0, 0, 0, false, data⟩ _ (Ints.rd SS268.p2) hb (by omega)) rfl ?_
              rintro e ww274 ⟨rfl, SS274, _⟩
              refine ⟨_, rfl, fun aa274 HH274 => ?_⟩
              clear HH273
              clear SS268
              refine LG_val (want0 rfl) rfl rfl HH274 (Y_mov HH274 rfl rfl) (fun aa275 HH275 => ?_)
              clear HH274
              refine LG_val (want0 rfl) rfl rfl HH275 (Y_no (Y_neq HH275 rfl rfl rfl) (by simp)) (fun aa276 HH276 => ?_)
              clear HH275
              refine L_end (t_norm (hKK271 _ _ ?_))
              refine c_no HH276 rfl ?_
              refine wp_skip (t_norm (hKK270 _ _ ?_))
              refine wp_seq_k fun KK277 hKK277 => ?_
              refine wp_region_lit ?_
              refine LG_val (want0 rfl) rfl rfl HH276 (Y_mov HH276 rfl rfl) (fun aa278 HH278 => ?_)
              clear HH276
              refine LG_val (want0 rfl) rfl rfl HH278 (Y_lenS HH278 rfl (by kernel_rfl) rfl) (fun aa279 HH279 => ?_)
              clear HH278
              refine LG_val (want0 rfl) rfl rfl HH279 (Y_mov HH279 rfl rfl) (fun aa280 HH280 => ?_)
              clear HH279
              refine L_end (t_norm (hKK277 _ _ ?_))
              refine wp_block ?_
              refine c_loop (σ := Nat) (fun (j : Nat) a wx => ∃ ys : List Int, Fr a 208 [(0, VI r), (1, .slice a1 acts.length c1), (2, .slice a2 places.length c2), (3, .slice a3 data.length c3), (8, VB false), (9, VP q 0), (10, .slice a5 (rs ++ [(⟨1 + (i : Int) % 9, 0, 0, i, 0, 0, 0, false, data⟩ : Pkt)]).length c5), (11, VI i), (14, .slice a4 data.length c4), (151, VI data.length), (152, VI j)] ∧ j ≤ data.length ∧ ys.length = data.length ∧ Sat wx [Ints (.slice a4 data.length c4) ys, LRep q R (rs ++ [(⟨1 + (i : Int) % 9, 0, 0, i, 0, 0, 0, false, data⟩ : Pkt)]), PkR (.slice a5 (rs ++ [(⟨1 + (i : Int) % 9, 0, 0, i, 0, 0, 0, false, data⟩ : Pkt)]).length c5) (.slice a3 data.length c3) (rs ++ [(⟨1 + (i : Int) % 9, 0, 0, i, 0, 0, 0, false, data⟩ : Pkt)]), Old w]) (fun j => data.length - j) (0) ?_ ?_
              · exact ⟨data, HH280.sub rfl, Nat.zero_le _, rfl, SS274.p4.p2.p2.p4.t4⟩
              clear HH280
              clear SS274
              rintro j aa281 ww281 ⟨ys, HH281, hj, hys, SS281⟩
              refine wp_seq_k fun KK282 hKK282 => ?_
              refine wp_region_lit ?_
              by_cases hjl : (j : Int) < (data.length : Int)
              ·
                refine LG_val (want0 rfl) rfl rfl HH281 (Y_yes (Y_lss HH281 rfl rfl rfl) (hjl)) (fun aa283 HH283 => ?_)
                clear HH281
                refine L_end (t_norm (hKK282 _ _ ?_))
                refine wp_seq_k fun KK284 hKK284 => ?_
                refine c_yes HH283 rfl ?_
                refine wp_skip (t_norm (hKK284 _ _ ?_))
                refine wp_seq_k fun KK285 hKK285 => ?_
                refine wp_block ?_
                refine wp_seq_k fun KK286 hKK286 => ?_
                refine wp_region_lit ?_
                refine LG_val (want0 rfl) rfl rfl HH283 (Y_mov HH283 rfl rfl) (fun aa287 HH287 => ?_)
                clear HH283
                refine LG_val (want0 rfl) rfl rfl HH287 (Y_asg HH287 rfl rfl) (fun aa288 HH288 => ?_)
                clear HH287
                refine L_end (t_norm (hKK286 _ _ ?_))
                obtain ⟨b5, o5, e5⟩ := Ints.some SS281 hys (by omega)
                have cj := Ints.atE e5 hys SS281 j (by omega)
                refine wp_region_lit ?_
                refine LG_val (want0 rfl) rfl rfl HH288 (Y_mov HH288 rfl rfl) (fun aa289 HH289 => ?_)
                clear HH288
                refine LG_val (want0 rfl) rfl rfl HH289 (Y_mov HH289 rfl rfl) (fun aa290 HH290 => ?_)
                clear HH289
                refine LG_val (want0 rfl) rfl rfl HH290 (Y_idxE (q := o5 + j) HH290 rfl ty_ints rfl e5 rfl (by omega) (by omega) (by simp)) (fun aa291 HH291 => ?_)
                clear HH290
                refine LG_val (want0 rfl) rfl rfl HH291 (Y_load HH291 rfl (by kernel_rfl) rfl cj) (fun aa292 HH292 => ?_)
                clear HH291
                refine LG_val (want0 rfl) rfl rfl HH292 (Y_xor HH292 rfl rfl rfl (rfl)) (fun aa293 HH293 => ?_)
                clear HH292
                refine LG_val (want0 rfl) rfl rfl HH293 (Y_idxE (q := o5 + j) HH293 rfl ty_ints rfl e5 rfl (by omega) (by omega) (by simp)) (fun aa294 HH294 => ?_)
                clear HH293
                refine LG_do0 (want0 rfl) rfl HH294 (M_storeI HH294 rfl j rfl rfl e5 SS281 hys (by omega)) ?_
                rintro _ ww295 SS295 aa295 HH295
                clear HH294
                clear SS281
                refine L_end (b_norm (t_norm (hKK285 _ _ ?_)))
                refine wp_region_lit ?_
                refine LG_val (want0 rfl) rfl rfl HH295 (Y_add HH295 rfl rfl rfl (IntWalk.i64_in _ (by omega))) (fun aa296 HH296 => ?_)
                clear HH295
                refine LG_val (want0 rfl) rfl rfl HH296 (Y_mov HH296 rfl rfl) (fun aa297 HH297 => ?_)
                clear HH296
                refine L_end (t_norm ?_)
                exact ⟨j + 1, ⟨_, HH297.sub rfl, by omega, (by rw [List.length_set]; exact hys), SS295.p3.p3.p3.p3.t4⟩, by first | omega | (dsimp only; omega)⟩
              ·
                refine LG_val (want0 rfl) rfl rfl HH281 (Y_no (Y_lss HH281 rfl rfl rfl) (hjl)) (fun aa298 HH298 => ?_)
                clear HH281
                refine L_end (t_norm (hKK282 _ _ ?_))
                refine wp_seq_k fun KK299 hKK299 => ?_
                refine c_no HH298 rfl ?_
                refine wp_exit (t_exit (t_exit (b_exit (b_norm (t_norm ?_)))))
                exact ⟨(rs ++ [(⟨1 + (i : Int) % 9, 0, 0, i, 0, 0, 0, false, data⟩ : Pkt)]), a5, c5, HH298.sub rfl, by simp; omega, (by intro p hp; rcases List.mem_append.1 hp with h | h; exact hdata p h; simp at h; subst h; rfl), SS281.p3.p2.p3.t3⟩
          ·
            refine LG_val (want0 rfl) rfl rfl HH203 (Y_no (Y_eql HH203 rfl rfl rfl) (h1)) (fun aa300 HH300 => ?_)
            clear HH203
            refine LG_val (want0 rfl) rfl rfl HH300 (Y_asg HH300 rfl rfl) (fun aa301 HH301 => ?_)
            clear HH300
            refine L_end (t_norm (hKK104 _ _ ?_))
            refine c_no HH301 rfl ?_
            refine wp_seq_k fun KK302 hKK302 => ?_
            refine wp_region_lit ?_
            by_cases hpk : k = 2
            ·
              refine LG_val (want0 rfl) rfl rfl HH301 (Y_yes (Y_eql HH301 rfl rfl rfl) (hpk)) (fun aa303 HH303 => ?_)
              clear HH301
              refine LG_val (want0 rfl) rfl rfl HH303 (Y_asg HH303 rfl rfl) (fun aa304 HH304 => ?_)
              clear HH303
              refine L_end (t_norm (hKK302 _ _ ?_))
              refine c_yes HH304 rfl ?_
              refine wp_seq_k fun KK305 hKK305 => ?_
              rcases b with _ | _
              ·
                replace hF := hF rfl
                refine wp_region_lit ?_
                refine LG_val (want0 rfl) rfl rfl HH304 (Y_mov HH304 rfl rfl) (fun aa306 HH306 => ?_)
                clear HH304
                refine LG_val (want0 rfl) rfl rfl HH306 (Y_mov HH306 rfl rfl) (fun aa307 HH307 => ?_)
                clear HH306
                refine LG_call (want0 rfl) rfl rfl rfl Try.func31 (by kernel_rfl) rfl HH307 (lget_none SS97.p1 at0 hF) rfl ?_
                rintro e ww308 ⟨rfl, SS308⟩
                refine ⟨_, rfl, fun aa308 HH308 => ?_⟩
                clear HH307
                clear SS97
                refine LG_val (want0 rfl) rfl rfl HH308 (Y_mov HH308 rfl rfl) (fun aa309 HH309 => ?_)
                clear HH308
                refine LG_val (want0 rfl) rfl rfl HH309 (Y_ext HH309 rfl rfl rfl) (fun aa310 HH310 => ?_)
                clear HH309
                refine LG_val (want0 rfl) rfl rfl HH310 (Y_ext HH310 rfl rfl rfl) (fun aa311 HH311 => ?_)
                clear HH310
                refine LG_do (want0 rfl) rfl rfl HH311 (M_alloc HH311 rfl st_api_Packet.zero SS308) ?_
                rintro _ ww312 ⟨b18, rfl, SS312, _⟩ aa312 HH312
                clear HH311
                clear SS308
                refine LG_do0 (want0 rfl) rfl HH312 (M_storeS HH312 rfl rfl rfl SS312 st_api_Packet.size rfl rfl (by simp [Value.oneCell'])) ?_
                rintro _ ww313 ⟨SS313, _⟩ aa313 HH313
                clear HH312
                clear SS312
                refine LG_val (want0 rfl) rfl rfl HH313 (Y_asg HH313 rfl rfl) (fun aa314 HH314 => ?_)
                clear HH313
                refine L_end (t_norm (hKK305 _ _ ?_))
                refine wp_seq_k fun KK315 hKK315 => ?_
                -- region 40, drawn
                refine N_begin (fun w' => Sat w' _) [(0, false), (1, false), (2, false), (3, false), (4, false), (5, false), (6, false), (7, false), (8, false), (9, false), (10, false), (11, false), (12, false), (13, false), (14, false)] (by kernel_rfl) (by kernel_rfl) (by decide) (by kernel_rfl) (fun _ _ _ _ _ h => h) (SS313.drew) (fun ww316 SS316 _ => ?_)
                clear SS313
                refine N_val rfl (want0 rfl) rfl rfl HH314 (fun ww316 SS316 => Y_mov HH314 rfl rfl) (fun aa317 HH317 => ?_)
                clear HH314
                refine N_val rfl (want0 rfl) rfl rfl HH317 (fun ww316 SS316 => Y_mov HH317 rfl rfl) (fun aa318 HH318 => ?_)
                clear HH317
                refine N_val rfl (want0 rfl) rfl rfl HH318 (fun ww316 SS316 => Y_to (Y_neqB HH318 rfl (by kernel_rfl) rfl rfl) (rfl)) (fun aa319 HH319 => ?_)
                clear HH318
                refine N_val rfl (want0 rfl) rfl rfl HH319 (fun ww316 SS316 => Y_mov HH319 rfl rfl) (fun aa320 HH320 => ?_)
                clear HH319
                refine N_val rfl (HH320.want rfl rfl rfl) rfl rfl HH320 (fun ww316 SS316 => Y_mov HH320 rfl rfl) (fun aa321 HH321 => ?_)
                clear HH320
                refine N_val rfl (HH321.want rfl rfl rfl) rfl rfl HH321 (fun ww316 SS316 => Y_mov HH321 rfl rfl) (fun aa322 HH322 => ?_)
                clear HH321
                refine N_skip rfl (HH322.unwant rfl rfl rfl rfl) rfl rfl HH322 SS316 (fun aa323 HH323 => ?_)
                clear HH322
                refine N_skip rfl (HH323.unwant rfl rfl rfl rfl) rfl rfl HH323 SS316 (fun aa324 HH324 => ?_)
                clear HH323
                refine N_skip rfl (HH324.unwant rfl rfl rfl rfl) rfl rfl HH324 SS316 (fun aa325 HH325 => ?_)
                clear HH324
                refine N_skip rfl (HH325.unwant rfl rfl rfl rfl) rfl rfl HH325 SS316 (fun aa326 HH326 => ?_)
                clear HH325
                refine N_skip rfl (HH326.unwant rfl rfl rfl rfl) rfl rfl HH326 SS316 (fun aa327 HH327 => ?_)
                clear HH326
                refine N_skip rfl (HH327.unwant rfl rfl rfl rfl) rfl rfl HH327 SS316 (fun aa328 HH328 => ?_)
                clear HH327
                refine N_skip rfl (HH328.unwant rfl rfl rfl rfl) rfl rfl HH328 SS316 (fun aa329 HH329 => ?_)
                clear HH328
                refine N_val rfl (HH329.want rfl rfl rfl) rfl rfl HH329 (fun ww316 SS316 => Y_pickF HH329 rfl rfl rfl) (fun aa330 HH330 => ?_)
                clear HH329
                refine N_val rfl (want0 rfl) rfl rfl HH330 (fun ww316 SS316 => Y_pickF HH330 rfl rfl rfl) (fun aa331 HH331 => ?_)
                clear HH330
                refine N_end (t_norm (hKK315 _ _ ?_))
                refine c_no HH331 rfl ?_
                refine wp_skip (b_norm (t_norm ?_))
                exact ⟨rs, ar, cr, HH331.sub rfl, by omega, hdata, SS316.p3.p2.p3.t3⟩
              ·
                obtain ⟨i2, rfl, hi2⟩ := hT rfl
                obtain ⟨p, hp⟩ : ∃ p, rs[i2]? = some p := ⟨rs[i2], by simp [hi2]⟩
                obtain ⟨bk, ok, hbk⟩ := PkR.some SS97 rfl (by omega)
                have hcr := PkR.le SS97
                have hpd := hdata p (List.mem_of_getElem? hp)
                have hbp : p.data.length * 8 ≤ 140737488355328 := by rw [hpd]; omega
                refine wp_region_lit ?_
                refine LG_val (want0 rfl) rfl rfl HH304 (Y_mov HH304 rfl rfl) (fun aa332 HH332 => ?_)
                clear HH304
                refine LG_val (want0 rfl) rfl rfl HH332 (Y_mov HH332 rfl rfl) (fun aa333 HH333 => ?_)
                clear HH332
                refine LG_call (want0 rfl) rfl rfl rfl Try.func31 (by kernel_rfl) rfl HH333 (lget_some SS97.p1 i2 p hp) rfl ?_
                rintro e ww334 ⟨u0, rfl, SS334⟩
                obtain ⟨a4, c4, rfl, _, _⟩ := Ints.val SS334
                refine ⟨_, rfl, fun aa334 HH334 => ?_⟩
                clear HH333
                clear SS97
                refine LG_val (want0 rfl) rfl rfl HH334 (Y_mov HH334 rfl rfl) (fun aa335 HH335 => ?_)
                clear HH334
                refine LG_val (want0 rfl) rfl rfl HH335 (Y_ext HH335 rfl rfl rfl) (fun aa336 HH336 => ?_)
                clear HH335
                refine LG_val (want0 rfl) rfl rfl HH336 (Y_ext HH336 rfl rfl rfl) (fun aa337 HH337 => ?_)
                clear HH336
                refine LG_do (want0 rfl) rfl rfl HH337 (M_alloc HH337 rfl st_api_Packet.zero SS334) ?_
                rintro _ ww338 ⟨b18, rfl, SS338, _⟩ aa338 HH338
                clear HH337
                clear SS334
                refine LG_do0 (want0 rfl) rfl HH338 (M_storeS HH338 rfl rfl rfl SS338 st_api_Packet.size rfl rfl (by simp [Value.oneCell'])) ?_
                rintro _ ww339 ⟨SS339, _⟩ aa339 HH339
                clear HH338
                clear SS338
                refine LG_val (want0 rfl) rfl rfl HH339 (Y_asg HH339 rfl rfl) (fun aa340 HH340 => ?_)
                clear HH339
                refine L_end (t_norm (hKK305 _ _ ?_))
                refine wp_seq_k fun KK341 hKK341 => ?_
                -- region 40, drawn
                refine N_begin (fun w' => Sat w' _) [(0, false), (1, false), (2, false), (3, false), (4, false), (5, false), (6, false), (7, false), (8, false), (9, false), (10, false), (11, true), (12, false), (13, false), (14, false)] (by kernel_rfl) (by kernel_rfl) (by decide) (by kernel_rfl) (fun _ _ _ _ _ h => h) (SS339.drew) (fun ww342 SS342 _ => ?_)
                clear SS339
                refine N_val rfl (want0 rfl) rfl rfl HH340 (fun ww342 SS342 => Y_mov HH340 rfl rfl) (fun aa343 HH343 => ?_)
                clear HH340
                refine N_val rfl (want0 rfl) rfl rfl HH343 (fun ww342 SS342 => Y_mov HH343 rfl rfl) (fun aa344 HH344 => ?_)
                clear HH343
                refine N_val rfl (want0 rfl) rfl rfl HH344 (fun ww342 SS342 => Y_to (Y_neqB HH344 rfl (by kernel_rfl) rfl rfl) (rfl)) (fun aa345 HH345 => ?_)
                clear HH344
                refine N_val rfl (want0 rfl) rfl rfl HH345 (fun ww342 SS342 => Y_mov HH345 rfl rfl) (fun aa346 HH346 => ?_)
                clear HH345
                refine N_val rfl (HH346.want rfl rfl rfl) rfl rfl HH346 (fun ww342 SS342 => Y_mov HH346 rfl rfl) (fun aa347 HH347 => ?_)
                clear HH346
                refine N_val rfl (HH347.want rfl rfl rfl) rfl rfl HH347 (fun ww342 SS342 => Y_mov HH347 rfl rfl) (fun aa348 HH348 => ?_)
                clear HH347
                refine N_val rfl (HH348.want rfl rfl rfl) rfl rfl HH348 (fun ww342 SS342 => Y_loadS HH348 rfl rfl SS342 st_api_Packet.und st_api_Packet.size) (fun aa349 HH349 => ?_)
                clear HH348
                refine N_val rfl (HH349.want rfl rfl rfl) rfl rfl HH349 (fun ww342 SS342 => Y_mov HH349 rfl rfl) (fun aa350 HH350 => ?_)
                clear HH349
                refine N_val rfl (HH350.want rfl rfl rfl) rfl rfl HH350 (fun ww342 SS342 => Y_mov HH350 rfl rfl) (fun aa351 HH351 => ?_)
                clear HH350
                refine N_val rfl (HH351.want rfl rfl rfl) rfl rfl HH351 (fun ww342 SS342 => Y_idxE (b := bk) (q := ok + i2 * 9) HH351 rfl ty_pkts rfl hbk rfl (by omega) (by omega) (by simp)) (fun aa352 HH352 => ?_)
                clear HH351
                refine N_val rfl (HH352.want rfl rfl rfl) rfl rfl HH352 (fun ww342 SS342 => Y_loadC HH352 rfl rfl (PkR.cellAt hbk SS342.p3 i2 p hp (ok + i2 * 9) rfl) st_api_Packet.und st_api_Packet.size) (fun aa353 HH353 => ?_)
                clear HH352
                refine N_call rfl (HH353.want rfl rfl rfl) rfl rfl rfl Try.func22 (by kernel_rfl) rfl HH353 (same_ok p p (Ints.rd SS342.p1) (by rw [hpd]; exact RdI.old hrd SS342.p4) hbp) rfl ?_
                rintro e ww354 ⟨rfl, hk⟩
                have SS354 := hk.sat SS342
                rw [Pkt.eqb_refl]
                refine ⟨_, rfl, SS354, fun aa354 HH354 => ?_⟩
                clear HH353
                clear SS342
                refine N_val rfl (HH354.want rfl rfl rfl) rfl rfl HH354 (fun ww354 SS354 => Y_not HH354 rfl rfl) (fun aa355 HH355 => ?_)
                clear HH354
                refine N_val rfl (HH355.want rfl rfl rfl) rfl rfl HH355 (fun ww354 SS354 => Y_pickT HH355 rfl rfl rfl) (fun aa356 HH356 => ?_)
                clear HH355
                refine N_val rfl (want0 rfl) rfl rfl HH356 (fun ww354 SS354 => Y_pickF HH356 rfl rfl rfl) (fun aa357 HH357 => ?_)
                clear HH356
                refine N_end (t_norm (hKK341 _ _ ?_))
                refine c_no HH357 rfl ?_
                refine wp_skip (b_norm (t_norm ?_))
                exact ⟨rs, ar, cr, HH357.sub rfl, by omega, hdata, SS354.p4.p3.p4.t3⟩
            ·
              refine LG_val (want0 rfl) rfl rfl HH301 (Y_no (Y_eql HH301 rfl rfl rfl) (hpk)) (fun aa358 HH358 => ?_)
              clear HH301
              refine LG_val (want0 rfl) rfl rfl HH358 (Y_asg HH358 rfl rfl) (fun aa359 HH359 => ?_)
              clear HH358
              refine L_end (t_norm (hKK302 _ _ ?_))
              refine c_no HH359 rfl ?_
              refine wp_seq_k fun KK360 hKK360 => ?_
              rcases b with _ | _
              ·
                replace hF := hF rfl
                refine wp_region_lit ?_
                refine LG_val (want0 rfl) rfl rfl HH359 (Y_mov HH359 rfl rfl) (fun aa361 HH361 => ?_)
                clear HH359
                refine LG_val (want0 rfl) rfl rfl HH361 (Y_mov HH361 rfl rfl) (fun aa362 HH362 => ?_)
                clear HH361
                refine LG_call (want0 rfl) rfl rfl rfl Try.func32 (by kernel_rfl) rfl HH362 (lrem_none SS97.p1 at0 hF) rfl ?_
                rintro e ww363 ⟨rfl, SS363⟩
                refine ⟨_, rfl, fun aa363 HH363 => ?_⟩
                clear HH362
                clear SS97
                refine LG_val (want0 rfl) rfl rfl HH363 (Y_mov HH363 rfl rfl) (fun aa364 HH364 => ?_)
                clear HH363
                refine LG_val (want0 rfl) rfl rfl HH364 (Y_ext HH364 rfl rfl rfl) (fun aa365 HH365 => ?_)
                clear HH364
                refine LG_val (want0 rfl) rfl rfl HH365 (Y_ext HH365 rfl rfl rfl) (fun aa366 HH366 => ?_)
                clear HH365
                refine LG_do (want0 rfl) rfl rfl HH366 (M_alloc HH366 rfl st_api_Packet.zero SS363) ?_
                rintro _ ww367 ⟨b20, rfl, SS367, _⟩ aa367 HH367
                clear HH366
                clear SS363
                refine LG_do0 (want0 rfl) rfl HH367 (M_storeS HH367 rfl rfl rfl SS367 st_api_Packet.size rfl rfl (by simp [Value.oneCell'])) ?_
                rintro _ ww368 ⟨SS368, _⟩ aa368 HH368
                clear HH367
                clear SS367
                refine LG_val (want0 rfl) rfl rfl HH368 (Y_asg HH368 rfl rfl) (fun aa369 HH369 => ?_)
                clear HH368
                refine L_end (t_norm (hKK360 _ _ ?_))
                refine wp_seq_k fun KK370 hKK370 => ?_
                refine wp_seq_k fun KK371 hKK371 => ?_
                -- region 19, drawn
                refine N_begin (fun w' => Sat w' _) [(0, false), (1, false), (2, false), (3, false), (4, false), (5, false), (6, false), (7, false), (8, false), (9, false), (10, false), (11, false), (12, false), (13, false), (14, false), (15, false), (16, false), (17, false), (18, false), (19, false), (20, false), (21, true), (22, false), (23, false), (24, false)] (by kernel_rfl) (by kernel_rfl) (by decide) (by kernel_rfl) (fun _ _ _ _ _ h => h) (SS368.drew) (fun ww372 SS372 _ => ?_)
                clear SS368
                refine N_val rfl (want0 rfl) rfl rfl HH369 (fun ww372 SS372 => Y_mov HH369 rfl rfl) (fun aa373 HH373 => ?_)
                clear HH369
                refine N_val rfl (want0 rfl) rfl rfl HH373 (fun ww372 SS372 => Y_mov HH373 rfl rfl) (fun aa374 HH374 => ?_)
                clear HH373
                refine N_val rfl (want0 rfl) rfl rfl HH374 (fun ww372 SS372 => Y_to (Y_neqB HH374 rfl (by kernel_rfl) rfl rfl) (rfl)) (fun aa375 HH375 => ?_)
                clear HH374
                refine N_val rfl (want0 rfl) rfl rfl HH375 (fun ww372 SS372 => Y_mov HH375 rfl rfl) (fun aa376 HH376 => ?_)
                clear HH375
                refine N_val rfl (HH376.want rfl rfl rfl) rfl rfl HH376 (fun ww372 SS372 => Y_mov HH376 rfl rfl) (fun aa377 HH377 => ?_)
                clear HH376
                refine N_val rfl (HH377.want rfl rfl rfl) rfl rfl HH377 (fun ww372 SS372 => Y_mov HH377 rfl rfl) (fun aa378 HH378 => ?_)
                clear HH377
                refine N_skip rfl (HH378.unwant rfl rfl rfl rfl) rfl rfl HH378 SS372 (fun aa379 HH379 => ?_)
                clear HH378
                refine N_skip rfl (HH379.unwant rfl rfl rfl rfl) rfl rfl HH379 SS372 (fun aa380 HH380 => ?_)
                clear HH379
                refine N_skip rfl (HH380.unwant rfl rfl rfl rfl) rfl rfl HH380 SS372 (fun aa381 HH381 => ?_)
                clear HH380
                refine N_skip rfl (HH381.unwant rfl rfl rfl rfl) rfl rfl HH381 SS372 (fun aa382 HH382 => ?_)
                clear HH381
                refine N_skip rfl (HH382.unwant rfl rfl rfl rfl) rfl rfl HH382 SS372 (fun aa383 HH383 => ?_)
                clear HH382
                refine N_skip rfl (HH383.unwant rfl rfl rfl rfl) rfl rfl HH383 SS372 (fun aa384 HH384 => ?_)
                clear HH383
                refine N_skip rfl (HH384.unwant rfl rfl rfl rfl) rfl rfl HH384 SS372 (fun aa385 HH385 => ?_)
                clear HH384
                refine N_val rfl (HH385.want rfl rfl rfl) rfl rfl HH385 (fun ww372 SS372 => Y_pickF HH385 rfl rfl rfl) (fun aa386 HH386 => ?_)
                clear HH385
                refine N_val rfl (want0 rfl) rfl rfl HH386 (fun ww372 SS372 => Y_pickF HH386 rfl rfl rfl) (fun aa387 HH387 => ?_)
                clear HH386
                refine N_val rfl (want0 rfl) rfl rfl HH387 (fun ww372 SS372 => Y_mov HH387 rfl rfl) (fun aa388 HH388 => ?_)
                clear HH387
                refine N_val rfl (HH388.want rfl rfl rfl) rfl rfl HH388 (fun ww372 SS372 => Y_mov HH388 rfl rfl) (fun aa389 HH389 => ?_)
                clear HH388
                refine N_val rfl (HH389.want rfl rfl rfl) rfl rfl HH389 (fun ww372 SS372 => Y_not HH389 rfl rfl) (fun aa390 HH390 => ?_)
                clear HH389
                refine N_val rfl (HH390.want rfl rfl rfl) rfl rfl HH390 (fun ww372 SS372 => Y_mov HH390 rfl rfl) (fun aa391 HH391 => ?_)
                clear HH390
                refine N_val rfl (HH391.want rfl rfl rfl) rfl rfl HH391 (fun ww372 SS372 => Y_loadS HH391 rfl rfl SS372 st_api_Packet.und st_api_Packet.size) (fun aa392 HH392 => ?_)
                clear HH391
                refine N_val rfl (HH392.want rfl rfl rfl) rfl rfl HH392 (fun ww372 SS372 => Y_build (cs := Pkt.cells ⟨0, 0, 0, 0, 0, 0, 0, false, []⟩ VNil) HH392 rfl st_api_Packet rfl rfl) (fun aa393 HH393 => ?_)
                clear HH392
                refine N_call rfl (HH393.want rfl rfl rfl) rfl rfl rfl Try.func22 (by kernel_rfl) rfl HH393 (same_ok Pkt.zero Pkt.zero (Rd.nil _ _) (Rd.nil _ _) (by simp [Pkt.zero])) rfl ?_
                rintro e ww394 ⟨rfl, hk⟩
                have SS394 := hk.sat SS372
                rw [Pkt.eqb_refl]
                refine ⟨_, rfl, SS394, fun aa394 HH394 => ?_⟩
                clear HH393
                clear SS372
                refine N_val rfl (HH394.want rfl rfl rfl) rfl rfl HH394 (fun ww394 SS394 => Y_not HH394 rfl rfl) (fun aa395 HH395 => ?_)
                clear HH394
                refine N_val rfl (HH395.want rfl rfl rfl) rfl rfl HH395 (fun ww394 SS394 => Y_pickT HH395 rfl rfl rfl) (fun aa396 HH396 => ?_)
                clear HH395
                refine N_val rfl (want0 rfl) rfl rfl HH396 (fun ww394 SS394 => Y_pickF HH396 rfl rfl rfl) (fun aa397 HH397 => ?_)
                clear HH396
                refine N_end (t_norm (hKK371 _ _ ?_))
                refine c_no HH397 rfl ?_
                refine wp_skip (t_norm (hKK370 _ _ ?_))
                refine wp_seq_k fun KK398 hKK398 => ?_
                refine wp_region_lit ?_
                refine LG_val (want0 rfl) rfl rfl HH397 (Y_mov HH397 rfl rfl) (fun aa399 HH399 => ?_)
                clear HH397
                refine L_end (t_norm (hKK398 _ _ ?_))
                refine c_no HH399 rfl ?_
                refine wp_skip (b_norm (t_norm ?_))
                exact ⟨rs, ar, cr, HH399.sub rfl, by omega, hdata, SS394.p3.p2.p3.t3⟩
              ·
                obtain ⟨i2, rfl, hi2⟩ := hT rfl
                obtain ⟨p, hp⟩ : ∃ p, rs[i2]? = some p := ⟨rs[i2], by simp [hi2]⟩
                obtain ⟨bk, ok, hbk⟩ := PkR.some SS97 rfl (by omega)
                have hcr := PkR.le SS97
                have hpd := hdata p (List.mem_of_getElem? hp)
                have hbp : p.data.length * 8 ≤ 140737488355328 := by rw [hpd]; omega
                refine wp_region_lit ?_
                refine LG_val (want0 rfl) rfl rfl HH359 (Y_mov HH359 rfl rfl) (fun aa400 HH400 => ?_)
                clear HH359
                refine LG_val (want0 rfl) rfl rfl HH400 (Y_mov HH400 rfl rfl) (fun aa401 HH401 => ?_)
                clear HH400
                refine LG_call (want0 rfl) rfl rfl rfl Try.func32 (by kernel_rfl) rfl HH401 (lrem_some SS97.p1 i2 p hp) rfl ?_
                rintro e ww402 ⟨u0, rfl, SS402⟩
                obtain ⟨a4, c4, rfl, _, _⟩ := Ints.val SS402
                refine ⟨_, rfl, fun aa402 HH402 => ?_⟩
                clear HH401
                clear SS97
                refine LG_val (want0 rfl) rfl rfl HH402 (Y_mov HH402 rfl rfl) (fun aa403 HH403 => ?_)
                clear HH402
                refine LG_val (want0 rfl) rfl rfl HH403 (Y_ext HH403 rfl rfl rfl) (fun aa404 HH404 => ?_)
                clear HH403
                refine LG_val (want0 rfl) rfl rfl HH404 (Y_ext HH404 rfl rfl rfl) (fun aa405 HH405 => ?_)
                clear HH404
                refine LG_do (want0 rfl) rfl rfl HH405 (M_alloc HH405 rfl st_api_Packet.zero SS402) ?_
                rintro _ ww406 ⟨b20, rfl, SS406, _⟩ aa406 HH406
                clear HH405
                clear SS402
                refine LG_do0 (want0 rfl) rfl HH406 (M_storeS HH406 rfl rfl rfl SS406 st_api_Packet.size rfl rfl (by simp [Value.oneCell'])) ?_
                rintro _ ww407 ⟨SS407, _⟩ aa407 HH407
                clear HH406
                clear SS406
                refine LG_val (want0 rfl) rfl rfl HH407 (Y_asg HH407 rfl rfl) (fun aa408 HH408 => ?_)
                clear HH407
                refine L_end (t_norm (hKK360 _ _ ?_))
                refine wp_seq_k fun KK409 hKK409 => ?_
                refine wp_seq_k fun KK410 hKK410 => ?_
                -- region 19, drawn
                refine N_begin (fun w' => Sat w' _) [(0, false), (1, false), (2, false), (3, false), (4, false), (5, false), (6, false), (7, false), (8, false), (9, false), (10, false), (11, true), (12, false), (13, false), (14, false), (15, false), (16, false), (17, false), (18, false), (19, false), (20, false), (21, false), (22, false), (23, false), (24, false)] (by kernel_rfl) (by kernel_rfl) (by decide) (by kernel_rfl) (fun _ _ _ _ _ h => h) (SS407.drew) (fun ww411 SS411 _ => ?_)
                clear SS407
                refine N_val rfl (want0 rfl) rfl rfl HH408 (fun ww411 SS411 => Y_mov HH408 rfl rfl) (fun aa412 HH412 => ?_)
                clear HH408
                refine N_val rfl (want0 rfl) rfl rfl HH412 (fun ww411 SS411 => Y_mov HH412 rfl rfl) (fun aa413 HH413 => ?_)
                clear HH412
                refine N_val rfl (want0 rfl) rfl rfl HH413 (fun ww411 SS411 => Y_to (Y_neqB HH413 rfl (by kernel_rfl) rfl rfl) (rfl)) (fun aa414 HH414 => ?_)
                clear HH413
                refine N_val rfl (want0 rfl) rfl rfl HH414 (fun ww411 SS411 => Y_mov HH414 rfl rfl) (fun aa415 HH415 => ?_)
                clear HH414
                refine N_val rfl (HH415.want rfl rfl rfl) rfl rfl HH415 (fun ww411 SS411 => Y_mov HH415 rfl rfl) (fun aa416 HH416 => ?_)
                clear HH415
                refine N_val rfl (HH416.want rfl rfl rfl) rfl rfl HH416 (fun ww411 SS411 => Y_mov HH416 rfl rfl) (fun aa417 HH417 => ?_)
                clear HH416
                refine N_val rfl (HH417.want rfl rfl rfl) rfl rfl HH417 (fun ww411 SS411 => Y_loadS HH417 rfl rfl SS411 st_api_Packet.und st_api_Packet.size) (fun aa418 HH418 => ?_)
                clear HH417
                refine N_val rfl (HH418.want rfl rfl rfl) rfl rfl HH418 (fun ww411 SS411 => Y_mov HH418 rfl rfl) (fun aa419 HH419 => ?_)
                clear HH418
                refine N_val rfl (HH419.want rfl rfl rfl) rfl rfl HH419 (fun ww411 SS411 => Y_mov HH419 rfl rfl) (fun aa420 HH420 => ?_)
                clear HH419
                refine N_val rfl (HH420.want rfl rfl rfl) rfl rfl HH420 (fun ww411 SS411 => Y_idxE (b := bk) (q := ok + i2 * 9) HH420 rfl ty_pkts rfl hbk rfl (by omega) (by omega) (by simp)) (fun aa421 HH421 => ?_)
                clear HH420
                refine N_val rfl (HH421.want rfl rfl rfl) rfl rfl HH421 (fun ww411 SS411 => Y_loadC HH421 rfl rfl (PkR.cellAt hbk SS411.p3 i2 p hp (ok + i2 * 9) rfl) st_api_Packet.und st_api_Packet.size) (fun aa422 HH422 => ?_)
                clear HH421
                refine N_call rfl (HH422.want rfl rfl rfl) rfl rfl rfl Try.func22 (by kernel_rfl) rfl HH422 (same_ok p p (Ints.rd SS411.p1) (by rw [hpd]; exact RdI.old hrd SS411.p4) hbp) rfl ?_
                rintro e ww423 ⟨rfl, hk⟩
                have SS423 := hk.sat SS411
                rw [Pkt.eqb_refl]
                refine ⟨_, rfl, SS423, fun aa423 HH423 => ?_⟩
                clear HH422
                clear SS411
                refine N_val rfl (HH423.want rfl rfl rfl) rfl rfl HH423 (fun ww423 SS423 => Y_not HH423 rfl rfl) (fun aa424 HH424 => ?_)
                clear HH423
                refine N_val rfl (HH424.want rfl rfl rfl) rfl rfl HH424 (fun ww423 SS423 => Y_pickT HH424 rfl rfl rfl) (fun aa425 HH425 => ?_)
                clear HH424
                refine N_val rfl (want0 rfl) rfl rfl HH425 (fun ww423 SS423 => Y_pickF HH425 rfl rfl rfl) (fun aa426 HH426 => ?_)
                clear HH425
                refine N_val rfl (want0 rfl) rfl rfl HH426 (fun ww423 SS423 => Y_mov HH426 rfl rfl) (fun aa427 HH427 => ?_)
                clear HH426
                refine N_val rfl (HH427.want rfl rfl rfl) rfl rfl HH427 (fun ww423 SS423 => Y_mov HH427 rfl rfl) (fun aa428 HH428 => ?_)
                clear HH427
                refine N_val rfl (HH428.want rfl rfl rfl) rfl rfl HH428 (fun ww423 SS423 => Y_not HH428 rfl rfl) (fun aa429 HH429 => ?_)
                clear HH428
                refine N_val rfl (HH429.want rfl rfl rfl) rfl rfl HH429 (fun ww423 SS423 => Y_mov HH429 rfl rfl) (fun aa430 HH430 => ?_)
                clear HH429
                refine N_skip rfl (HH430.unwant rfl rfl rfl rfl) rfl rfl HH430 SS423 (fun aa431 HH431 => ?_)
                clear HH430
                refine N_skip rfl (HH431.unwant rfl rfl rfl rfl) rfl rfl HH431 SS423 (fun aa432 HH432 => ?_)
                clear HH431
                refine N_skip rfl (HH432.unwant rfl rfl rfl rfl) rfl rfl HH432 SS423 (fun aa433 HH433 => ?_)
                clear HH432
                refine N_skip rfl (HH433.unwant rfl rfl rfl rfl) rfl rfl HH433 SS423 (fun aa434 HH434 => ?_)
                clear HH433
                refine N_val rfl (HH434.want rfl rfl rfl) rfl rfl HH434 (fun ww423 SS423 => Y_pickF HH434 rfl rfl rfl) (fun aa435 HH435 => ?_)
                clear HH434
                refine N_val rfl (want0 rfl) rfl rfl HH435 (fun ww423 SS423 => Y_pickF HH435 rfl rfl rfl) (fun aa436 HH436 => ?_)
                clear HH435
                refine N_end (t_norm (hKK410 _ _ ?_))
                refine c_no HH436 rfl ?_
                refine wp_skip (t_norm (hKK409 _ _ ?_))
                refine wp_seq_k fun KK437 hKK437 => ?_
                refine wp_region_lit ?_
                refine LG_val (want0 rfl) rfl rfl HH436 (Y_mov HH436 rfl rfl) (fun aa438 HH438 => ?_)
                clear HH436
                refine L_end (t_norm (hKK437 _ _ ?_))
                refine c_yes HH438 rfl ?_
                -- region 22, drawn
                refine N_begin (fun w' => Sat w' _) [(0, false), (1, false), (2, false), (4, false), (5, false), (6, false), (7, false), (3, true), (8, true), (9, false)] (by kernel_rfl) (by kernel_rfl) (by decide) (by kernel_rfl) (fun _ _ _ _ _ h => h) (SS423.drew) (fun ww439 SS439 _ => ?_)
                clear SS423
                refine N_val rfl (want0 rfl) rfl rfl HH438 (fun ww439 SS439 => Y_mov HH438 rfl rfl) (fun aa440 HH440 => ?_)
                clear HH438
                refine N_val rfl (want0 rfl) rfl rfl HH440 (fun ww439 SS439 => Y_mov HH440 rfl rfl) (fun aa441 HH441 => ?_)
                clear HH440
                refine N_val rfl (want0 rfl) rfl rfl HH441 (fun ww439 SS439 => Y_sliceTo (hi := i2) HH441 rfl ty_pkts rfl rfl (by omega)) (fun aa442 HH442 => ?_)
                clear HH441
                refine N_val rfl (want0 rfl) rfl rfl HH442 (fun ww439 SS439 => Y_mov HH442 rfl rfl) (fun aa443 HH443 => ?_)
                clear HH442
                refine N_val rfl (want0 rfl) rfl rfl HH443 (fun ww439 SS439 => Y_mov HH443 rfl rfl) (fun aa444 HH444 => ?_)
                clear HH443
                refine N_val rfl (want0 rfl) rfl rfl HH444 (fun ww439 SS439 => Y_add HH444 rfl rfl rfl (IntWalk.i64_in _ (by omega))) (fun aa445 HH445 => ?_)
                clear HH444
                refine N_val rfl (want0 rfl) rfl rfl HH445 (fun ww439 SS439 => Y_sliceFrom (lo := (i2 + 1)) HH445 rfl ty_pkts rfl rfl (by omega)) (fun aa446 HH446 => ?_)
                clear HH445
                refine N_do rfl (want0 rfl) rfl rfl HH446 (M_appRR (ps := []) (qs := rs.take i2) (d := .slice a3 data.length c3) HH446 rfl rfl rfl (PkR.nil _ SS439) (PkR.upto SS439.p3 rfl (by omega)) (by simp; omega) rfl (by simp; omega)) ?_
                rintro _ ww447 ⟨a5, c5, rfl, SS447⟩
                refine ⟨SS447.tail, fun aa447 HH447 => ?_⟩
                clear HH446
                clear SS439
                refine N_do rfl (want0 rfl) rfl rfl HH447 (M_appRR (ps := [] ++ rs.take i2) (qs := rs.drop (i2 + 1)) (d := .slice a3 data.length c3) HH447 rfl rfl rfl SS447 (PkR.behind SS447.p4 rfl (by omega)) (by simp) rfl (by simp; omega)) ?_
                rintro _ ww448 ⟨a6, c6, rfl, SS448⟩
                refine ⟨SS448.tail, fun aa448 HH448 => ?_⟩
                clear HH447
                clear SS447
                refine N_val rfl (want0 rfl) rfl rfl HH448 (fun ww448 SS448 => Y_asg HH448 rfl rfl) (fun aa449 HH449 => ?_)
                clear HH448
                refine N_end (b_norm (t_norm ?_))
                exact ⟨rs.take i2 ++ rs.drop (i2 + 1), a6, c6, HH449.sub rfl, by simp; omega, (fun x hx => hdata x (by rcases List.mem_append.1 hx with h | h; exact List.mem_of_mem_take h; exact List.mem_of_mem_drop h)), SS448.p5.p4.p2.t3⟩
      clear hdata hri hT hF
      clear HH97
      clear SS97
      rintro aa450 ww450 ⟨rs, ar, cr, HH450, hri, hdata, SS450⟩
      refine wp_seq_k fun KK451 hKK451 => ?_
      refine wp_region_lit ?_
      refine LG_val (want0 rfl) rfl rfl HH450 (Y_mov HH450 rfl rfl) (fun aa452 HH452 => ?_)
      clear HH450
      refine LG_call (want0 rfl) rfl rfl rfl Try.func33 (by kernel_rfl) rfl HH452 (llen_ok SS450.p1) rfl ?_
      rintro e ww453 ⟨rfl, rfl⟩
      refine ⟨_, rfl, fun aa453 HH453 => ?_⟩
      clear HH452
      refine LG_val (want0 rfl) rfl rfl HH453 (Y_mov HH453 rfl rfl) (fun aa454 HH454 => ?_)
      clear HH453
      refine LG_val (want0 rfl) rfl rfl HH454 (Y_lenS HH454 rfl (by kernel_rfl) rfl) (fun aa455 HH455 => ?_)
      clear HH454
      refine LG_val (want0 rfl) rfl rfl HH455 (Y_no (Y_neq HH455 rfl rfl rfl) (by simp)) (fun aa456 HH456 => ?_)
      clear HH455
      refine LG_val (want0 rfl) rfl rfl HH456 (Y_mov HH456 rfl rfl) (fun aa457 HH457 => ?_)
      clear HH456
      refine LG_val (HH457.want rfl rfl rfl) rfl rfl HH457 (Y_mov HH457 rfl rfl) (fun aa458 HH458 => ?_)
      clear HH457
      refine LG_call (HH458.want rfl rfl rfl) rfl rfl rfl Try.func34 (by kernel_rfl) rfl HH458 (lroom_ok SS450.p1) rfl ?_
      rintro e ww459 ⟨rfl, k1, rfl⟩
      have SS459 := SS450.drewN k1
      refine ⟨_, rfl, fun aa459 HH459 => ?_⟩
      clear HH458
      clear SS450
      refine LG_val (HH459.want rfl rfl rfl) rfl rfl HH459 (Y_mov HH459 rfl rfl) (fun aa460 HH460 => ?_)
      clear HH459
      refine LG_val (HH460.want rfl rfl rfl) rfl rfl HH460 (Y_max (r := R) HH460 rfl rfl rfl (by omega)) (fun aa461 HH461 => ?_)
      clear HH460
      refine LG_val (HH461.want rfl rfl rfl) rfl rfl HH461 (Y_mov HH461 rfl rfl) (fun aa462 HH462 => ?_)
      clear HH461
      refine LG_val (HH462.want rfl rfl rfl) rfl rfl HH462 (Y_lenS HH462 rfl (by kernel_rfl) rfl) (fun aa463 HH463 => ?_)
      clear HH462
      refine LG_val (HH463.want rfl rfl rfl) rfl rfl HH463 (Y_sub HH463 rfl rfl rfl (IntWalk.i64_in _ (by omega))) (fun aa464 HH464 => ?_)
      clear HH463
      refine LG_val (HH464.want rfl rfl rfl) rfl rfl HH464 (Y_no (Y_neq HH464 rfl rfl rfl) (by simp)) (fun aa465 HH465 => ?_)
      clear HH464
      refine LG_val (want0 rfl) rfl rfl HH465 (Y_pickF HH465 rfl rfl rfl) (fun aa466 HH466 => ?_)
      clear HH465
      refine LG_val (want0 rfl) rfl rfl HH466 (Y_mov HH466 rfl rfl) (fun aa467 HH467 => ?_)
      clear HH466
      refine LG_val (HH467.want rfl rfl rfl) rfl rfl HH467 (Y_mov HH467 rfl rfl) (fun aa468 HH468 => ?_)
      clear HH467
      refine LG_call (HH468.want rfl rfl rfl) rfl rfl rfl Try.func35 (by kernel_rfl) rfl HH468 (lall_ok SS459.p1) rfl ?_
      rintro e ww469 ⟨u1, rfl, SS469, _⟩
      obtain ⟨a7, c7, rfl, _, _⟩ := PkQ.val SS469
      refine ⟨_, rfl, fun aa469 HH469 => ?_⟩
      clear HH468
      clear SS459
      refine LG_val (HH469.want rfl rfl rfl) rfl rfl HH469 (Y_mov HH469 rfl rfl) (fun aa470 HH470 => ?_)
      clear HH469
      refine LG_call (HH470.want rfl rfl rfl) rfl rfl rfl Try.func26 (by kernel_rfl) rfl HH470 (all_ok rs rs (PkQ.rd SS469) (PkR.rd SS469.p2 (RdI.old hrd SS469.p3) hdata) (by omega) (fun p hp => by rw [hdata p hp]; omega)) rfl ?_
      rintro e ww471 ⟨rfl, hk⟩
      have SS471 := hk.sat SS469
      rw [show pksEqb rs rs = true from pksEqb_iff.2 rfl]
      refine ⟨_, rfl, fun aa471 HH471 => ?_⟩
      clear HH470
      clear SS469
      refine LG_val (HH471.want rfl rfl rfl) rfl rfl HH471 (Y_not HH471 rfl rfl) (fun aa472 HH472 => ?_)
      clear HH471
      refine LG_val (want0 rfl) rfl rfl HH472 (Y_pickF HH472 rfl rfl rfl) (fun aa473 HH473 => ?_)
      clear HH472
      refine L_end (t_norm (hKK451 _ _ ?_))
      refine c_no HH473 rfl ?_
      refine wp_skip (b_norm (t_norm (hKK40 _ _ ?_)))
      refine wp_region_lit ?_
      refine LG_val (want0 rfl) rfl rfl HH473 (Y_mov HH473 rfl rfl) (fun aa474 HH474 => ?_)
      clear HH473
      refine LG_val (want0 rfl) rfl rfl HH474 (Y_add HH474 rfl rfl rfl (IntWalk.i64_in _ (by omega))) (fun aa475 HH475 => ?_)
      clear HH474
      refine LG_val (want0 rfl) rfl rfl HH475 (Y_asg HH475 rfl rfl) (fun aa476 HH476 => ?_)
      clear HH475
      refine L_end (t_norm ?_)
      exact ⟨i + 1, ⟨rs, ar, cr, HH476.sub rfl, by omega, by omega, by omega, hdata, SS471.p3.p2.p3.t3⟩, by first | omega | (dsimp only; omega)⟩
    ·
      refine LG_val (HH37.want rfl rfl rfl) rfl rfl HH37 (Y_no (Y_lss HH37 rfl rfl rfl) (hlt2)) (fun aa477 HH477 => ?_)
      clear HH37
      refine LG_val (want0 rfl) rfl rfl HH477 (Y_pickT HH477 rfl rfl rfl) (fun aa478 HH478 => ?_)
      clear HH477
      refine L_end (t_norm (hKK31 _ _ ?_))
      refine c_no HH478 rfl ?_
      refine wp_exit (t_exit (t_exit (b_exit (t_norm (hKK26 _ _ ?_)))))
      refine wp_seq_k fun KK479 hKK479 => ?_
      refine wp_region_lit ?_
      refine LG_call (want0 rfl) rfl rfl rfl Try.func36 (by kernel_rfl) rfl HH478 (wakes05_ok SS29) rfl ?_
      rintro e ww480 ⟨rfl, SS480⟩
      refine ⟨_, rfl, fun aa480 HH480 => ?_⟩
      clear HH478
      clear SS29
      refine LG_val (want0 rfl) rfl rfl HH480 (Y_asg HH480 rfl rfl) (fun aa481 HH481 => ?_)
      clear HH480
      refine L_end (t_norm (hKK479 _ _ ?_))
      refine wp_ret (ret1 rfl HH481 rfl ?_)
      exact ⟨rfl, SS480.p2.below⟩
  ·
    refine LG_val (want0 rfl) rfl rfl HH34 (Y_no (Y_lss HH34 rfl rfl rfl) (hlt)) (fun aa482 HH482 => ?_)
    clear HH34
    refine LG_val (want0 rfl) rfl rfl HH482 (Y_mov HH482 rfl rfl) (fun aa483 HH483 => ?_)
    clear HH482
    refine LG_skip (HH483.unwant rfl rfl rfl rfl) rfl rfl HH483 (fun aa484 HH484 => ?_)
    clear HH483
    by_cases hlt2 : (i : Int) < 20
    ·
      refine LG_skip (HH484.unwant rfl rfl rfl rfl) rfl rfl HH484 (fun aa485 HH485 => ?_)
      clear HH484
      refine LG_val (want0 rfl) rfl rfl HH485 (Y_pickF HH485 rfl rfl rfl) (fun aa486 HH486 => ?_)
      clear HH485
      refine L_end (t_norm (hKK31 _ _ ?_))
      refine c_no HH486 rfl ?_
      refine wp_exit (t_exit (t_exit (b_exit (t_norm (hKK26 _ _ ?_)))))
      refine wp_seq_k fun KK487 hKK487 => ?_
      refine wp_region_lit ?_
      refine LG_call (want0 rfl) rfl rfl rfl Try.func36 (by kernel_rfl) rfl HH486 (wakes05_ok SS29) rfl ?_
      rintro e ww488 ⟨rfl, SS488⟩
      refine ⟨_, rfl, fun aa488 HH488 => ?_⟩
      clear HH486
      clear SS29
      refine LG_val (want0 rfl) rfl rfl HH488 (Y_asg HH488 rfl rfl) (fun aa489 HH489 => ?_)
      clear HH488
      refine L_end (t_norm (hKK487 _ _ ?_))
      refine wp_ret (ret1 rfl HH489 rfl ?_)
      exact ⟨rfl, SS488.p2.below⟩
    ·
      refine LG_skip (HH484.unwant rfl rfl rfl rfl) rfl rfl HH484 (fun aa490 HH490 => ?_)
      clear HH484
      refine LG_val (want0 rfl) rfl rfl HH490 (Y_pickF HH490 rfl rfl rfl) (fun aa491 HH491 => ?_)
      clear HH490
      refine L_end (t_norm (hKK31 _ _ ?_))
      refine c_no HH491 rfl ?_
      refine wp_exit (t_exit (t_exit (b_exit (t_norm (hKK26 _ _ ?_)))))
      refine wp_seq_k fun KK492 hKK492 => ?_
      refine wp_region_lit ?_
      refine LG_call (want0 rfl) rfl rfl rfl Try.func36 (by kernel_rfl) rfl HH491 (wakes05_ok SS29) rfl ?_
      rintro e ww493 ⟨rfl, SS493⟩
      refine ⟨_, rfl, fun aa493 HH493 => ?_⟩
      clear HH491
      clear SS29
      refine LG_val (want0 rfl) rfl rfl HH493 (Y_asg HH493 rfl rfl) (fun aa494 HH494 => ?_)
      clear HH493
      refine L_end (t_norm (hKK492 _ _ ?_))
      refine wp_ret (ret1 rfl HH494 rfl ?_)
      exact ⟨rfl, SS493.p2.below⟩
end Go.Proofs.Ytaekiecidbhjhaa
