/- CrcSums: the walk of the law. Printed by wip/specs/law01.py. -/
import Derived.Test.YtaekiecidbhjhaaSpoil
import Derived.Test.YtaekiecidbhjhaaBase2
namespace Go.Proofs.Ytaekiecidbhjhaa
open Go.RowKit

theorem Lent.rd {w : World} {l : List HProp} {q : Option Addr} {cs : List (BitVec 8)} (hs : Sat w (Bys (.slice q (cs.length + 3) (cs.length + 3)) (cs ++ [85#8, 85#8, 85#8]) :: l)) : RdY w (.slice q cs.length (cs.length + 3)) cs := by
  have h := RdY.upto (i := cs.length) (Bys.rd hs) (by simp) (by omega)
  rw [List.take_left] at h
  exact h

set_option maxRecDepth 100000 in
theorem crcSums_ok {w : World} (vb : Value) (bs : List (BitVec 8)) (bit cut : Int) (m : BitVec 16) (hbit1 : -9223372036854775808 ≤ bit) (hbit2 : bit ≤ 9223372036854775807) (hr : RdB w vb (yb bs)) (hb : bs.length ≤ 140737488355000) :
    Calls Try.prog 10 #[vb, VI bit, V16 m, VI cut] w fun e w' => e = .returned (VB true) ∧ Below w.heap.size w w' := by
  have S := Sat.old w
  refine enter (n := 108) Try.func10 rfl [(0, vb), (1, VI bit), (2, V16 m), (3, VI cut)] rfl rfl fun aa0 HH0 => ?_
  refine wp_seq_k fun KK1 hKK1 => ?_
  refine wp_region_lit ?_
  refine LG_val (want0 rfl) rfl rfl HH0 (Y_asg HH0 rfl rfl) (fun aa2 HH2 => ?_)
  clear HH0
  refine L_end (t_norm (hKK1 _ _ ?_))
  refine wp_seq_k fun KK3 hKK3 => ?_
  refine wp_region_lit ?_
  refine LG_val (want0 rfl) rfl rfl HH2 (Y_mov HH2 rfl rfl) (fun aa4 HH4 => ?_)
  clear HH2
  refine LG_call (want0 rfl) rfl rfl rfl Try.func55 (by kernel_rfl) rfl HH4 (ycut_ok (fun w' h => RdB.y (Rd.old hr h)) (by omega) 80 S) rfl ?_
  rintro e ww5 ⟨v19, rfl, SS5⟩
  have hcl : (bs.take 80).length ≤ 80 := by rw [List.length_take]; omega
  generalize bs.take 80 = cs at SS5 hcl ⊢
  obtain ⟨ab, cb, rfl, _, _⟩ := Bys.val SS5
  refine ⟨_, rfl, fun aa5 HH5 => ?_⟩
  clear HH4
  clear S
  refine LG_val (want0 rfl) rfl rfl HH5 (Y_asg HH5 rfl rfl) (fun aa6 HH6 => ?_)
  clear HH5
  refine L_end (t_norm (hKK3 _ _ ?_))
  refine wp_seq_k fun KK7 hKK7 => ?_
  refine wp_region_lit ?_
  refine LG_val (want0 rfl) rfl rfl HH6 (Y_mov HH6 rfl rfl) (fun aa8 HH8 => ?_)
  clear HH6
  refine LG_call (want0 rfl) rfl rfl rfl Try.func56 (by kernel_rfl) rfl HH8 (lend_ok (fun w' h => Bys.rd h) (by omega) SS5) rfl ?_
  rintro e ww9 ⟨q, rfl, SS9⟩
  refine ⟨_, rfl, fun aa9 HH9 => ?_⟩
  clear HH8
  clear SS5
  refine LG_val (want0 rfl) rfl rfl HH9 (Y_asg HH9 rfl rfl) (fun aa10 HH10 => ?_)
  clear HH9
  refine L_end (t_norm (hKK7 _ _ ?_))
  refine wp_seq_k fun KK11 hKK11 => ?_
  refine wp_seq_k fun KK12 hKK12 => ?_
  refine wp_region_lit ?_
  refine LG_val (want0 rfl) rfl rfl HH10 (Y_mov HH10 rfl rfl) (fun aa13 HH13 => ?_)
  clear HH10
  refine LG_call (want0 rfl) rfl rfl rfl Try.func57 (by kernel_rfl) rfl HH13 (sum_ok (Lent.rd SS9)) rfl ?_
  rintro e ww14 ⟨rfl, hk⟩
  have SS14 := hk.sat SS9
  refine ⟨_, rfl, fun aa14 HH14 => ?_⟩
  clear HH13
  clear SS9
  refine LG_val (want0 rfl) rfl rfl HH14 (Y_mov HH14 rfl rfl) (fun aa15 HH15 => ?_)
  clear HH14
  refine LG_call (want0 rfl) rfl rfl rfl Try.func58 (by kernel_rfl) rfl HH15 (rsum_ok (Bys.rd SS14.p1)) rfl ?_
  rintro e ww16 ⟨rfl, hk⟩
  have SS16 := hk.sat SS14
  refine ⟨_, rfl, fun aa16 HH16 => ?_⟩
  clear HH15
  clear SS14
  refine LG_val (want0 rfl) rfl rfl HH16 (Y_no (Y_neq HH16 rfl rfl rfl) (by simp)) (fun aa17 HH17 => ?_)
  clear HH16
  refine LG_val (want0 rfl) rfl rfl HH17 (Y_mov HH17 rfl rfl) (fun aa18 HH18 => ?_)
  clear HH17
  refine LG_val (HH18.want rfl rfl rfl) rfl rfl HH18 (Y_mov HH18 rfl rfl) (fun aa19 HH19 => ?_)
  clear HH18
  refine LG_call (HH19.want rfl rfl rfl) rfl rfl rfl Try.func60 (by kernel_rfl) rfl HH19 (seal_ok (fun w' h => Lent.rd h) (by omega) SS16) rfl ?_
  rintro e ww20 ⟨v29, rfl, SS20⟩
  refine ⟨_, rfl, fun aa20 HH20 => ?_⟩
  clear HH19
  clear SS16
  refine LG_val (HH20.want rfl rfl rfl) rfl rfl HH20 (Y_mov HH20 rfl rfl) (fun aa21 HH21 => ?_)
  clear HH20
  refine LG_call (HH21.want rfl rfl rfl) rfl rfl rfl Try.func61 (by kernel_rfl) rfl HH21 (rseal_ok (fun w' h => Bys.rd h) (by omega) SS20.p2) rfl ?_
  rintro e ww22 ⟨v31, rfl, SS22⟩
  refine ⟨_, rfl, fun aa22 HH22 => ?_⟩
  clear HH21
  clear SS20
  refine LG_call (HH22.want rfl rfl rfl) rfl rfl rfl Try.func59 (by kernel_rfl) rfl HH22 (ksameB_ok (Bys.rd SS22.p2).b (Bys.rd SS22).b) rfl ?_
  rintro e ww23 ⟨rfl, hk⟩
  have SS23 := hk.sat SS22
  rw [show (yb (cseal cs) == yb (cseal cs)) = true from by simp]
  refine ⟨_, rfl, fun aa23 HH23 => ?_⟩
  clear HH22
  clear SS22
  refine LG_val (HH23.want rfl rfl rfl) rfl rfl HH23 (Y_not HH23 rfl rfl) (fun aa24 HH24 => ?_)
  clear HH23
  refine LG_val (want0 rfl) rfl rfl HH24 (Y_pickF HH24 rfl rfl rfl) (fun aa25 HH25 => ?_)
  clear HH24
  refine LG_val (want0 rfl) rfl rfl HH25 (Y_mov HH25 rfl rfl) (fun aa26 HH26 => ?_)
  clear HH25
  refine LG_val (HH26.want rfl rfl rfl) rfl rfl HH26 (Y_mov HH26 rfl rfl) (fun aa27 HH27 => ?_)
  clear HH26
  refine LG_val (HH27.want rfl rfl rfl) rfl rfl HH27 (Y_mov HH27 rfl rfl) (fun aa28 HH28 => ?_)
  clear HH27
  refine LG_call (HH28.want rfl rfl rfl) rfl rfl rfl Try.func62 (by kernel_rfl) rfl HH28 (intact_ok (Bys.rd SS23.p3) (Bys.rd SS23.p1) (by omega)) rfl ?_
  rintro e ww29 ⟨rfl, hk⟩
  have SS29 := hk.sat SS23
  refine ⟨_, rfl, fun aa29 HH29 => ?_⟩
  clear HH28
  clear SS23
  refine LG_val (HH29.want rfl rfl rfl) rfl rfl HH29 (Y_not HH29 rfl rfl) (fun aa30 HH30 => ?_)
  clear HH29
  refine LG_val (want0 rfl) rfl rfl HH30 (Y_pickF HH30 rfl rfl rfl) (fun aa31 HH31 => ?_)
  clear HH30
  refine L_end (t_norm (hKK12 _ _ ?_))
  refine c_no HH31 rfl ?_
  refine wp_skip (t_norm (hKK11 _ _ ?_))
  refine c_cut (fun a wx => ∃ bit2 : Int, Fr a 108 [(0, .slice ab cs.length cb), (1, VI bit2), (2, V16 m), (3, VI cut), (8, VB false), (9, .slice q cs.length (cs.length + 3))] ∧ -9223372036854775808 ≤ bit2 ∧ bit2 ≤ 9223372036854775807 ∧ Sat wx [Bys (.slice ab cs.length cb) cs, Bys (.slice q (cs.length + 3) (cs.length + 3)) (cs ++ [85#8, 85#8, 85#8]), Old w]) ?_ ?_
  ·
    refine wp_seq_k fun KK32 hKK32 => ?_
    refine wp_region_lit ?_
    refine LG_val (want0 rfl) rfl rfl HH31 (Y_mov HH31 rfl rfl) (fun aa33 HH33 => ?_)
    clear HH31
    refine LG_val (want0 rfl) rfl rfl HH33 (Y_rem (r := cut.tmod 3) HH33 rfl rfl rfl (by omega) (rfl)) (fun aa34 HH34 => ?_)
    clear HH33
    by_cases h3 : cut.tmod 3 ≠ 0
    ·
      refine LG_val (want0 rfl) rfl rfl HH34 (Y_yes (Y_neq HH34 rfl rfl rfl) (h3)) (fun aa35 HH35 => ?_)
      clear HH34
      refine L_end (t_norm (hKK32 _ _ ?_))
      refine c_yes HH35 rfl ?_
      refine wp_region_lit ?_
      refine LG_val (want0 rfl) rfl rfl HH35 (Y_mov HH35 rfl rfl) (fun aa36 HH36 => ?_)
      clear HH35
      refine LG_call (want0 rfl) rfl rfl rfl Try.func17 (by kernel_rfl) rfl HH36 (within_ok bit 700 (by omega)) rfl ?_
      rintro e ww37 ⟨rfl, rfl⟩
      have hw0 := within_lo bit 700
      have hw1 := within_hi bit 700 (by omega)
      refine ⟨_, rfl, fun aa37 HH37 => ?_⟩
      clear HH36
      refine LG_val (want0 rfl) rfl rfl HH37 (Y_sub (r := (within bit 700 - 20)) HH37 rfl rfl rfl (IntWalk.i64_in _ (by omega))) (fun aa38 HH38 => ?_)
      clear HH37
      refine LG_val (want0 rfl) rfl rfl HH38 (Y_asg HH38 rfl rfl) (fun aa39 HH39 => ?_)
      clear HH38
      refine L_end (t_norm ?_)
      exact ⟨_, HH39.sub rfl, by omega, by omega, SS29.p4.p4.p3.t3⟩
    ·
      refine LG_val (want0 rfl) rfl rfl HH34 (Y_no (Y_neq HH34 rfl rfl rfl) (h3)) (fun aa40 HH40 => ?_)
      clear HH34
      refine L_end (t_norm (hKK32 _ _ ?_))
      refine c_no HH40 rfl ?_
      refine wp_skip (t_norm ?_)
      exact ⟨_, HH40.sub rfl, by omega, by omega, SS29.p4.p4.p3.t3⟩
  clear HH31
  clear SS29
  rintro aa41 ww41 ⟨bit2, HH41, hb1, hb2, SS41⟩
  refine wp_seq_k fun KK42 hKK42 => ?_
  refine wp_region_lit ?_
  refine LG_val (want0 rfl) rfl rfl HH41 (Y_mov HH41 rfl rfl) (fun aa43 HH43 => ?_)
  clear HH41
  refine LG_val (want0 rfl) rfl rfl HH43 (Y_mov HH43 rfl rfl) (fun aa44 HH44 => ?_)
  clear HH43
  refine LG_val (want0 rfl) rfl rfl HH44 (Y_mov HH44 rfl rfl) (fun aa45 HH45 => ?_)
  clear HH44
  refine LG_call (want0 rfl) rfl rfl rfl Try.func63 (by kernel_rfl) rfl HH45 (spoil_ok bit2 m hb1 hb2 (fun w' h => Lent.rd h) (by omega) SS41.p1) rfl ?_
  rintro e ww46 ⟨v50, rfl, SS46⟩
  obtain ⟨a50, c50, rfl, _, _⟩ := Bys.val SS46
  refine ⟨_, rfl, fun aa46 HH46 => ?_⟩
  clear HH45
  clear SS41
  refine LG_val (want0 rfl) rfl rfl HH46 (Y_asg HH46 rfl rfl) (fun aa47 HH47 => ?_)
  clear HH46
  refine L_end (t_norm (hKK42 _ _ ?_))
  refine wp_seq_k fun KK48 hKK48 => ?_
  refine wp_seq_k fun KK49 hKK49 => ?_
  refine wp_region_lit ?_
  refine LG_val (want0 rfl) rfl rfl HH47 (Y_mov HH47 rfl rfl) (fun aa50 HH50 => ?_)
  clear HH47
  refine LG_val (want0 rfl) rfl rfl HH50 (Y_mov HH50 rfl rfl) (fun aa51 HH51 => ?_)
  clear HH50
  refine LG_val (want0 rfl) rfl rfl HH51 (Y_mov HH51 rfl rfl) (fun aa52 HH52 => ?_)
  clear HH51
  refine LG_val (want0 rfl) rfl rfl HH52 (Y_mov HH52 rfl rfl) (fun aa53 HH53 => ?_)
  clear HH52
  refine LG_call (want0 rfl) rfl rfl rfl Try.func64 (by kernel_rfl) rfl HH53 (rspoil_ok bit2 m hb1 hb2 (fun w' h => Bys.rd h) (by omega) SS46.p2) rfl ?_
  rintro e ww54 ⟨v55, rfl, SS54⟩
  refine ⟨_, rfl, fun aa54 HH54 => ?_⟩
  clear HH53
  clear SS46
  refine LG_call (want0 rfl) rfl rfl rfl Try.func59 (by kernel_rfl) rfl HH54 (ksameB_ok (Bys.rd SS54.p2).b (Bys.rd SS54).b) rfl ?_
  rintro e ww55 ⟨rfl, hk⟩
  have SS55 := hk.sat SS54
  rw [show (yb (spoil cs bit2 m) == yb (spoil cs bit2 m)) = true from by simp]
  refine ⟨_, rfl, fun aa55 HH55 => ?_⟩
  clear HH54
  clear SS54
  refine LG_val (want0 rfl) rfl rfl HH55 (Y_not HH55 rfl rfl) (fun aa56 HH56 => ?_)
  clear HH55
  refine LG_val (want0 rfl) rfl rfl HH56 (Y_mov HH56 rfl rfl) (fun aa57 HH57 => ?_)
  clear HH56
  refine LG_val (HH57.want rfl rfl rfl) rfl rfl HH57 (Y_mov HH57 rfl rfl) (fun aa58 HH58 => ?_)
  clear HH57
  refine LG_val (HH58.want rfl rfl rfl) rfl rfl HH58 (Y_mov HH58 rfl rfl) (fun aa59 HH59 => ?_)
  clear HH58
  refine LG_call (HH59.want rfl rfl rfl) rfl rfl rfl Try.func62 (by kernel_rfl) rfl HH59 (intact_ok (Bys.rd SS55.p3) (Bys.rd SS55.p1) (by omega)) rfl ?_
  rintro e ww60 ⟨rfl, hk⟩
  have SS60 := hk.sat SS55
  refine ⟨_, rfl, fun aa60 HH60 => ?_⟩
  clear HH59
  clear SS55
  refine LG_val (HH60.want rfl rfl rfl) rfl rfl HH60 (Y_not HH60 rfl rfl) (fun aa61 HH61 => ?_)
  clear HH60
  refine LG_val (want0 rfl) rfl rfl HH61 (Y_pickF HH61 rfl rfl rfl) (fun aa62 HH62 => ?_)
  clear HH61
  refine L_end (t_norm (hKK49 _ _ ?_))
  refine c_no HH62 rfl ?_
  refine wp_skip (t_norm (hKK48 _ _ ?_))
  refine wp_seq_k fun KK63 hKK63 => ?_
  refine wp_region_lit ?_
  refine LG_val (want0 rfl) rfl rfl HH62 (Y_mov HH62 rfl rfl) (fun aa64 HH64 => ?_)
  clear HH62
  refine LG_call (want0 rfl) rfl rfl rfl Try.func61 (by kernel_rfl) rfl HH64 (rseal_ok (fun w' h => Bys.rd h) (by omega) SS60.p1) rfl ?_
  rintro e ww65 ⟨v65, rfl, SS65⟩
  obtain ⟨a65, c65, rfl, hc65, _⟩ := Bys.val SS65
  have hsl : (cseal cs).length = cs.length + 2 := by simp [cseal]
  refine ⟨_, rfl, fun aa65 HH65 => ?_⟩
  clear HH64
  clear SS60
  refine LG_val (want0 rfl) rfl rfl HH65 (Y_asg HH65 rfl rfl) (fun aa66 HH66 => ?_)
  clear HH65
  refine L_end (t_norm (hKK63 _ _ ?_))
  refine wp_seq_k fun KK67 hKK67 => ?_
  refine wp_region_lit ?_
  refine LG_val (want0 rfl) rfl rfl HH66 (Y_mov HH66 rfl rfl) (fun aa68 HH68 => ?_)
  clear HH66
  refine LG_val (want0 rfl) rfl rfl HH68 (Y_mov HH68 rfl rfl) (fun aa69 HH69 => ?_)
  clear HH68
  refine LG_val (want0 rfl) rfl rfl HH69 (Y_mov HH69 rfl rfl) (fun aa70 HH70 => ?_)
  clear HH69
  refine LG_val (want0 rfl) rfl rfl HH70 (Y_lenS HH70 rfl (by kernel_rfl) rfl) (fun aa71 HH71 => ?_)
  clear HH70
  refine LG_val (want0 rfl) rfl rfl HH71 (Y_add (r := (((cseal cs).length + 1 : Nat) : Int)) HH71 rfl rfl rfl (by rw [IntWalk.i64_in _ (by omega)]; omega)) (fun aa72 HH72 => ?_)
  clear HH71
  refine LG_call (want0 rfl) rfl rfl rfl Try.func17 (by kernel_rfl) rfl HH72 (within_ok cut (((cseal cs).length + 1 : Nat) : Int) (by omega)) rfl ?_
  rintro e ww73 ⟨rfl, rfl⟩
  have hk0 := within_lo cut (((cseal cs).length + 1 : Nat) : Int)
  have hk1 := within_hi cut (((cseal cs).length + 1 : Nat) : Int) (by omega)
  obtain ⟨k, hkk⟩ : ∃ k : Nat, within cut (((cseal cs).length + 1 : Nat) : Int) = (k : Int) := ⟨(within cut (((cseal cs).length + 1 : Nat) : Int)).toNat, by omega⟩
  rw [hkk] at hk0 hk1 ⊢
  refine ⟨_, rfl, fun aa73 HH73 => ?_⟩
  clear HH72
  refine LG_val (want0 rfl) rfl rfl HH73 (Y_sliceTo (hi := k) HH73 rfl ty_bytes rfl rfl (by omega)) (fun aa74 HH74 => ?_)
  clear HH73
  refine LG_val (want0 rfl) rfl rfl HH74 (Y_asg HH74 rfl rfl) (fun aa75 HH75 => ?_)
  clear HH74
  refine L_end (t_norm (hKK67 _ _ ?_))
  refine wp_seq_k fun KK76 hKK76 => ?_
  refine wp_seq_k fun KK77 hKK77 => ?_
  refine wp_region_lit ?_
  refine LG_val (want0 rfl) rfl rfl HH75 (Y_mov HH75 rfl rfl) (fun aa78 HH78 => ?_)
  clear HH75
  refine LG_val (want0 rfl) rfl rfl HH78 (Y_mov HH78 rfl rfl) (fun aa79 HH79 => ?_)
  clear HH78
  refine LG_val (want0 rfl) rfl rfl HH79 (Y_mov HH79 rfl rfl) (fun aa80 HH80 => ?_)
  clear HH79
  refine LG_val (want0 rfl) rfl rfl HH80 (Y_mov HH80 rfl rfl) (fun aa81 HH81 => ?_)
  clear HH80
  refine LG_call (want0 rfl) rfl rfl rfl Try.func61 (by kernel_rfl) rfl HH81 (rseal_ok (fun w' h => Bys.rd h) (by omega) SS65.p1) rfl ?_
  rintro e ww82 ⟨v77, rfl, SS82⟩
  refine ⟨_, rfl, fun aa82 HH82 => ?_⟩
  clear HH81
  clear SS65
  refine LG_val (want0 rfl) rfl rfl HH82 (Y_mov HH82 rfl rfl) (fun aa83 HH83 => ?_)
  clear HH82
  refine LG_val (want0 rfl) rfl rfl HH83 (Y_mov HH83 rfl rfl) (fun aa84 HH84 => ?_)
  clear HH83
  refine LG_call (want0 rfl) rfl rfl rfl Try.func64 (by kernel_rfl) rfl HH84 (rspoil_ok bit2 m hb1 hb2 (fun w' h => Bys.rd h) (by omega) SS82) rfl ?_
  rintro e ww85 ⟨v80, rfl, SS85⟩
  obtain ⟨a80, c80, rfl, _, _⟩ := Bys.val SS85
  have hspl : (spoil cs bit2 m).length = cs.length := rmp_len _ _
  have hspl2 : (spoil (cseal cs) bit2 m).length = (cseal cs).length := rmp_len _ _
  refine ⟨_, rfl, fun aa85 HH85 => ?_⟩
  clear HH84
  clear SS82
  refine LG_do (want0 rfl) rfl rfl HH85 (M_buildSlice HH85 rfl ty_bytess rfl rfl rfl (by simp [Value.cells]) rfl SS85) ?_
  rintro _ ww86 ⟨b81, rfl, SS86, _⟩ aa86 HH86
  clear HH85
  clear SS85
  refine LG_val (want0 rfl) rfl rfl HH86 (Y_lenS HH86 rfl (by kernel_rfl) rfl) (fun aa87 HH87 => ?_)
  clear HH86
  refine LG_val (want0 rfl) rfl rfl HH87 (Y_mov HH87 rfl rfl) (fun aa88 HH88 => ?_)
  clear HH87
  refine L_end (t_norm (hKK77 _ _ ?_))
  refine wp_block ?_
  refine c_loop (σ := Nat) (fun (i : Nat) a wx => Fr a 108 [(8, VB false), (81, .slice (some ⟨b81, 0, none⟩) 4 4), (82, VI 4), (83, VI i)] ∧ i ≤ 4 ∧ Sat wx [Sl 90 1 (.slice (some ⟨b81, 0, none⟩) 4 4) 4 [.slice ab cs.length cb, .slice a50 (spoil cs bit2 m).length c50, .slice a65 k c65, .slice a80 (spoil (cseal cs) bit2 m).length c80], Bys (.slice ab cs.length cb) cs, Bys (.slice a50 (spoil cs bit2 m).length c50) (spoil cs bit2 m), Bys (.slice a65 (cseal cs).length c65) (cseal cs), Bys (.slice a80 (spoil (cseal cs) bit2 m).length c80) (spoil (cseal cs) bit2 m), Old w]) (fun i => 4 - i) (0) ?_ ?_
  · exact ⟨HH88.sub rfl, Nat.zero_le _, SS86.p8.p2.p5.p7.p6.p5.t6⟩
  clear HH88
  clear SS86
  rintro i aa89 ww89 ⟨HH89, hi, SS89⟩
  refine wp_seq_k fun KK90 hKK90 => ?_
  refine wp_region_lit ?_
  by_cases hlt : (i : Int) < 4
  ·
    refine LG_val (want0 rfl) rfl rfl HH89 (Y_yes (Y_lss HH89 rfl rfl rfl) (hlt)) (fun aa91 HH91 => ?_)
    clear HH89
    refine L_end (t_norm (hKK90 _ _ ?_))
    refine wp_seq_k fun KK92 hKK92 => ?_
    refine c_yes HH91 rfl ?_
    refine wp_skip (t_norm (hKK92 _ _ ?_))
    refine wp_seq_k fun KK93 hKK93 => ?_
    refine wp_block ?_
    refine wp_seq_k fun KK94 hKK94 => ?_
    have key : ∃ (yv : Value) (ys : List (BitVec 8)), ([.slice ab cs.length cb, .slice a50 (spoil cs bit2 m).length c50, .slice a65 k c65, .slice a80 (spoil (cseal cs) bit2 m).length c80] : List Value)[i]? = some yv ∧ ys.length ≤ 200 ∧ ∀ w', Sat w' [Sl 90 1 (.slice (some ⟨b81, 0, none⟩) 4 4) 4 [.slice ab cs.length cb, .slice a50 (spoil cs bit2 m).length c50, .slice a65 k c65, .slice a80 (spoil (cseal cs) bit2 m).length c80], Bys (.slice ab cs.length cb) cs, Bys (.slice a50 (spoil cs bit2 m).length c50) (spoil cs bit2 m), Bys (.slice a65 (cseal cs).length c65) (cseal cs), Bys (.slice a80 (spoil (cseal cs) bit2 m).length c80) (spoil (cseal cs) bit2 m), Old w] → RdY w' yv ys := by
      have h4 : i = 0 ∨ i = 1 ∨ i = 2 ∨ i = 3 := by omega
      rcases h4 with rfl | rfl | rfl | rfl
      · exact ⟨_, cs, rfl, by omega, fun w' h => Bys.rd h.p1⟩
      · exact ⟨_, spoil cs bit2 m, rfl, by rw [hspl]; omega, fun w' h => Bys.rd h.p2⟩
      · exact ⟨_, (cseal cs).take k, rfl, by rw [List.length_take]; omega, fun w' h => RdY.upto (Bys.rd h.p3) rfl (by omega)⟩
      · exact ⟨_, spoil (cseal cs) bit2 m, rfl, by rw [hspl2]; omega, fun w' h => Bys.rd h.p4⟩
    obtain ⟨yv, ys, hyv, hyl, hry⟩ := key
    refine wp_region_lit ?_
    refine LG_val (want0 rfl) rfl rfl HH91 (Y_idx (q := 0 + i) HH91 rfl ty_bytess rfl rfl (by omega) (by omega) (by simp)) (fun aa95 HH95 => ?_)
    clear HH91
    refine LG_val (want0 rfl) rfl rfl HH95 (Y_load HH95 rfl (by kernel_rfl) rfl (Sl.atE rfl SS89 i yv hyv)) (fun aa96 HH96 => ?_)
    clear HH95
    refine LG_val (want0 rfl) rfl rfl HH96 (Y_asg HH96 rfl rfl) (fun aa97 HH97 => ?_)
    clear HH96
    refine L_end (t_norm (hKK94 _ _ ?_))
    refine wp_seq_k fun KK98 hKK98 => ?_
    refine wp_region_lit ?_
    refine LG_val (want0 rfl) rfl rfl HH97 (Y_mov HH97 rfl rfl) (fun aa99 HH99 => ?_)
    clear HH97
    refine LG_call (want0 rfl) rfl rfl rfl Try.func65 (by kernel_rfl) rfl HH99 (open_ok hry (by omega) SS89) rfl ?_
    rintro e ww100 ⟨p1, rfl, SS100⟩
    refine ⟨_, rfl, fun aa100 HH100 => ?_⟩
    clear HH99
    clear SS89
    refine LG_val (want0 rfl) rfl rfl HH100 (Y_mov HH100 rfl rfl) (fun aa101 HH101 => ?_)
    clear HH100
    refine LG_val (want0 rfl) rfl rfl HH101 (Y_ext HH101 rfl rfl rfl) (fun aa102 HH102 => ?_)
    clear HH101
    refine LG_val (want0 rfl) rfl rfl HH102 (Y_ext HH102 rfl rfl rfl) (fun aa103 HH103 => ?_)
    clear HH102
    refine LG_val (want0 rfl) rfl rfl HH103 (Y_asg HH103 rfl rfl) (fun aa104 HH104 => ?_)
    clear HH103
    refine LG_val (want0 rfl) rfl rfl HH104 (Y_asg HH104 rfl rfl) (fun aa105 HH105 => ?_)
    clear HH104
    refine L_end (t_norm (hKK98 _ _ ?_))
    refine wp_seq_k fun KK106 hKK106 => ?_
    refine wp_region_lit ?_
    refine LG_val (want0 rfl) rfl rfl HH105 (Y_mov HH105 rfl rfl) (fun aa107 HH107 => ?_)
    clear HH105
    refine LG_call (want0 rfl) rfl rfl rfl Try.func66 (by kernel_rfl) rfl HH107 (ropen_ok (fun w' h => hry w' h.tail) (by omega) SS100) rfl ?_
    rintro e ww108 ⟨p2, rfl, SS108⟩
    refine ⟨_, rfl, fun aa108 HH108 => ?_⟩
    clear HH107
    clear SS100
    refine LG_val (want0 rfl) rfl rfl HH108 (Y_mov HH108 rfl rfl) (fun aa109 HH109 => ?_)
    clear HH108
    refine LG_val (want0 rfl) rfl rfl HH109 (Y_ext HH109 rfl rfl rfl) (fun aa110 HH110 => ?_)
    clear HH109
    refine LG_val (want0 rfl) rfl rfl HH110 (Y_ext HH110 rfl rfl rfl) (fun aa111 HH111 => ?_)
    clear HH110
    refine LG_val (want0 rfl) rfl rfl HH111 (Y_asg HH111 rfl rfl) (fun aa112 HH112 => ?_)
    clear HH111
    refine LG_val (want0 rfl) rfl rfl HH112 (Y_asg HH112 rfl rfl) (fun aa113 HH113 => ?_)
    clear HH112
    refine L_end (t_norm (hKK106 _ _ ?_))
    refine wp_seq_k fun KK114 hKK114 => ?_
    refine wp_region_lit ?_
    refine LG_val (want0 rfl) rfl rfl HH113 (Y_mov HH113 rfl rfl) (fun aa115 HH115 => ?_)
    clear HH113
    refine LG_val (want0 rfl) rfl rfl HH115 (Y_mov HH115 rfl rfl) (fun aa116 HH116 => ?_)
    clear HH115
    refine LG_val (want0 rfl) rfl rfl HH116 (Y_to (Y_neqB HH116 rfl (by kernel_rfl) rfl rfl) (show (decide (sealed ys) != decide (sealed ys)) = false by simp)) (fun aa117 HH117 => ?_)
    clear HH116
    refine LG_val (want0 rfl) rfl rfl HH117 (Y_mov HH117 rfl rfl) (fun aa118 HH118 => ?_)
    clear HH117
    refine LG_val (HH118.want rfl rfl rfl) rfl rfl HH118 (Y_mov HH118 rfl rfl) (fun aa119 HH119 => ?_)
    clear HH118
    refine LG_val (HH119.want rfl rfl rfl) rfl rfl HH119 (Y_mov HH119 rfl rfl) (fun aa120 HH120 => ?_)
    clear HH119
    refine LG_call (HH120.want rfl rfl rfl) rfl rfl rfl Try.func59 (by kernel_rfl) rfl HH120 (ksameB_ok (Bys.rd SS108.p1).b (Bys.rd SS108).b) rfl ?_
    rintro e ww121 ⟨rfl, hk⟩
    have SS121 := hk.sat SS108
    rw [show (yb (opened ys) == yb (opened ys)) = true from by simp]
    refine ⟨_, rfl, fun aa121 HH121 => ?_⟩
    clear HH120
    clear SS108
    refine LG_val (HH121.want rfl rfl rfl) rfl rfl HH121 (Y_not HH121 rfl rfl) (fun aa122 HH122 => ?_)
    clear HH121
    refine LG_val (want0 rfl) rfl rfl HH122 (Y_pickF HH122 rfl rfl rfl) (fun aa123 HH123 => ?_)
    clear HH122
    refine L_end (t_norm (hKK114 _ _ ?_))
    refine c_no HH123 rfl ?_
    refine wp_skip (b_norm (t_norm (hKK93 _ _ ?_)))
    refine wp_region_lit ?_
    refine LG_val (want0 rfl) rfl rfl HH123 (Y_add HH123 rfl rfl rfl (IntWalk.i64_in _ (by omega))) (fun aa124 HH124 => ?_)
    clear HH123
    refine LG_val (want0 rfl) rfl rfl HH124 (Y_mov HH124 rfl rfl) (fun aa125 HH125 => ?_)
    clear HH124
    refine L_end (t_norm ?_)
    exact ⟨i + 1, ⟨HH125.sub rfl, by omega, SS121.p7.p7.p7.p7.p7.p7.t6⟩, by first | omega | (dsimp only; omega)⟩
  ·
    refine LG_val (want0 rfl) rfl rfl HH89 (Y_no (Y_lss HH89 rfl rfl rfl) (hlt)) (fun aa126 HH126 => ?_)
    clear HH89
    refine L_end (t_norm (hKK90 _ _ ?_))
    refine wp_seq_k fun KK127 hKK127 => ?_
    refine c_no HH126 rfl ?_
    refine wp_exit (t_exit (t_exit (b_exit (t_norm (hKK76 _ _ ?_)))))
    refine wp_seq_k fun KK128 hKK128 => ?_
    refine wp_region_lit ?_
    refine LG_call (want0 rfl) rfl rfl rfl Try.func67 (by kernel_rfl) rfl HH126 (wakes01_ok SS89) rfl ?_
    rintro e ww129 ⟨rfl, SS129⟩
    refine ⟨_, rfl, fun aa129 HH129 => ?_⟩
    clear HH126
    clear SS89
    refine LG_val (want0 rfl) rfl rfl HH129 (Y_asg HH129 rfl rfl) (fun aa130 HH130 => ?_)
    clear HH129
    refine L_end (t_norm (hKK128 _ _ ?_))
    refine wp_ret (ret1 rfl HH130 rfl ?_)
    exact ⟨rfl, SS129.p5.below⟩
theorem crcSums_row {w : World} (vb : Value) (xs : List Int) (bit mask cut : Int) (hw : ∀ x ∈ xs, (Lit.int .u8 x).wf = true) (hm : (Lit.int .u16 mask).wf = true) (hbit : (Lit.int .i64 bit).wf = true) (hr : RdB w vb xs) (hb : xs.length ≤ 140737488355000) :
    Calls Try.prog 10 #[vb, VI bit, .int .u16 mask, VI cut] w fun e w' => e = .returned (VB true) ∧ Below w.heap.size w w' := by
  simp [Lit.wf, IntKind.min, IntKind.max, IntKind.signed, IntKind.bits] at hm hbit
  have hx : ∀ x ∈ xs, 0 ≤ x ∧ x < 256 := fun x h => by
    have := hw x h
    simp [Lit.wf, IntKind.min, IntKind.max, IntKind.signed, IntKind.bits] at this
    omega
  have e := yb_of xs hx
  have em : mask = (((BitVec.ofInt 16 mask).toNat : Nat) : Int) := by
    rw [BitVec.toNat_ofInt]; omega
  rw [em]
  rw [e] at hr
  exact crcSums_ok vb _ bit cut _ (by omega) (by omega) hr (by rw [List.length_map]; exact hb)
end Go.Proofs.Ytaekiecidbhjhaa
