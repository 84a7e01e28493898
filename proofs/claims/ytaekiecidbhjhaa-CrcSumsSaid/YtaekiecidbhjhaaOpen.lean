/- crc.Open, chapletref01.Open. Printed by wip/specs/open.py. -/
import Derived.Test.YtaekiecidbhjhaaBytes
namespace Go.Proofs.Ytaekiecidbhjhaa
open Go.RowKit

/-- Bytes that end in their sum. -/
def sealed (bs : List (BitVec 8)) : Prop := 2 ≤ bs.length ∧ cseal (bs.take (bs.length - 2)) = bs
instance (bs : List (BitVec 8)) : Decidable (sealed bs) := by unfold sealed; infer_instance
def opened (bs : List (BitVec 8)) : List (BitVec 8) := if sealed bs then bs.take (bs.length - 2) else []
theorem D_ylY {P : Program} {o : Oper} {a : Act} {w : World} {v : Value} (h : Yl P o a w v) : Does P o a w fun v' w' => v' = v ∧ w = w' := Does.of_value h ⟨rfl, rfl⟩

set_option maxRecDepth 100000 in
theorem open_ok {w : World} {l : List HProp} {v : Value} {bs : List (BitVec 8)} (hr : ∀ w', Sat w' l → RdY w' v bs) (hb : bs.length ≤ 140737488350000) (S : Sat w l) :
    Calls Try.prog 65 #[v] w fun e w' => ∃ v', e = .returned (.tuple #[v', VB (decide (sealed bs))]) ∧ Sat w' (Bys v' (opened bs) :: l) := by
  obtain ⟨pa, pc, rfl, hpl1, hpl2⟩ := Rd.val (hr _ S)
  refine enter (n := 23) Try.func65 rfl [(0, .slice pa bs.length pc)] rfl rfl fun aa0 HH0 => ?_
  refine wp_seq_k fun KK1 hKK1 => ?_
  refine wp_region_lit ?_
  refine LG_val (want0 rfl) rfl rfl HH0 (Y_asg HH0 rfl rfl) (fun aa2 HH2 => ?_)
  clear HH0
  refine LG_val (want0 rfl) rfl rfl HH2 (Y_asg HH2 rfl rfl) (fun aa3 HH3 => ?_)
  clear HH2
  refine L_end (t_norm (hKK1 _ _ ?_))
  refine wp_seq_k fun KK4 hKK4 => ?_
  refine wp_region_lit ?_
  refine LG_val (want0 rfl) rfl rfl HH3 (Y_mov HH3 rfl rfl) (fun aa5 HH5 => ?_)
  clear HH3
  refine LG_val (want0 rfl) rfl rfl HH5 (Y_lenS HH5 rfl (by kernel_rfl) rfl) (fun aa6 HH6 => ?_)
  clear HH5
  refine LG_val (want0 rfl) rfl rfl HH6 (Y_sub (r := ((bs.length : Int) - 2)) HH6 rfl rfl rfl (IntWalk.i64_in _ (by omega))) (fun aa7 HH7 => ?_)
  clear HH6
  refine LG_val (want0 rfl) rfl rfl HH7 (Y_asg HH7 rfl rfl) (fun aa8 HH8 => ?_)
  clear HH7
  refine L_end (t_norm (hKK4 _ _ ?_))
  refine wp_seq_k fun KK9 hKK9 => ?_
  refine wp_seq_k fun KK10 hKK10 => ?_
  refine wp_region_lit ?_
  refine LG_val (want0 rfl) rfl rfl HH8 (Y_mov HH8 rfl rfl) (fun aa11 HH11 => ?_)
  clear HH8
  by_cases h2 : (bs.length : Int) - 2 < 0
  ·
    refine LG_val (want0 rfl) rfl rfl HH11 (Y_yes (Y_lss HH11 rfl rfl rfl) (h2)) (fun aa12 HH12 => ?_)
    clear HH11
    refine LG_val (want0 rfl) rfl rfl HH12 (Y_mov HH12 rfl rfl) (fun aa13 HH13 => ?_)
    clear HH12
    refine LG_skip (HH13.unwant rfl rfl rfl rfl) rfl rfl HH13 (fun aa14 HH14 => ?_)
    clear HH13
    refine LG_skip (HH14.unwant rfl rfl rfl rfl) rfl rfl HH14 (fun aa15 HH15 => ?_)
    clear HH14
    refine LG_skip (HH15.unwant rfl rfl rfl rfl) rfl rfl HH15 (fun aa16 HH16 => ?_)
    clear HH15
    refine LG_skip (HH16.unwant rfl rfl rfl rfl) rfl rfl HH16 (fun aa17 HH17 => ?_)
    clear HH16
    refine LG_skip (HH17.unwant rfl rfl rfl rfl) rfl rfl HH17 (fun aa18 HH18 => ?_)
    clear HH17
    refine LG_skip (HH18.unwant rfl rfl rfl rfl) rfl rfl HH18 (fun aa19 HH19 => ?_)
    clear HH18
    refine LG_skip (HH19.unwant rfl rfl rfl rfl) rfl rfl HH19 (fun aa20 HH20 => ?_)
    clear HH19
    refine LG_val (want0 rfl) rfl rfl HH20 (Y_pickT HH20 rfl rfl rfl) (fun aa21 HH21 => ?_)
    clear HH20
    refine L_end (t_norm (hKK10 _ _ ?_))
    refine c_yes HH21 rfl ?_
    refine wp_seq_k fun KK22 hKK22 => ?_
    refine wp_region_lit ?_
    refine LG_val (want0 rfl) rfl rfl HH21 (Y_asg HH21 rfl rfl) (fun aa23 HH23 => ?_)
    clear HH21
    refine LG_val (want0 rfl) rfl rfl HH23 (Y_asg HH23 rfl rfl) (fun aa24 HH24 => ?_)
    clear HH23
    refine L_end (t_norm (hKK22 _ _ ?_))
    refine wp_ret (t_ret (ret2 rfl HH24 rfl rfl ?_))
    have hg2 : ¬ sealed bs := fun h => by have := h.1; omega
    refine ⟨VNil, by rw [decide_eq_false hg2], ?_⟩
    rw [opened, if_neg hg2]
    exact Bys.nil S
  ·
    refine LG_val (want0 rfl) rfl rfl HH11 (Y_no (Y_lss HH11 rfl rfl rfl) (h2)) (fun aa25 HH25 => ?_)
    clear HH11
    refine LG_val (want0 rfl) rfl rfl HH25 (Y_mov HH25 rfl rfl) (fun aa26 HH26 => ?_)
    clear HH25
    have hsub : (bs.length : Int) - 2 = ((bs.length - 2 : Nat) : Int) := by omega
    rw [hsub] at HH26
    refine LG_val (HH26.want rfl rfl rfl) rfl rfl HH26 (Y_mov HH26 rfl rfl) (fun aa27 HH27 => ?_)
    clear HH26
    refine LG_val (HH27.want rfl rfl rfl) rfl rfl HH27 (Y_mov HH27 rfl rfl) (fun aa28 HH28 => ?_)
    clear HH27
    refine LG_val (HH28.want rfl rfl rfl) rfl rfl HH28 (Y_sliceTo (hi := (bs.length - 2)) HH28 rfl ty_bytes rfl rfl (by omega)) (fun aa29 HH29 => ?_)
    clear HH28
    refine LG_call (HH29.want rfl rfl rfl) rfl rfl rfl Try.func60 (by kernel_rfl) rfl HH29 (seal_ok (fun w' h => RdY.upto (hr w' h) rfl (by omega)) (by rw [List.length_take]; omega) S) rfl ?_
    rintro e ww30 ⟨v14, rfl, SS30⟩
    refine ⟨_, rfl, fun aa30 HH30 => ?_⟩
    clear HH29
    clear S
    refine LG_val (HH30.want rfl rfl rfl) rfl rfl HH30 (Y_mov HH30 rfl rfl) (fun aa31 HH31 => ?_)
    clear HH30
    by_cases hg : cseal (bs.take (bs.length - 2)) = bs
    ·
      refine LG_call (HH31.want rfl rfl rfl) rfl rfl rfl Try.func94 (by kernel_rfl) rfl HH31 (yequal_ok (Bys.rd SS30) (hr _ SS30.tail)) rfl ?_
      rintro e ww32 ⟨rfl, rfl⟩
      rw [decide_eq_true hg]
      refine ⟨_, rfl, fun aa32 HH32 => ?_⟩
      clear HH31
      refine LG_val (HH32.want rfl rfl rfl) rfl rfl HH32 (Y_not HH32 rfl rfl) (fun aa33 HH33 => ?_)
      clear HH32
      refine LG_val (want0 rfl) rfl rfl HH33 (Y_pickF HH33 rfl rfl rfl) (fun aa34 HH34 => ?_)
      clear HH33
      refine L_end (t_norm (hKK10 _ _ ?_))
      refine c_no HH34 rfl ?_
      refine wp_skip (t_norm (hKK9 _ _ ?_))
      refine wp_seq_k fun KK35 hKK35 => ?_
      refine wp_region_lit ?_
      refine LG_val (want0 rfl) rfl rfl HH34 (Y_mov HH34 rfl rfl) (fun aa36 HH36 => ?_)
      clear HH34
      refine LG_val (want0 rfl) rfl rfl HH36 (Y_mov HH36 rfl rfl) (fun aa37 HH37 => ?_)
      clear HH36
      refine LG_val (want0 rfl) rfl rfl HH37 (Y_sliceTo (hi := (bs.length - 2)) HH37 rfl ty_bytes rfl rfl (by omega)) (fun aa38 HH38 => ?_)
      clear HH37
      refine LG_call (want0 rfl) rfl rfl rfl Try.func93 (by kernel_rfl) rfl HH38 (yclone_ok (fun w' h => RdY.upto (hr w' h.tail) rfl (by omega)) (by rw [List.length_take]; omega) SS30) rfl ?_
      rintro e ww39 ⟨v22, rfl, SS39⟩
      refine ⟨_, rfl, fun aa39 HH39 => ?_⟩
      clear HH38
      clear SS30
      refine LG_val (want0 rfl) rfl rfl HH39 (Y_asg HH39 rfl rfl) (fun aa40 HH40 => ?_)
      clear HH39
      refine LG_val (want0 rfl) rfl rfl HH40 (Y_asg HH40 rfl rfl) (fun aa41 HH41 => ?_)
      clear HH40
      refine L_end (t_norm (hKK35 _ _ ?_))
      refine wp_ret (ret2 rfl HH41 rfl rfl ?_)
      have hg2 : sealed bs := ⟨by omega, hg⟩
      refine ⟨_, by rw [decide_eq_true hg2], ?_⟩
      rw [opened, if_pos hg2]
      exact SS39.p1.p1.d1
    ·
      refine LG_call (HH31.want rfl rfl rfl) rfl rfl rfl Try.func94 (by kernel_rfl) rfl HH31 (yequal_ok (Bys.rd SS30) (hr _ SS30.tail)) rfl ?_
      rintro e ww42 ⟨rfl, rfl⟩
      rw [decide_eq_false hg]
      refine ⟨_, rfl, fun aa42 HH42 => ?_⟩
      clear HH31
      refine LG_val (HH42.want rfl rfl rfl) rfl rfl HH42 (Y_not HH42 rfl rfl) (fun aa43 HH43 => ?_)
      clear HH42
      refine LG_val (want0 rfl) rfl rfl HH43 (Y_pickF HH43 rfl rfl rfl) (fun aa44 HH44 => ?_)
      clear HH43
      refine L_end (t_norm (hKK10 _ _ ?_))
      refine c_yes HH44 rfl ?_
      refine wp_seq_k fun KK45 hKK45 => ?_
      refine wp_region_lit ?_
      refine LG_val (want0 rfl) rfl rfl HH44 (Y_asg HH44 rfl rfl) (fun aa46 HH46 => ?_)
      clear HH44
      refine LG_val (want0 rfl) rfl rfl HH46 (Y_asg HH46 rfl rfl) (fun aa47 HH47 => ?_)
      clear HH46
      refine L_end (t_norm (hKK45 _ _ ?_))
      refine wp_ret (t_ret (ret2 rfl HH47 rfl rfl ?_))
      have hg2 : ¬ sealed bs := fun h => hg h.2
      refine ⟨VNil, by rw [decide_eq_false hg2], ?_⟩
      rw [opened, if_neg hg2]
      exact Bys.nil SS30.tail

set_option maxRecDepth 100000 in
theorem ropen_ok {w : World} {l : List HProp} {v : Value} {bs : List (BitVec 8)} (hr : ∀ w', Sat w' l → RdY w' v bs) (hb : bs.length ≤ 140737488350000) (S : Sat w l) :
    Calls Try.prog 66 #[v] w fun e w' => ∃ v', e = .returned (.tuple #[v', VB (decide (sealed bs))]) ∧ Sat w' (Bys v' (opened bs) :: l) := by
  obtain ⟨pa, pc, rfl, hpl1, hpl2⟩ := Rd.val (hr _ S)
  refine enter (n := 25) Try.func66 rfl [(0, .slice pa bs.length pc)] rfl rfl fun aa0 HH0 => ?_
  refine wp_seq_k fun KK1 hKK1 => ?_
  refine wp_region_lit ?_
  refine LG_val (want0 rfl) rfl rfl HH0 (Y_asg HH0 rfl rfl) (fun aa2 HH2 => ?_)
  clear HH0
  refine LG_val (want0 rfl) rfl rfl HH2 (Y_asg HH2 rfl rfl) (fun aa3 HH3 => ?_)
  clear HH2
  refine L_end (t_norm (hKK1 _ _ ?_))
  refine wp_seq_k fun KK4 hKK4 => ?_
  refine wp_seq_k fun KK5 hKK5 => ?_
  -- region 1, drawn
  by_cases h2 : (bs.length : Int) < 2
  ·
    refine N_begin (fun w' => Sat w' _) (.val 0 (.val 1 (.val 2 (.val 3 (.val 4 (.val 5 (.val 6 (.val 7 (.val 8 (.val 9 (.val 10 (.val 11 (.val 12 (.val 13 (.val 14 .fin))))))))))))))) (by kernel_rfl) (by kernel_rfl) (by kernel_rfl) (by kernel_rfl) (fun _ _ _ _ _ h => h) (S.drew) (fun ww6 SS6 _ => ?_)
    clear S
    refine N_val rfl (want0 rfl) rfl rfl HH3 (fun ww6 SS6 => Y_mov HH3 rfl rfl) (fun aa7 HH7 => ?_)
    clear HH3
    refine N_val rfl (want0 rfl) rfl rfl HH7 (fun ww6 SS6 => Y_lenS HH7 rfl (by kernel_rfl) rfl) (fun aa8 HH8 => ?_)
    clear HH7
    refine N_val rfl (want0 rfl) rfl rfl HH8 (fun ww6 SS6 => Y_yes (Y_lss HH8 rfl rfl rfl) (h2)) (fun aa9 HH9 => ?_)
    clear HH8
    refine N_val rfl (want0 rfl) rfl rfl HH9 (fun ww6 SS6 => Y_mov HH9 rfl rfl) (fun aa10 HH10 => ?_)
    clear HH9
    refine N_skip rfl (HH10.unwant rfl rfl rfl rfl) rfl rfl HH10 (fun aa11 HH11 => ?_)
    clear HH10
    refine N_skip rfl (HH11.unwant rfl rfl rfl rfl) rfl rfl HH11 (fun aa12 HH12 => ?_)
    clear HH11
    refine N_skip rfl (HH12.unwant rfl rfl rfl rfl) rfl rfl HH12 (fun aa13 HH13 => ?_)
    clear HH12
    refine N_skip rfl (HH13.unwant rfl rfl rfl rfl) rfl rfl HH13 (fun aa14 HH14 => ?_)
    clear HH13
    refine N_skip rfl (HH14.unwant rfl rfl rfl rfl) rfl rfl HH14 (fun aa15 HH15 => ?_)
    clear HH14
    refine N_skip rfl (HH15.unwant rfl rfl rfl rfl) rfl rfl HH15 (fun aa16 HH16 => ?_)
    clear HH15
    refine N_skip rfl (HH16.unwant rfl rfl rfl rfl) rfl rfl HH16 (fun aa17 HH17 => ?_)
    clear HH16
    refine N_skip rfl (HH17.unwant rfl rfl rfl rfl) rfl rfl HH17 (fun aa18 HH18 => ?_)
    clear HH17
    refine N_skip rfl (HH18.unwant rfl rfl rfl rfl) rfl rfl HH18 (fun aa19 HH19 => ?_)
    clear HH18
    refine N_skip rfl (HH19.unwant rfl rfl rfl rfl) rfl rfl HH19 (fun aa20 HH20 => ?_)
    clear HH19
    refine N_val rfl (want0 rfl) rfl rfl HH20 (fun ww6 SS6 => Y_pickT HH20 rfl rfl rfl) (fun aa21 HH21 => ?_)
    clear HH20
    refine N_end (t_norm (hKK5 _ _ ?_))
    refine c_yes HH21 rfl ?_
    refine wp_seq_k fun KK22 hKK22 => ?_
    refine wp_region_lit ?_
    refine LG_val (want0 rfl) rfl rfl HH21 (Y_asg HH21 rfl rfl) (fun aa23 HH23 => ?_)
    clear HH21
    refine LG_val (want0 rfl) rfl rfl HH23 (Y_asg HH23 rfl rfl) (fun aa24 HH24 => ?_)
    clear HH23
    refine L_end (t_norm (hKK22 _ _ ?_))
    refine wp_ret (t_ret (ret2 rfl HH24 rfl rfl ?_))
    have hg2 : ¬ sealed bs := fun h => by have := h.1; omega
    refine ⟨VNil, by rw [decide_eq_false hg2], ?_⟩
    rw [opened, if_neg hg2]
    exact Bys.nil SS6
  ·
    refine N_begin (fun w' => Sat w' _) (.val 0 (.val 1 (.val 2 (.val 3 (.val 4 (.val 5 (.val 6 (.val 7 (.val 8 (.val 11 (.val 12 (.one 9 (.one 10 (.val 13 (.val 14 .fin))))))))))))))) (by kernel_rfl) (by kernel_rfl) (by kernel_rfl) (by kernel_rfl) (fun _ _ _ _ _ h => h) (S.drew) (fun ww25 SS25 _ => ?_)
    clear S
    refine N_val rfl (want0 rfl) rfl rfl HH3 (fun ww25 SS25 => Y_mov HH3 rfl rfl) (fun aa26 HH26 => ?_)
    clear HH3
    refine N_val rfl (want0 rfl) rfl rfl HH26 (fun ww25 SS25 => Y_lenS HH26 rfl (by kernel_rfl) rfl) (fun aa27 HH27 => ?_)
    clear HH26
    refine N_val rfl (want0 rfl) rfl rfl HH27 (fun ww25 SS25 => Y_no (Y_lss HH27 rfl rfl rfl) (h2)) (fun aa28 HH28 => ?_)
    clear HH27
    refine N_val rfl (want0 rfl) rfl rfl HH28 (fun ww25 SS25 => Y_mov HH28 rfl rfl) (fun aa29 HH29 => ?_)
    clear HH28
    refine N_val rfl (HH29.want rfl rfl rfl) rfl rfl HH29 (fun ww25 SS25 => Y_mov HH29 rfl rfl) (fun aa30 HH30 => ?_)
    clear HH29
    refine N_val rfl (HH30.want rfl rfl rfl) rfl rfl HH30 (fun ww25 SS25 => Y_mov HH30 rfl rfl) (fun aa31 HH31 => ?_)
    clear HH30
    refine N_val rfl (HH31.want rfl rfl rfl) rfl rfl HH31 (fun ww25 SS25 => Y_lenS HH31 rfl (by kernel_rfl) rfl) (fun aa32 HH32 => ?_)
    clear HH31
    refine N_val rfl (HH32.want rfl rfl rfl) rfl rfl HH32 (fun ww25 SS25 => Y_sub (r := ((bs.length - 2 : Nat) : Int)) HH32 rfl rfl rfl (by rw [IntWalk.i64_in _ (by omega)]; omega)) (fun aa33 HH33 => ?_)
    clear HH32
    refine N_val rfl (HH33.want rfl rfl rfl) rfl rfl HH33 (fun ww25 SS25 => Y_sliceTo (hi := (bs.length - 2)) HH33 rfl ty_bytes rfl rfl (by omega)) (fun aa34 HH34 => ?_)
    clear HH33
    refine N_val rfl (HH34.want rfl rfl rfl) rfl rfl HH34 (fun ww25 SS25 => Y_mov HH34 rfl rfl) (fun aa35 HH35 => ?_)
    clear HH34
    refine N_val rfl (HH35.want rfl rfl rfl) rfl rfl HH35 (fun ww25 SS25 => Y_convStr HH35 rfl rfl (hr _ SS25)) (fun aa36 HH36 => ?_)
    clear HH35
    refine N_call rfl (HH36.want rfl rfl rfl) rfl rfl rfl Try.func61 (by kernel_rfl) rfl HH36 (rseal_ok (fun w' h => RdY.upto (hr w' h) rfl (by omega)) (by rw [List.length_take]; omega) SS25) rfl ?_
    rintro e ww37 ⟨v13, rfl, SS37⟩
    refine ⟨_, rfl, SS37.tail, fun aa37 HH37 => ?_⟩
    clear HH36
    clear SS25
    refine N_do rfl (HH37.want rfl rfl rfl) rfl rfl HH37 (D_ylY (Y_convStr HH37 rfl rfl (Bys.rd SS37))) ?_
    rintro _ ww38 ⟨rfl, rfl⟩
    refine ⟨SS37.tail, fun aa38 HH38 => ?_⟩
    clear HH37
    by_cases hg : cseal (bs.take (bs.length - 2)) ≠ bs
    ·
      refine N_val rfl (HH38.want rfl rfl rfl) rfl rfl HH38 (fun ww37 SS37 => Y_yes (Y_neqStr HH38 rfl rfl rfl) hg) (fun aa39 HH39 => ?_)
      clear HH38
      refine N_val rfl (want0 rfl) rfl rfl HH39 (fun ww37 SS37 => Y_pickF HH39 rfl rfl rfl) (fun aa40 HH40 => ?_)
      clear HH39
      refine N_end (t_norm (hKK5 _ _ ?_))
      refine c_yes HH40 rfl ?_
      refine wp_seq_k fun KK41 hKK41 => ?_
      refine wp_region_lit ?_
      refine LG_val (want0 rfl) rfl rfl HH40 (Y_asg HH40 rfl rfl) (fun aa42 HH42 => ?_)
      clear HH40
      refine LG_val (want0 rfl) rfl rfl HH42 (Y_asg HH42 rfl rfl) (fun aa43 HH43 => ?_)
      clear HH42
      refine L_end (t_norm (hKK41 _ _ ?_))
      refine wp_ret (t_ret (ret2 rfl HH43 rfl rfl ?_))
      have hg2 : ¬ sealed bs := fun h => hg h.2
      refine ⟨VNil, by rw [decide_eq_false hg2], ?_⟩
      rw [opened, if_neg hg2]
      exact Bys.nil SS37.tail
    ·
      refine N_val rfl (HH38.want rfl rfl rfl) rfl rfl HH38 (fun ww37 SS37 => Y_no (Y_neqStr HH38 rfl rfl rfl) hg) (fun aa44 HH44 => ?_)
      clear HH38
      refine N_val rfl (want0 rfl) rfl rfl HH44 (fun ww37 SS37 => Y_pickF HH44 rfl rfl rfl) (fun aa45 HH45 => ?_)
      clear HH44
      refine N_end (t_norm (hKK5 _ _ ?_))
      refine c_no HH45 rfl ?_
      refine wp_skip (t_norm (hKK4 _ _ ?_))
      refine wp_seq_k fun KK46 hKK46 => ?_
      refine wp_region_lit ?_
      refine LG_val (want0 rfl) rfl rfl HH45 (Y_mov HH45 rfl rfl) (fun aa47 HH47 => ?_)
      clear HH45
      refine LG_val (want0 rfl) rfl rfl HH47 (Y_mov HH47 rfl rfl) (fun aa48 HH48 => ?_)
      clear HH47
      refine LG_val (want0 rfl) rfl rfl HH48 (Y_lenS HH48 rfl (by kernel_rfl) rfl) (fun aa49 HH49 => ?_)
      clear HH48
      refine LG_val (want0 rfl) rfl rfl HH49 (Y_sub (r := ((bs.length - 2 : Nat) : Int)) HH49 rfl rfl rfl (by rw [IntWalk.i64_in _ (by omega)]; omega)) (fun aa50 HH50 => ?_)
      clear HH49
      refine LG_val (want0 rfl) rfl rfl HH50 (Y_sliceTo (hi := (bs.length - 2)) HH50 rfl ty_bytes rfl rfl (by omega)) (fun aa51 HH51 => ?_)
      clear HH50
      refine LG_do (want0 rfl) rfl rfl HH51 (M_appY0 HH51 rfl rfl rfl SS37 (RdY.upto (hr _ SS37.tail) rfl (by omega)) rfl (by rw [List.length_take]; omega)) ?_
      rintro _ ww52 ⟨a24, c24, rfl, SS52⟩ aa52 HH52
      clear HH51
      clear SS37
      refine LG_val (want0 rfl) rfl rfl HH52 (Y_asg HH52 rfl rfl) (fun aa53 HH53 => ?_)
      clear HH52
      refine LG_val (want0 rfl) rfl rfl HH53 (Y_asg HH53 rfl rfl) (fun aa54 HH54 => ?_)
      clear HH53
      refine L_end (t_norm (hKK46 _ _ ?_))
      refine wp_ret (ret2 rfl HH54 rfl rfl ?_)
      have hg2 : sealed bs := ⟨by omega, Decidable.not_not.1 hg⟩
      refine ⟨_, by rw [decide_eq_true hg2], ?_⟩
      rw [opened, if_pos hg2]
      exact SS52.p1.p1.d1
end Go.Proofs.Ytaekiecidbhjhaa
