/- crc.Sum, chapletref01.Sum. Printed by wip/specs/crc.py. -/
import Derived.Test.YtaekiecidbhjhaaByte
namespace Go.Proofs.Ytaekiecidbhjhaa
open Go.RowKit

theorem wrap64 (z : Int) (h : 0 ≤ z) (h2 : z < 18446744073709551616) : IntKind.u64.wrap z = z := by
  simp [IntKind.wrap, IntKind.signed, IntKind.bits]; omega

set_option maxRecDepth 100000 in
theorem sum_ok {w : World} {v : Value} {bs : List (BitVec 8)} (hr : RdY w v bs) : Calls Try.prog 57 #[v] w fun e w' => e = .returned (V16 (csum bs)) ∧ Keep w w' := by
  obtain ⟨pa, pc, rfl, _, _⟩ := Rd.val hr
  have hmx : maxLen ≤ 9223372036854775807 := by decide
  have S := Keep.refl w
  refine enter (n := 30) Try.func57 rfl [(0, .slice pa bs.length pc)] rfl rfl fun aa0 HH0 => ?_
  refine wp_seq_k fun KK1 hKK1 => ?_
  refine wp_region_lit ?_
  refine LG_val (want0 rfl) rfl rfl HH0 (Y_asg HH0 rfl rfl) (fun aa2 HH2 => ?_)
  clear HH0
  refine L_end (t_norm (hKK1 _ _ ?_))
  refine wp_seq_k fun KK3 hKK3 => ?_
  refine wp_region_lit ?_
  refine LG_val (want0 rfl) rfl rfl HH2 (Y_asg HH2 rfl rfl) (fun aa4 HH4 => ?_)
  clear HH2
  refine L_end (t_norm (hKK3 _ _ ?_))
  refine wp_seq_k fun KK5 hKK5 => ?_
  refine wp_seq_k fun KK6 hKK6 => ?_
  refine wp_region_lit ?_
  refine LG_val (want0 rfl) rfl rfl HH4 (Y_mov HH4 rfl rfl) (fun aa7 HH7 => ?_)
  clear HH4
  refine LG_val (want0 rfl) rfl rfl HH7 (Y_lenS HH7 rfl (by kernel_rfl) rfl) (fun aa8 HH8 => ?_)
  clear HH7
  refine LG_val (want0 rfl) rfl rfl HH8 (Y_mov HH8 rfl rfl) (fun aa9 HH9 => ?_)
  clear HH8
  refine L_end (t_norm (hKK6 _ _ ?_))
  refine wp_block ?_
  refine c_loop (σ := Nat) (fun (i : Nat) a wx => Fr a 30 [(3, V16 (csum (bs.take i))), (7, .slice pa bs.length pc), (8, VI bs.length), (9, VI i)] ∧ i ≤ bs.length ∧ Keep w wx) (fun i => bs.length - i) (0) ?_ ?_
  · exact ⟨HH9.sub rfl, Nat.zero_le _, S⟩
  clear HH9
  clear S
  rintro i aa10 ww10 ⟨HH10, hi, SS10⟩
  refine wp_seq_k fun KK11 hKK11 => ?_
  refine wp_region_lit ?_
  by_cases hlt : (i : Int) < (bs.length : Int)
  ·
    refine LG_val (want0 rfl) rfl rfl HH10 (Y_yes (Y_lss HH10 rfl rfl rfl) (hlt)) (fun aa12 HH12 => ?_)
    clear HH10
    refine L_end (t_norm (hKK11 _ _ ?_))
    refine wp_seq_k fun KK13 hKK13 => ?_
    refine c_yes HH12 rfl ?_
    refine wp_skip (t_norm (hKK13 _ _ ?_))
    refine wp_seq_k fun KK14 hKK14 => ?_
    refine wp_block ?_
    refine wp_seq_k fun KK15 hKK15 => ?_
    obtain ⟨b, hb⟩ : ∃ b, bs[i]? = some b := ⟨bs[i]'(by omega), List.getElem?_eq_getElem _⟩
    obtain ⟨b1, o1, e1, c1⟩ := RdY.some hr (by omega)
    have ci := c1 i b hb
    refine wp_region_lit ?_
    refine LG_val (want0 rfl) rfl rfl HH12 (Y_idxE (q := o1 + i) HH12 rfl ty_bytes rfl e1 rfl (by omega) (by omega) (by simp)) (fun aa16 HH16 => ?_)
    clear HH12
    refine LG_val (want0 rfl) rfl rfl HH16 (Y_load HH16 rfl (by kernel_rfl) rfl (Keep.cell SS10 ci)) (fun aa17 HH17 => ?_)
    clear HH16
    refine LG_val (want0 rfl) rfl rfl HH17 (Y_asg HH17 rfl rfl) (fun aa18 HH18 => ?_)
    clear HH17
    refine L_end (t_norm (hKK15 _ _ ?_))
    refine wp_seq_k fun KK19 hKK19 => ?_
    refine wp_region_lit ?_
    refine LG_val (want0 rfl) rfl rfl HH18 (Y_mov HH18 rfl rfl) (fun aa20 HH20 => ?_)
    clear HH18
    refine LG_val (want0 rfl) rfl rfl HH20 (Y_mov HH20 rfl rfl) (fun aa21 HH21 => ?_)
    clear HH20
    refine LG_val (want0 rfl) rfl rfl HH21 (Y_conv (k' := .u16) (r := ((b.setWidth 16).toNat : Int)) HH21 rfl (by kernel_rfl) (by kernel_rfl) rfl (wide b)) (fun aa22 HH22 => ?_)
    clear HH21
    refine LG_val (want0 rfl) rfl rfl HH22 (Y_shl (r := ((b.setWidth 16 <<< 8).toNat : Int)) HH22 rfl rfl rfl (by omega) (shl16 _ _ 8 rfl (by omega))) (fun aa23 HH23 => ?_)
    clear HH22
    refine LG_val (want0 rfl) rfl rfl HH23 (Y_xor (r := ((csum (bs.take i) ^^^ (b.setWidth 16 <<< 8)).toNat : Int)) HH23 rfl rfl rfl (xor16 _ _)) (fun aa24 HH24 => ?_)
    clear HH23
    refine LG_val (want0 rfl) rfl rfl HH24 (Y_asg HH24 rfl rfl) (fun aa25 HH25 => ?_)
    clear HH24
    refine L_end (t_norm (hKK19 _ _ ?_))
    refine wp_seq_k fun KK26 hKK26 => ?_
    refine wp_region_lit ?_
    refine LG_val (want0 rfl) rfl rfl HH25 (Y_mov HH25 rfl rfl) (fun aa27 HH27 => ?_)
    clear HH25
    refine L_end (t_norm (hKK26 _ _ ?_))
    refine wp_block ?_
    refine c_loop (σ := Nat) (fun (k : Nat) a wx => Fr a 30 [(3, V16 (citer k (csum (bs.take i) ^^^ (b.setWidth 16 <<< 8)))), (7, .slice pa bs.length pc), (8, VI bs.length), (9, VI i), (18, VI k)] ∧ k ≤ 8 ∧ Keep w wx) (fun k => 8 - k) (0) ?_ ?_
    · exact ⟨HH27.sub rfl, Nat.zero_le _, SS10⟩
    clear HH27
    clear SS10
    rintro k aa28 ww28 ⟨HH28, hk, SS28⟩
    refine wp_seq_k fun KK29 hKK29 => ?_
    refine wp_region_lit ?_
    by_cases hlk : (k : Int) < 8
    ·
      refine LG_val (want0 rfl) rfl rfl HH28 (Y_yes (Y_lss HH28 rfl rfl rfl) (hlk)) (fun aa30 HH30 => ?_)
      clear HH28
      refine L_end (t_norm (hKK29 _ _ ?_))
      refine wp_seq_k fun KK31 hKK31 => ?_
      refine c_yes HH30 rfl ?_
      refine wp_skip (t_norm (hKK31 _ _ ?_))
      refine wp_seq_k fun KK32 hKK32 => ?_
      refine wp_block ?_
      refine wp_seq_k fun KK33 hKK33 => ?_
      refine wp_region_lit ?_
      refine LG_val (want0 rfl) rfl rfl HH30 (Y_mov HH30 rfl rfl) (fun aa34 HH34 => ?_)
      clear HH30
      refine LG_val (want0 rfl) rfl rfl HH34 (Y_shr (r := (((citer k (csum (bs.take i) ^^^ (b.setWidth 16 <<< 8))) >>> 15).toNat : Int)) HH34 rfl rfl rfl (by omega) (shr16 _ _ 15 rfl (by omega))) (fun aa35 HH35 => ?_)
      clear HH34
      refine LG_val (want0 rfl) rfl rfl HH35 (Y_asg HH35 rfl rfl) (fun aa36 HH36 => ?_)
      clear HH35
      refine L_end (t_norm (hKK33 _ _ ?_))
      refine wp_region_lit ?_
      refine LG_val (want0 rfl) rfl rfl HH36 (Y_mov HH36 rfl rfl) (fun aa37 HH37 => ?_)
      clear HH36
      refine LG_val (want0 rfl) rfl rfl HH37 (Y_shl (r := (((citer k (csum (bs.take i) ^^^ (b.setWidth 16 <<< 8))) <<< 1).toNat : Int)) HH37 rfl rfl rfl (by omega) (shl16 _ _ 1 rfl (by omega))) (fun aa38 HH38 => ?_)
      clear HH37
      refine LG_val (want0 rfl) rfl rfl HH38 (Y_mov HH38 rfl rfl) (fun aa39 HH39 => ?_)
      clear HH38
      refine LG_val (want0 rfl) rfl rfl HH39 (Y_mul (r := (((citer k (csum (bs.take i) ^^^ (b.setWidth 16 <<< 8))) >>> 15 * 4129#16).toNat : Int)) HH39 rfl rfl rfl (mul16 _ _ 4129#16 rfl)) (fun aa40 HH40 => ?_)
      clear HH39
      refine LG_val (want0 rfl) rfl rfl HH40 (Y_xor (r := ((cbit (citer k (csum (bs.take i) ^^^ (b.setWidth 16 <<< 8)))).toNat : Int)) HH40 rfl rfl rfl (xor16 _ _)) (fun aa41 HH41 => ?_)
      clear HH40
      refine LG_val (want0 rfl) rfl rfl HH41 (Y_asg HH41 rfl rfl) (fun aa42 HH42 => ?_)
      clear HH41
      refine L_end (b_norm (t_norm (hKK32 _ _ ?_)))
      refine wp_region_lit ?_
      refine LG_val (want0 rfl) rfl rfl HH42 (Y_add HH42 rfl rfl rfl (IntWalk.i64_in _ (by omega))) (fun aa43 HH43 => ?_)
      clear HH42
      refine LG_val (want0 rfl) rfl rfl HH43 (Y_mov HH43 rfl rfl) (fun aa44 HH44 => ?_)
      clear HH43
      refine L_end (t_norm ?_)
      exact ⟨k + 1, ⟨HH44.sub rfl, by omega, SS28⟩, by first | omega | (dsimp only; omega)⟩
    ·
      refine LG_val (want0 rfl) rfl rfl HH28 (Y_no (Y_lss HH28 rfl rfl rfl) (hlk)) (fun aa45 HH45 => ?_)
      clear HH28
      refine L_end (t_norm (hKK29 _ _ ?_))
      refine wp_seq_k fun KK46 hKK46 => ?_
      refine c_no HH45 rfl ?_
      refine wp_exit (t_exit (t_exit (b_exit (b_norm (t_norm (hKK14 _ _ ?_))))))
      refine wp_region_lit ?_
      refine LG_val (want0 rfl) rfl rfl HH45 (Y_add HH45 rfl rfl rfl (IntWalk.i64_in _ (by omega))) (fun aa47 HH47 => ?_)
      clear HH45
      refine LG_val (want0 rfl) rfl rfl HH47 (Y_mov HH47 rfl rfl) (fun aa48 HH48 => ?_)
      clear HH47
      refine L_end (t_norm ?_)
      have hk8 : k = 8 := by omega
      subst hk8
      have e := csum_more bs i b hb
      exact ⟨i + 1, ⟨by rw [e]; exact HH48.sub rfl, by omega, SS28⟩, by first | omega | (dsimp only; omega)⟩
  ·
    refine LG_val (want0 rfl) rfl rfl HH10 (Y_no (Y_lss HH10 rfl rfl rfl) (hlt)) (fun aa49 HH49 => ?_)
    clear HH10
    refine L_end (t_norm (hKK11 _ _ ?_))
    refine wp_seq_k fun KK50 hKK50 => ?_
    refine c_no HH49 rfl ?_
    refine wp_exit (t_exit (t_exit (b_exit (t_norm (hKK5 _ _ ?_)))))
    refine wp_seq_k fun KK51 hKK51 => ?_
    refine wp_region_lit ?_
    refine LG_val (want0 rfl) rfl rfl HH49 (Y_mov HH49 rfl rfl) (fun aa52 HH52 => ?_)
    clear HH49
    refine LG_val (want0 rfl) rfl rfl HH52 (Y_asg HH52 rfl rfl) (fun aa53 HH53 => ?_)
    clear HH52
    refine L_end (t_norm (hKK51 _ _ ?_))
    refine wp_ret (ret1 rfl HH53 rfl ?_)
    have hil : i = bs.length := by omega
    refine ⟨?_, SS10⟩
    rw [hil, List.take_of_length_le (Nat.le_refl _)]

set_option maxRecDepth 100000 in
theorem rsum_ok {w : World} {v : Value} {bs : List (BitVec 8)} (hr : RdY w v bs) : Calls Try.prog 58 #[v] w fun e w' => e = .returned (V16 (csum bs)) ∧ Keep w w' := by
  obtain ⟨pa, pc, rfl, _, _⟩ := Rd.val hr
  have hmx : maxLen ≤ 9223372036854775807 := by decide
  have S := Keep.refl w
  refine enter (n := 35) Try.func58 rfl [(0, .slice pa bs.length pc)] rfl rfl fun aa0 HH0 => ?_
  refine wp_seq_k fun KK1 hKK1 => ?_
  refine wp_region_lit ?_
  refine LG_val (want0 rfl) rfl rfl HH0 (Y_asg HH0 rfl rfl) (fun aa2 HH2 => ?_)
  clear HH0
  refine L_end (t_norm (hKK1 _ _ ?_))
  refine wp_seq_k fun KK3 hKK3 => ?_
  refine wp_region_lit ?_
  refine LG_val (want0 rfl) rfl rfl HH2 (Y_asg HH2 rfl rfl) (fun aa4 HH4 => ?_)
  clear HH2
  refine L_end (t_norm (hKK3 _ _ ?_))
  refine wp_seq_k fun KK5 hKK5 => ?_
  refine wp_seq_k fun KK6 hKK6 => ?_
  refine wp_region_lit ?_
  refine LG_val (want0 rfl) rfl rfl HH4 (Y_mov HH4 rfl rfl) (fun aa7 HH7 => ?_)
  clear HH4
  refine LG_val (want0 rfl) rfl rfl HH7 (Y_lenS HH7 rfl (by kernel_rfl) rfl) (fun aa8 HH8 => ?_)
  clear HH7
  refine LG_val (want0 rfl) rfl rfl HH8 (Y_mov HH8 rfl rfl) (fun aa9 HH9 => ?_)
  clear HH8
  refine L_end (t_norm (hKK6 _ _ ?_))
  refine wp_block ?_
  refine c_loop (σ := Nat) (fun (i : Nat) a wx => Fr a 35 [(3, V16 (csum (bs.take i))), (8, .slice pa bs.length pc), (9, VI bs.length), (10, VI i)] ∧ i ≤ bs.length ∧ Keep w wx) (fun i => bs.length - i) (0) ?_ ?_
  · exact ⟨HH9.sub rfl, Nat.zero_le _, S⟩
  clear HH9
  clear S
  rintro i aa10 ww10 ⟨HH10, hi, SS10⟩
  refine wp_seq_k fun KK11 hKK11 => ?_
  refine wp_region_lit ?_
  by_cases hlt : (i : Int) < (bs.length : Int)
  ·
    refine LG_val (want0 rfl) rfl rfl HH10 (Y_yes (Y_lss HH10 rfl rfl rfl) (hlt)) (fun aa12 HH12 => ?_)
    clear HH10
    refine L_end (t_norm (hKK11 _ _ ?_))
    refine wp_seq_k fun KK13 hKK13 => ?_
    refine c_yes HH12 rfl ?_
    refine wp_skip (t_norm (hKK13 _ _ ?_))
    refine wp_seq_k fun KK14 hKK14 => ?_
    refine wp_block ?_
    refine wp_seq_k fun KK15 hKK15 => ?_
    obtain ⟨b, hb⟩ : ∃ b, bs[i]? = some b := ⟨bs[i]'(by omega), List.getElem?_eq_getElem _⟩
    obtain ⟨b1, o1, e1, c1⟩ := RdY.some hr (by omega)
    have ci := c1 i b hb
    refine wp_region_lit ?_
    refine LG_val (want0 rfl) rfl rfl HH12 (Y_idxE (q := o1 + i) HH12 rfl ty_bytes rfl e1 rfl (by omega) (by omega) (by simp)) (fun aa16 HH16 => ?_)
    clear HH12
    refine LG_val (want0 rfl) rfl rfl HH16 (Y_load HH16 rfl (by kernel_rfl) rfl (Keep.cell SS10 ci)) (fun aa17 HH17 => ?_)
    clear HH16
    refine LG_val (want0 rfl) rfl rfl HH17 (Y_asg HH17 rfl rfl) (fun aa18 HH18 => ?_)
    clear HH17
    refine L_end (t_norm (hKK15 _ _ ?_))
    refine wp_seq_k fun KK19 hKK19 => ?_
    refine wp_region_lit ?_
    refine LG_val (want0 rfl) rfl rfl HH18 (Y_asg HH18 rfl rfl) (fun aa20 HH20 => ?_)
    clear HH18
    refine L_end (t_norm (hKK19 _ _ ?_))
    refine wp_block ?_
    refine c_loop (σ := Nat) (fun (k : Nat) a wx => Fr a 35 [(3, V16 (riter b k (csum (bs.take i)))), (5, V8 b), (6, VI (7 - (k : Int))), (8, .slice pa bs.length pc), (9, VI bs.length), (10, VI i)] ∧ k ≤ 8 ∧ Keep w wx) (fun k => 8 - k) (0) ?_ ?_
    · exact ⟨HH20.sub rfl, Nat.zero_le _, SS10⟩
    clear HH20
    clear SS10
    rintro k aa21 ww21 ⟨HH21, hk, SS21⟩
    refine wp_seq_k fun KK22 hKK22 => ?_
    refine wp_seq_k fun KK23 hKK23 => ?_
    refine wp_region_lit ?_
    refine LG_val (want0 rfl) rfl rfl HH21 (Y_mov HH21 rfl rfl) (fun aa24 HH24 => ?_)
    clear HH21
    by_cases hlk : (0 : Int) ≤ 7 - (k : Int)
    ·
      refine LG_val (want0 rfl) rfl rfl HH24 (Y_yes (Y_geq HH24 rfl rfl rfl) (hlk)) (fun aa25 HH25 => ?_)
      clear HH24
      refine L_end (t_norm (hKK23 _ _ ?_))
      refine c_yes HH25 rfl ?_
      refine wp_skip (t_norm (hKK22 _ _ ?_))
      refine wp_seq_k fun KK26 hKK26 => ?_
      refine wp_block ?_
      refine wp_seq_k fun KK27 hKK27 => ?_
      refine wp_region_lit ?_
      refine LG_val (want0 rfl) rfl rfl HH25 (Y_mov HH25 rfl rfl) (fun aa28 HH28 => ?_)
      clear HH25
      refine LG_val (want0 rfl) rfl rfl HH28 (Y_shr (r := (((riter b k (csum (bs.take i))) >>> 15).toNat : Int)) HH28 rfl rfl rfl (by omega) (shr16 _ _ 15 rfl (by omega))) (fun aa29 HH29 => ?_)
      clear HH28
      refine LG_val (want0 rfl) rfl rfl HH29 (Y_mov HH29 rfl rfl) (fun aa30 HH30 => ?_)
      clear HH29
      refine LG_val (want0 rfl) rfl rfl HH30 (Y_mov HH30 rfl rfl) (fun aa31 HH31 => ?_)
      clear HH30
      refine LG_val (want0 rfl) rfl rfl HH31 (Y_conv (k' := .u64) (r := (7 - (k : Int))) HH31 rfl (by kernel_rfl) (by kernel_rfl) rfl (wrap64 _ (by omega) (by omega))) (fun aa32 HH32 => ?_)
      clear HH31
      refine LG_val (want0 rfl) rfl rfl HH32 (Y_shr (r := ((b >>> (7 - k)).toNat : Int)) HH32 rfl rfl rfl (by omega) (shr8 _ _ (7 - k) (by omega) (by omega))) (fun aa33 HH33 => ?_)
      clear HH32
      refine LG_val (want0 rfl) rfl rfl HH33 (Y_and (r := (((b >>> (7 - k)) &&& 1#8).toNat : Int)) HH33 rfl rfl rfl (and8 _ 1#8)) (fun aa34 HH34 => ?_)
      clear HH33
      refine LG_val (want0 rfl) rfl rfl HH34 (Y_conv (k' := .u16) (r := ((((b >>> (7 - k)) &&& 1#8).setWidth 16).toNat : Int)) HH34 rfl (by kernel_rfl) (by kernel_rfl) rfl (wide _)) (fun aa35 HH35 => ?_)
      clear HH34
      refine LG_val (want0 rfl) rfl rfl HH35 (Y_xor (r := ((((riter b k (csum (bs.take i))) >>> 15) ^^^ ((b >>> (7 - k)) &&& 1#8).setWidth 16).toNat : Int)) HH35 rfl rfl rfl (xor16 _ _)) (fun aa36 HH36 => ?_)
      clear HH35
      refine LG_val (want0 rfl) rfl rfl HH36 (Y_asg HH36 rfl rfl) (fun aa37 HH37 => ?_)
      clear HH36
      refine L_end (t_norm (hKK27 _ _ ?_))
      refine wp_seq_k fun KK38 hKK38 => ?_
      refine wp_region_lit ?_
      refine LG_val (want0 rfl) rfl rfl HH37 (Y_mov HH37 rfl rfl) (fun aa39 HH39 => ?_)
      clear HH37
      refine LG_val (want0 rfl) rfl rfl HH39 (Y_shl (r := (((riter b k (csum (bs.take i))) <<< 1).toNat : Int)) HH39 rfl rfl rfl (by omega) (shl16 _ _ 1 rfl (by omega))) (fun aa40 HH40 => ?_)
      clear HH39
      refine LG_val (want0 rfl) rfl rfl HH40 (Y_asg HH40 rfl rfl) (fun aa41 HH41 => ?_)
      clear HH40
      refine L_end (t_norm (hKK38 _ _ ?_))
      refine wp_seq_k fun KK42 hKK42 => ?_
      refine wp_region_lit ?_
      refine LG_val (want0 rfl) rfl rfl HH41 (Y_mov HH41 rfl rfl) (fun aa43 HH43 => ?_)
      clear HH41
      by_cases ht : ((((riter b k (csum (bs.take i))) >>> 15) ^^^ ((b >>> (7 - k)) &&& 1#8).setWidth 16).toNat : Int) = 1
      ·
        refine LG_val (want0 rfl) rfl rfl HH43 (Y_yes (Y_eql HH43 rfl rfl rfl) (ht)) (fun aa44 HH44 => ?_)
        clear HH43
        refine L_end (t_norm (hKK42 _ _ ?_))
        refine c_yes HH44 rfl ?_
        refine wp_region_lit ?_
        refine LG_val (want0 rfl) rfl rfl HH44 (Y_mov HH44 rfl rfl) (fun aa45 HH45 => ?_)
        clear HH44
        refine LG_val (want0 rfl) rfl rfl HH45 (Y_xor (r := ((((riter b k (csum (bs.take i))) <<< 1) ^^^ 4129#16).toNat : Int)) HH45 rfl rfl rfl (xor16 _ 4129#16)) (fun aa46 HH46 => ?_)
        clear HH45
        refine LG_val (want0 rfl) rfl rfl HH46 (Y_asg HH46 rfl rfl) (fun aa47 HH47 => ?_)
        clear HH46
        refine L_end (b_norm (t_norm (hKK26 _ _ ?_)))
        refine wp_region_lit ?_
        refine LG_val (want0 rfl) rfl rfl HH47 (Y_mov HH47 rfl rfl) (fun aa48 HH48 => ?_)
        clear HH47
        refine LG_val (want0 rfl) rfl rfl HH48 (Y_sub (r := (7 - ((k + 1 : Nat) : Int))) HH48 rfl rfl rfl (by rw [IntWalk.i64_in _ (by omega)]; omega)) (fun aa49 HH49 => ?_)
        clear HH48
        refine LG_val (want0 rfl) rfl rfl HH49 (Y_asg HH49 rfl rfl) (fun aa50 HH50 => ?_)
        clear HH49
        refine L_end (t_norm ?_)
        have ht2 : (((riter b k (csum (bs.take i))) >>> 15) ^^^ ((b >>> (7 - k)) &&& 1#8).setWidth 16) = 1#16 := BitVec.eq_of_toNat_eq (by have h1 : (1#16).toNat = 1 := rfl; omega)
        have e : riter b (k + 1) (csum (bs.take i)) = ((riter b k (csum (bs.take i))) <<< 1) ^^^ 4129#16 := if_pos ht2
        exact ⟨k + 1, ⟨by rw [e]; exact HH50.sub rfl, by omega, SS21⟩, by first | omega | (dsimp only; omega)⟩
      ·
        refine LG_val (want0 rfl) rfl rfl HH43 (Y_no (Y_eql HH43 rfl rfl rfl) (ht)) (fun aa51 HH51 => ?_)
        clear HH43
        refine L_end (t_norm (hKK42 _ _ ?_))
        refine c_no HH51 rfl ?_
        refine wp_skip (b_norm (t_norm (hKK26 _ _ ?_)))
        refine wp_region_lit ?_
        refine LG_val (want0 rfl) rfl rfl HH51 (Y_mov HH51 rfl rfl) (fun aa52 HH52 => ?_)
        clear HH51
        refine LG_val (want0 rfl) rfl rfl HH52 (Y_sub (r := (7 - ((k + 1 : Nat) : Int))) HH52 rfl rfl rfl (by rw [IntWalk.i64_in _ (by omega)]; omega)) (fun aa53 HH53 => ?_)
        clear HH52
        refine LG_val (want0 rfl) rfl rfl HH53 (Y_asg HH53 rfl rfl) (fun aa54 HH54 => ?_)
        clear HH53
        refine L_end (t_norm ?_)
        have ht2 : ¬ (((riter b k (csum (bs.take i))) >>> 15) ^^^ ((b >>> (7 - k)) &&& 1#8).setWidth 16) = 1#16 := fun h => ht (by rw [h]; rfl)
        have e : riter b (k + 1) (csum (bs.take i)) = (riter b k (csum (bs.take i))) <<< 1 := if_neg ht2
        exact ⟨k + 1, ⟨by rw [e]; exact HH54.sub rfl, by omega, SS21⟩, by first | omega | (dsimp only; omega)⟩
    ·
      refine LG_val (want0 rfl) rfl rfl HH24 (Y_no (Y_geq HH24 rfl rfl rfl) (hlk)) (fun aa55 HH55 => ?_)
      clear HH24
      refine L_end (t_norm (hKK23 _ _ ?_))
      refine c_no HH55 rfl ?_
      refine wp_exit (t_exit (t_exit (b_exit (b_norm (t_norm (hKK14 _ _ ?_))))))
      refine wp_region_lit ?_
      refine LG_val (want0 rfl) rfl rfl HH55 (Y_add HH55 rfl rfl rfl (IntWalk.i64_in _ (by omega))) (fun aa56 HH56 => ?_)
      clear HH55
      refine LG_val (want0 rfl) rfl rfl HH56 (Y_mov HH56 rfl rfl) (fun aa57 HH57 => ?_)
      clear HH56
      refine L_end (t_norm ?_)
      have hk8 : k = 8 := by omega
      subst hk8
      have e := csum_more bs i b hb
      rw [cbyte_riter] at e
      exact ⟨i + 1, ⟨by rw [e]; exact HH57.sub rfl, by omega, SS21⟩, by first | omega | (dsimp only; omega)⟩
  ·
    refine LG_val (want0 rfl) rfl rfl HH10 (Y_no (Y_lss HH10 rfl rfl rfl) (hlt)) (fun aa58 HH58 => ?_)
    clear HH10
    refine L_end (t_norm (hKK11 _ _ ?_))
    refine wp_seq_k fun KK59 hKK59 => ?_
    refine c_no HH58 rfl ?_
    refine wp_exit (t_exit (t_exit (b_exit (t_norm (hKK5 _ _ ?_)))))
    refine wp_seq_k fun KK60 hKK60 => ?_
    refine wp_region_lit ?_
    refine LG_val (want0 rfl) rfl rfl HH58 (Y_mov HH58 rfl rfl) (fun aa61 HH61 => ?_)
    clear HH58
    refine LG_val (want0 rfl) rfl rfl HH61 (Y_asg HH61 rfl rfl) (fun aa62 HH62 => ?_)
    clear HH61
    refine L_end (t_norm (hKK60 _ _ ?_))
    refine wp_ret (ret1 rfl HH62 rfl ?_)
    have hil : i = bs.length := by omega
    refine ⟨?_, SS10⟩
    rw [hil, List.take_of_length_le (Nat.le_refl _)]
end Go.Proofs.Ytaekiecidbhjhaa
