/- chapletkeep.Same at bytes. Printed by wip/specs/ksame.py. -/
import Derived.Test.YtaekiecidbhjhaaKsame
namespace Go.Proofs.Ytaekiecidbhjhaa
open Go.RowKit


set_option maxRecDepth 100000 in
theorem ksameB_ok {w : World} {u v : Value} {xs ys : List Int} (hu : RdB w u xs) (hv : RdB w v ys) : Calls Try.prog 59 #[u, v] w fun e w' => e = .returned (VB (xs == ys)) ∧ Keep w w' := by
  obtain ⟨pa, pc, rfl, _, _⟩ := Rd.val hu
  obtain ⟨qa, qc, rfl, _, _⟩ := Rd.val hv
  have hmx : maxLen ≤ 9223372036854775807 := by decide
  have S := Keep.refl w
  refine enter (n := 26) Try.func59 rfl [(0, .slice pa xs.length pc), (1, .slice qa ys.length qc)] rfl rfl fun aa0 HH0 => ?_
  refine wp_seq_k fun KK1 hKK1 => ?_
  refine wp_region_lit ?_
  refine LG_val (want0 rfl) rfl rfl HH0 (Y_asg HH0 rfl rfl) (fun aa2 HH2 => ?_)
  clear HH0
  refine L_end (t_norm (hKK1 _ _ ?_))
  refine wp_seq_k fun KK3 hKK3 => ?_
  refine wp_seq_k fun KK4 hKK4 => ?_
  refine wp_region_lit ?_
  refine LG_val (want0 rfl) rfl rfl HH2 (Y_mov HH2 rfl rfl) (fun aa5 HH5 => ?_)
  clear HH2
  refine LG_val (want0 rfl) rfl rfl HH5 (Y_lenS HH5 rfl (by kernel_rfl) rfl) (fun aa6 HH6 => ?_)
  clear HH5
  refine LG_val (want0 rfl) rfl rfl HH6 (Y_mov HH6 rfl rfl) (fun aa7 HH7 => ?_)
  clear HH6
  refine LG_val (want0 rfl) rfl rfl HH7 (Y_lenS HH7 rfl (by kernel_rfl) rfl) (fun aa8 HH8 => ?_)
  clear HH7
  by_cases hl : (xs.length : Int) ≠ (ys.length : Int)
  ·
    refine LG_val (want0 rfl) rfl rfl HH8 (Y_yes (Y_neq HH8 rfl rfl rfl) (hl)) (fun aa9 HH9 => ?_)
    clear HH8
    refine L_end (t_norm (hKK4 _ _ ?_))
    refine c_yes HH9 rfl ?_
    refine wp_seq_k fun KK10 hKK10 => ?_
    refine wp_region_lit ?_
    refine LG_val (want0 rfl) rfl rfl HH9 (Y_asg HH9 rfl rfl) (fun aa11 HH11 => ?_)
    clear HH9
    refine L_end (t_norm (hKK10 _ _ ?_))
    refine wp_ret (t_ret (ret1 rfl HH11 rfl ?_))
    have e : (xs == ys) = false := by simpa using fun h => hl (by rw [h])
    rw [e]; exact ⟨rfl, S⟩
  ·
    refine LG_val (want0 rfl) rfl rfl HH8 (Y_no (Y_neq HH8 rfl rfl rfl) (hl)) (fun aa12 HH12 => ?_)
    clear HH8
    refine L_end (t_norm (hKK4 _ _ ?_))
    refine c_no HH12 rfl ?_
    refine wp_skip (t_norm (hKK3 _ _ ?_))
    refine wp_seq_k fun KK13 hKK13 => ?_
    refine wp_seq_k fun KK14 hKK14 => ?_
    refine wp_region_lit ?_
    refine LG_val (want0 rfl) rfl rfl HH12 (Y_asg HH12 rfl rfl) (fun aa15 HH15 => ?_)
    clear HH12
    refine L_end (t_norm (hKK14 _ _ ?_))
    refine wp_block ?_
    have hlen : ys.length = xs.length := by omega
    refine c_loop (σ := Nat) (fun (i : Nat) a wx => Fr a 26 [(0, .slice pa xs.length pc), (1, .slice qa ys.length qc), (5, VI i)] ∧ i ≤ xs.length ∧ (∀ k, k < i → xs.getD k 0 = ys.getD k 0) ∧ Keep w wx) (fun i => xs.length - i) (0) ?_ ?_
    · exact ⟨HH15.sub rfl, by omega, (fun k h => by omega), S⟩
    clear HH15
    clear S
    rintro i aa16 ww16 ⟨HH16, hi, hall, SS16⟩
    refine wp_seq_k fun KK17 hKK17 => ?_
    refine wp_seq_k fun KK18 hKK18 => ?_
    refine wp_region_lit ?_
    refine LG_val (want0 rfl) rfl rfl HH16 (Y_mov HH16 rfl rfl) (fun aa19 HH19 => ?_)
    clear HH16
    refine LG_val (want0 rfl) rfl rfl HH19 (Y_mov HH19 rfl rfl) (fun aa20 HH20 => ?_)
    clear HH19
    refine LG_val (want0 rfl) rfl rfl HH20 (Y_lenS HH20 rfl (by kernel_rfl) rfl) (fun aa21 HH21 => ?_)
    clear HH20
    by_cases hlt : (i : Int) < (xs.length : Int)
    ·
      refine LG_val (want0 rfl) rfl rfl HH21 (Y_yes (Y_lss HH21 rfl rfl rfl) (hlt)) (fun aa22 HH22 => ?_)
      clear HH21
      refine L_end (t_norm (hKK18 _ _ ?_))
      refine c_yes HH22 rfl ?_
      refine wp_skip (t_norm (hKK17 _ _ ?_))
      refine wp_seq_k fun KK23 hKK23 => ?_
      refine wp_block ?_
      refine wp_seq_k fun KK24 hKK24 => ?_
      -- region 6, drawn
      obtain ⟨b1, o1, e1, c1⟩ := rd_some hu (by omega)
      obtain ⟨b2, o2, e2, c2⟩ := rd_some hv (by omega)
      refine N_begin (fun w' => Keep w w') (.val 0 (.val 1 (.val 2 (.val 3 (.val 4 (.val 5 (.val 6 (.val 7 (.val 8 .fin))))))))) (by kernel_rfl) (by kernel_rfl) (by kernel_rfl) (by kernel_rfl) (fun _ _ _ _ _ h => h) (SS16.drew) (fun ww25 SS25 _ => ?_)
      clear SS16
      refine N_val rfl (want0 rfl) rfl rfl HH22 (fun ww25 SS25 => Y_mov HH22 rfl rfl) (fun aa26 HH26 => ?_)
      clear HH22
      refine N_val rfl (want0 rfl) rfl rfl HH26 (fun ww25 SS25 => Y_mov HH26 rfl rfl) (fun aa27 HH27 => ?_)
      clear HH26
      refine N_val rfl (want0 rfl) rfl rfl HH27 (fun ww25 SS25 => Y_idxE (q := o1 + i) HH27 rfl ty_bytes rfl e1 rfl (by omega) (by omega) (by simp)) (fun aa28 HH28 => ?_)
      clear HH27
      refine N_val rfl (want0 rfl) rfl rfl HH28 (fun ww25 SS25 => Y_load HH28 rfl (by kernel_rfl) rfl (Keep.cell SS25 (c1 i (by omega)))) (fun aa29 HH29 => ?_)
      clear HH28
      refine N_val rfl (want0 rfl) rfl rfl HH29 (fun ww25 SS25 => Y_mov HH29 rfl rfl) (fun aa30 HH30 => ?_)
      clear HH29
      refine N_val rfl (want0 rfl) rfl rfl HH30 (fun ww25 SS25 => Y_mov HH30 rfl rfl) (fun aa31 HH31 => ?_)
      clear HH30
      refine N_val rfl (want0 rfl) rfl rfl HH31 (fun ww25 SS25 => Y_idxE (q := o2 + i) HH31 rfl ty_bytes rfl e2 rfl (by omega) (by omega) (by simp)) (fun aa32 HH32 => ?_)
      clear HH31
      refine N_val rfl (want0 rfl) rfl rfl HH32 (fun ww25 SS25 => Y_load HH32 rfl (by kernel_rfl) rfl (Keep.cell SS25 (c2 i (by omega)))) (fun aa33 HH33 => ?_)
      clear HH32
      by_cases hne : xs.getD i 0 ≠ ys.getD i 0
      ·
        refine N_val rfl (want0 rfl) rfl rfl HH33 (fun ww25 SS25 => Y_yes (Y_neq HH33 rfl rfl rfl) (hne)) (fun aa34 HH34 => ?_)
        clear HH33
        refine N_end (t_norm (hKK24 _ _ ?_))
        refine c_yes HH34 rfl ?_
        refine wp_seq_k fun KK35 hKK35 => ?_
        refine wp_region_lit ?_
        refine LG_val (want0 rfl) rfl rfl HH34 (Y_asg HH34 rfl rfl) (fun aa36 HH36 => ?_)
        clear HH34
        refine L_end (t_norm (hKK35 _ _ ?_))
        refine wp_ret (b_ret (t_ret (t_ret (b_ret (t_ret (ret1 rfl HH36 rfl ?_))))))
        rw [beq_at rfl hlen (by omega) hne]; exact ⟨rfl, SS25⟩
      ·
        refine N_val rfl (want0 rfl) rfl rfl HH33 (fun ww25 SS25 => Y_no (Y_neq HH33 rfl rfl rfl) (hne)) (fun aa37 HH37 => ?_)
        clear HH33
        refine N_end (t_norm (hKK24 _ _ ?_))
        refine c_no HH37 rfl ?_
        refine wp_skip (b_norm (t_norm (hKK23 _ _ ?_)))
        refine wp_region_lit ?_
        refine LG_val (want0 rfl) rfl rfl HH37 (Y_mov HH37 rfl rfl) (fun aa38 HH38 => ?_)
        clear HH37
        refine LG_val (want0 rfl) rfl rfl HH38 (Y_add HH38 rfl rfl rfl (IntWalk.i64_in _ (by omega))) (fun aa39 HH39 => ?_)
        clear HH38
        refine LG_val (want0 rfl) rfl rfl HH39 (Y_asg HH39 rfl rfl) (fun aa40 HH40 => ?_)
        clear HH39
        refine L_end (t_norm ?_)
        exact ⟨i + 1, ⟨HH40.sub rfl, by omega, (fun k h => (Nat.lt_succ_iff_lt_or_eq.1 h).elim (hall k) (fun e => by rw [e]; exact Decidable.not_not.1 hne)), SS25⟩, by first | omega | (dsimp only; omega)⟩
    ·
      refine LG_val (want0 rfl) rfl rfl HH21 (Y_no (Y_lss HH21 rfl rfl rfl) (hlt)) (fun aa41 HH41 => ?_)
      clear HH21
      refine L_end (t_norm (hKK18 _ _ ?_))
      refine c_no HH41 rfl ?_
      refine wp_exit (t_exit (t_exit (b_exit (t_norm (hKK13 _ _ ?_)))))
      refine wp_seq_k fun KK42 hKK42 => ?_
      refine wp_region_lit ?_
      refine LG_val (want0 rfl) rfl rfl HH41 (Y_asg HH41 rfl rfl) (fun aa43 HH43 => ?_)
      clear HH41
      refine L_end (t_norm (hKK42 _ _ ?_))
      refine wp_ret (ret1 rfl HH43 rfl ?_)
      rw [beq_all rfl hlen (fun j hj => hall j (by omega))]; exact ⟨rfl, SS16⟩
end Go.Proofs.Ytaekiecidbhjhaa
