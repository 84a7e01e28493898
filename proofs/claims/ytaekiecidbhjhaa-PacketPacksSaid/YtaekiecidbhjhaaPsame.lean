/- packet and its document: Same. Printed by wip/specs/pack.py. -/
import Derived.Test.YtaekiecidbhjhaaPacks
namespace Go.Proofs.Ytaekiecidbhjhaa
open Go.RowKit

set_option maxRecDepth 100000 in
theorem equalI_ok {w : World} {u v : Value} {xs ys : List Int} (hu : RdI w u xs) (hv : RdI w v ys) : Calls Try.prog 99 #[u, v] w fun e w' => e = .returned (VB (xs == ys)) ∧ Keep w w' := by
  obtain ⟨pa, pc, rfl, _, _⟩ := Rd.val hu
  obtain ⟨qa, qc, rfl, _, _⟩ := Rd.val hv
  have hmx : maxLen ≤ 9223372036854775807 := by decide
  have S := Keep.refl w
  refine enter (n := 26) Try.func99 rfl [(0, .slice pa xs.length pc), (1, .slice qa ys.length qc)] rfl rfl fun aa0 HH0 => ?_
  refine wp_seq_k fun KK1 hKK1 => ?_
  refine wp_region_lit ?_
  refine LG_val (want0 rfl) rfl rfl HH0 (Y_asg HH0 rfl rfl) (fun aa2 HH2 => ?_)
  clear HH0
  refine L_end (t_norm (hKK1 _ _ ?_))
  refine wp_seq_k fun KK3 hKK3 => ?_
  refine wp_seq_k fun KK4 hKK4 => ?_
  refine wp_region_lit ?_
  refine LG_val (want0 rfl) rfl rfl HH2 (Y_mov HH2 rfl rfl) (fun aa5 HH5 => ?_)
  clear HH2
  refine LG_val (want0 rfl) rfl rfl HH5 (Y_lenS HH5 rfl (by kernel_rfl) rfl) (fun aa6 HH6 => ?_)
  clear HH5
  refine LG_val (want0 rfl) rfl rfl HH6 (Y_mov HH6 rfl rfl) (fun aa7 HH7 => ?_)
  clear HH6
  refine LG_val (want0 rfl) rfl rfl HH7 (Y_lenS HH7 rfl (by kernel_rfl) rfl) (fun aa8 HH8 => ?_)
  clear HH7
  by_cases hl : (xs.length : Int) ≠ (ys.length : Int)
  ·
    refine LG_val (want0 rfl) rfl rfl HH8 (Y_yes (Y_neq HH8 rfl rfl rfl) (hl)) (fun aa9 HH9 => ?_)
    clear HH8
    refine L_end (t_norm (hKK4 _ _ ?_))
    refine c_yes HH9 rfl ?_
    refine wp_seq_k fun KK10 hKK10 => ?_
    refine wp_region_lit ?_
    refine LG_val (want0 rfl) rfl rfl HH9 (Y_asg HH9 rfl rfl) (fun aa11 HH11 => ?_)
    clear HH9
    refine L_end (t_norm (hKK10 _ _ ?_))
    refine wp_ret (t_ret (ret1 rfl HH11 rfl ?_))
    have e : (xs == ys) = false := by simpa using fun h => hl (by rw [h])
    rw [e]; exact ⟨rfl, S⟩
  ·
    refine LG_val (want0 rfl) rfl rfl HH8 (Y_no (Y_neq HH8 rfl rfl rfl) (hl)) (fun aa12 HH12 => ?_)
    clear HH8
    refine L_end (t_norm (hKK4 _ _ ?_))
    refine c_no HH12 rfl ?_
    refine wp_skip (t_norm (hKK3 _ _ ?_))
    refine wp_seq_k fun KK13 hKK13 => ?_
    refine wp_seq_k fun KK14 hKK14 => ?_
    refine wp_region_lit ?_
    refine LG_val (want0 rfl) rfl rfl HH12 (Y_mov HH12 rfl rfl) (fun aa15 HH15 => ?_)
    clear HH12
    refine LG_val (want0 rfl) rfl rfl HH15 (Y_lenS HH15 rfl (by kernel_rfl) rfl) (fun aa16 HH16 => ?_)
    clear HH15
    refine LG_val (want0 rfl) rfl rfl HH16 (Y_mov HH16 rfl rfl) (fun aa17 HH17 => ?_)
    clear HH16
    refine L_end (t_norm (hKK14 _ _ ?_))
    refine wp_block ?_
    have hlen : ys.length = xs.length := by omega
    refine c_loop (σ := Nat) (fun (i : Nat) a wx => Fr a 26 [(0, .slice pa xs.length pc), (1, .slice qa ys.length qc), (12, VI xs.length), (13, VI i)] ∧ i ≤ xs.length ∧ (∀ k, k < i → xs.getD k 0 = ys.getD k 0) ∧ Keep w wx) (fun i => xs.length - i) (0) ?_ ?_
    · exact ⟨HH17.sub rfl, by omega, (fun k h => by omega), S⟩
    clear HH17
    clear S
    rintro i aa18 ww18 ⟨HH18, hi, hall, SS18⟩
    refine wp_seq_k fun KK19 hKK19 => ?_
    refine wp_region_lit ?_
    by_cases hlt : (i : Int) < (xs.length : Int)
    ·
      refine LG_val (want0 rfl) rfl rfl HH18 (Y_yes (Y_lss HH18 rfl rfl rfl) (hlt)) (fun aa20 HH20 => ?_)
      clear HH18
      refine L_end (t_norm (hKK19 _ _ ?_))
      refine wp_seq_k fun KK21 hKK21 => ?_
      refine c_yes HH20 rfl ?_
      refine wp_skip (t_norm (hKK21 _ _ ?_))
      refine wp_seq_k fun KK22 hKK22 => ?_
      refine wp_block ?_
      refine wp_seq_k fun KK23 hKK23 => ?_
      refine wp_region_lit ?_
      refine LG_val (want0 rfl) rfl rfl HH20 (Y_mov HH20 rfl rfl) (fun aa24 HH24 => ?_)
      clear HH20
      refine LG_val (want0 rfl) rfl rfl HH24 (Y_asg HH24 rfl rfl) (fun aa25 HH25 => ?_)
      clear HH24
      refine L_end (t_norm (hKK23 _ _ ?_))
      refine wp_seq_k fun KK26 hKK26 => ?_
      -- region 6, drawn
      obtain ⟨b1, o1, e1, c1⟩ := rd_some hu (by omega)
      obtain ⟨b2, o2, e2, c2⟩ := rd_some hv (by omega)
      refine N_begin (fun w' => Keep w w') (.val 0 (.val 1 (.val 2 (.val 3 (.val 4 (.val 5 (.val 6 (.val 7 (.val 8 .fin))))))))) (by kernel_rfl) (by kernel_rfl) (by kernel_rfl) (by kernel_rfl) (fun _ _ _ _ _ h => h) (SS18.drew) (fun ww27 SS27 _ => ?_)
      clear SS18
      refine N_val rfl (want0 rfl) rfl rfl HH25 (fun ww27 SS27 => Y_mov HH25 rfl rfl) (fun aa28 HH28 => ?_)
      clear HH25
      refine N_val rfl (want0 rfl) rfl rfl HH28 (fun ww27 SS27 => Y_mov HH28 rfl rfl) (fun aa29 HH29 => ?_)
      clear HH28
      refine N_val rfl (want0 rfl) rfl rfl HH29 (fun ww27 SS27 => Y_idxE (q := o1 + i) HH29 rfl ty_ints rfl e1 rfl (by omega) (by omega) (by simp)) (fun aa30 HH30 => ?_)
      clear HH29
      refine N_val rfl (want0 rfl) rfl rfl HH30 (fun ww27 SS27 => Y_load HH30 rfl (by kernel_rfl) rfl (Keep.cell SS27 (c1 i (by omega)))) (fun aa31 HH31 => ?_)
      clear HH30
      refine N_val rfl (want0 rfl) rfl rfl HH31 (fun ww27 SS27 => Y_mov HH31 rfl rfl) (fun aa32 HH32 => ?_)
      clear HH31
      refine N_val rfl (want0 rfl) rfl rfl HH32 (fun ww27 SS27 => Y_mov HH32 rfl rfl) (fun aa33 HH33 => ?_)
      clear HH32
      refine N_val rfl (want0 rfl) rfl rfl HH33 (fun ww27 SS27 => Y_idxE (q := o2 + i) HH33 rfl ty_ints rfl e2 rfl (by omega) (by omega) (by simp)) (fun aa34 HH34 => ?_)
      clear HH33
      refine N_val rfl (want0 rfl) rfl rfl HH34 (fun ww27 SS27 => Y_load HH34 rfl (by kernel_rfl) rfl (Keep.cell SS27 (c2 i (by omega)))) (fun aa35 HH35 => ?_)
      clear HH34
      by_cases hne : xs.getD i 0 ≠ ys.getD i 0
      ·
        refine N_val rfl (want0 rfl) rfl rfl HH35 (fun ww27 SS27 => Y_yes (Y_neq HH35 rfl rfl rfl) (hne)) (fun aa36 HH36 => ?_)
        clear HH35
        refine N_end (t_norm (hKK26 _ _ ?_))
        refine c_yes HH36 rfl ?_
        refine wp_seq_k fun KK37 hKK37 => ?_
        refine wp_region_lit ?_
        refine LG_val (want0 rfl) rfl rfl HH36 (Y_asg HH36 rfl rfl) (fun aa38 HH38 => ?_)
        clear HH36
        refine L_end (t_norm (hKK37 _ _ ?_))
        refine wp_ret (b_ret (t_ret (t_ret (b_ret (t_ret (ret1 rfl HH38 rfl ?_))))))
        rw [beq_at rfl hlen (by omega) hne]; exact ⟨rfl, SS27⟩
      ·
        refine N_val rfl (want0 rfl) rfl rfl HH35 (fun ww27 SS27 => Y_no (Y_neq HH35 rfl rfl rfl) (hne)) (fun aa39 HH39 => ?_)
        clear HH35
        refine N_end (t_norm (hKK26 _ _ ?_))
        refine c_no HH39 rfl ?_
        refine wp_skip (b_norm (t_norm (hKK22 _ _ ?_)))
        refine wp_region_lit ?_
        refine LG_val (want0 rfl) rfl rfl HH39 (Y_add HH39 rfl rfl rfl (IntWalk.i64_in _ (by omega))) (fun aa40 HH40 => ?_)
        clear HH39
        refine LG_val (want0 rfl) rfl rfl HH40 (Y_mov HH40 rfl rfl) (fun aa41 HH41 => ?_)
        clear HH40
        refine L_end (t_norm ?_)
        exact ⟨i + 1, ⟨HH41.sub rfl, by omega, (fun k h => (Nat.lt_succ_iff_lt_or_eq.1 h).elim (hall k) (fun e => by rw [e]; exact Decidable.not_not.1 hne)), SS27⟩, by first | omega | (dsimp only; omega)⟩
    ·
      refine LG_val (want0 rfl) rfl rfl HH18 (Y_no (Y_lss HH18 rfl rfl rfl) (hlt)) (fun aa42 HH42 => ?_)
      clear HH18
      refine L_end (t_norm (hKK19 _ _ ?_))
      refine wp_seq_k fun KK43 hKK43 => ?_
      refine c_no HH42 rfl ?_
      refine wp_exit (t_exit (t_exit (b_exit (t_norm (hKK13 _ _ ?_)))))
      refine wp_seq_k fun KK44 hKK44 => ?_
      refine wp_region_lit ?_
      refine LG_val (want0 rfl) rfl rfl HH42 (Y_asg HH42 rfl rfl) (fun aa45 HH45 => ?_)
      clear HH42
      refine L_end (t_norm (hKK44 _ _ ?_))
      refine wp_ret (ret1 rfl HH45 rfl ?_)
      rw [beq_all rfl hlen (fun j hj => hall j (by omega))]; exact ⟨rfl, SS18⟩

set_option maxRecDepth 100000 in
theorem psame_ok {w : World} {l : List HProp} (p q : Pkt) {va ua : Option Addr} {vc uc vn un : Nat} (hu : ∀ w', Sat w' l → RdI w' (.slice va vn vc) p.data) (hv : ∀ w', Sat w' l → RdI w' (.slice ua un uc) q.data) (S : Sat w l) :
    Calls Try.prog 76 #[p.val (.slice va vn vc), q.val (.slice ua un uc)] w fun e w' => e = .returned (VB (p.eqb q)) ∧ Sat w' l := by
  refine enter (n := 68) Try.func76 rfl [(0, p.val (.slice va vn vc)), (1, q.val (.slice ua un uc))] rfl rfl fun aa0 HH0 => ?_
  refine wp_seq_k fun KK1 hKK1 => ?_
  refine wp_region_lit ?_
  refine LG_do (want0 rfl) rfl rfl HH0 (M_box HH0 rfl rfl rfl S) ?_
  rintro _ ww2 ⟨b2, rfl, SS2, _⟩ aa2 HH2
  clear HH0
  clear S
  refine LG_do (want0 rfl) rfl rfl HH2 (M_box HH2 rfl rfl rfl SS2) ?_
  rintro _ ww3 ⟨b3, rfl, SS3, _⟩ aa3 HH3
  clear HH2
  clear SS2
  refine LG_val (want0 rfl) rfl rfl HH3 (Y_asg HH3 rfl rfl) (fun aa4 HH4 => ?_)
  clear HH3
  refine L_end (t_norm (hKK1 _ _ ?_))
  refine wp_seq_k fun KK5 hKK5 => ?_
  refine wp_region_lit ?_
  refine LG_val (want0 rfl) rfl rfl HH4 (Y_fad (off := 0) (r := 0) HH4 rfl (by kernel_rfl) rfl rfl) (fun aa6 HH6 => ?_)
  clear HH4
  refine LG_val (want0 rfl) rfl rfl HH6 (Y_load HH6 rfl (by kernel_rfl) rfl (SS3.p1.cell 0)) (fun aa7 HH7 => ?_)
  clear HH6
  refine LG_val (want0 rfl) rfl rfl HH7 (Y_fad (off := 0) (r := 0) HH7 rfl (by kernel_rfl) rfl rfl) (fun aa8 HH8 => ?_)
  clear HH7
  refine LG_val (want0 rfl) rfl rfl HH8 (Y_load HH8 rfl (by kernel_rfl) rfl (SS3.cell 0)) (fun aa9 HH9 => ?_)
  clear HH8
  by_cases hkind : p.kind = q.kind
  ·
    refine LG_val (want0 rfl) rfl rfl HH9 (Y_yes (Y_eql HH9 rfl rfl rfl) (hkind)) (fun aa10 HH10 => ?_)
    clear HH9
    refine LG_val (want0 rfl) rfl rfl HH10 (Y_mov HH10 rfl rfl) (fun aa11 HH11 => ?_)
    clear HH10
    refine LG_val (HH11.want rfl rfl rfl) rfl rfl HH11 (Y_fad (off := 1) (r := 1) HH11 rfl (by kernel_rfl) rfl rfl) (fun aa12 HH12 => ?_)
    clear HH11
    refine LG_val (HH12.want rfl rfl rfl) rfl rfl HH12 (Y_load HH12 rfl (by kernel_rfl) rfl (SS3.p1.cell 1)) (fun aa13 HH13 => ?_)
    clear HH12
    refine LG_val (HH13.want rfl rfl rfl) rfl rfl HH13 (Y_fad (off := 1) (r := 1) HH13 rfl (by kernel_rfl) rfl rfl) (fun aa14 HH14 => ?_)
    clear HH13
    refine LG_val (HH14.want rfl rfl rfl) rfl rfl HH14 (Y_load HH14 rfl (by kernel_rfl) rfl (SS3.cell 1)) (fun aa15 HH15 => ?_)
    clear HH14
    by_cases hsrc : p.src = q.src
    ·
      refine LG_val (HH15.want rfl rfl rfl) rfl rfl HH15 (Y_yes (Y_eql HH15 rfl rfl rfl) (hsrc)) (fun aa16 HH16 => ?_)
      clear HH15
      refine LG_val (want0 rfl) rfl rfl HH16 (Y_pickT HH16 rfl rfl rfl) (fun aa17 HH17 => ?_)
      clear HH16
      refine LG_val (want0 rfl) rfl rfl HH17 (Y_mov HH17 rfl rfl) (fun aa18 HH18 => ?_)
      clear HH17
      refine LG_val (HH18.want rfl rfl rfl) rfl rfl HH18 (Y_fad (off := 2) (r := 2) HH18 rfl (by kernel_rfl) rfl rfl) (fun aa19 HH19 => ?_)
      clear HH18
      refine LG_val (HH19.want rfl rfl rfl) rfl rfl HH19 (Y_load HH19 rfl (by kernel_rfl) rfl (SS3.p1.cell 2)) (fun aa20 HH20 => ?_)
      clear HH19
      refine LG_val (HH20.want rfl rfl rfl) rfl rfl HH20 (Y_fad (off := 2) (r := 2) HH20 rfl (by kernel_rfl) rfl rfl) (fun aa21 HH21 => ?_)
      clear HH20
      refine LG_val (HH21.want rfl rfl rfl) rfl rfl HH21 (Y_load HH21 rfl (by kernel_rfl) rfl (SS3.cell 2)) (fun aa22 HH22 => ?_)
      clear HH21
      by_cases hdst : p.dst = q.dst
      ·
        refine LG_val (HH22.want rfl rfl rfl) rfl rfl HH22 (Y_yes (Y_eql HH22 rfl rfl rfl) (hdst)) (fun aa23 HH23 => ?_)
        clear HH22
        refine LG_val (want0 rfl) rfl rfl HH23 (Y_pickT HH23 rfl rfl rfl) (fun aa24 HH24 => ?_)
        clear HH23
        refine LG_val (want0 rfl) rfl rfl HH24 (Y_mov HH24 rfl rfl) (fun aa25 HH25 => ?_)
        clear HH24
        refine LG_val (HH25.want rfl rfl rfl) rfl rfl HH25 (Y_fad (off := 3) (r := 3) HH25 rfl (by kernel_rfl) rfl rfl) (fun aa26 HH26 => ?_)
        clear HH25
        refine LG_val (HH26.want rfl rfl rfl) rfl rfl HH26 (Y_load HH26 rfl (by kernel_rfl) rfl (SS3.p1.cell 3)) (fun aa27 HH27 => ?_)
        clear HH26
        refine LG_val (HH27.want rfl rfl rfl) rfl rfl HH27 (Y_fad (off := 3) (r := 3) HH27 rfl (by kernel_rfl) rfl rfl) (fun aa28 HH28 => ?_)
        clear HH27
        refine LG_val (HH28.want rfl rfl rfl) rfl rfl HH28 (Y_load HH28 rfl (by kernel_rfl) rfl (SS3.cell 3)) (fun aa29 HH29 => ?_)
        clear HH28
        by_cases hid : p.id = q.id
        ·
          refine LG_val (HH29.want rfl rfl rfl) rfl rfl HH29 (Y_yes (Y_eql HH29 rfl rfl rfl) (hid)) (fun aa30 HH30 => ?_)
          clear HH29
          refine LG_val (want0 rfl) rfl rfl HH30 (Y_pickT HH30 rfl rfl rfl) (fun aa31 HH31 => ?_)
          clear HH30
          refine LG_val (want0 rfl) rfl rfl HH31 (Y_asg HH31 rfl rfl) (fun aa32 HH32 => ?_)
          clear HH31
          refine L_end (t_norm (hKK5 _ _ ?_))
          refine wp_seq_k fun KK33 hKK33 => ?_
          refine wp_region_lit ?_
          refine LG_val (want0 rfl) rfl rfl HH32 (Y_mov HH32 rfl rfl) (fun aa34 HH34 => ?_)
          clear HH32
          refine LG_val (want0 rfl) rfl rfl HH34 (Y_mov HH34 rfl rfl) (fun aa35 HH35 => ?_)
          clear HH34
          refine LG_val (HH35.want rfl rfl rfl) rfl rfl HH35 (Y_fad (off := 4) (r := 4) HH35 rfl (by kernel_rfl) rfl rfl) (fun aa36 HH36 => ?_)
          clear HH35
          refine LG_val (HH36.want rfl rfl rfl) rfl rfl HH36 (Y_load HH36 rfl (by kernel_rfl) rfl (SS3.p1.cell 4)) (fun aa37 HH37 => ?_)
          clear HH36
          refine LG_val (HH37.want rfl rfl rfl) rfl rfl HH37 (Y_fad (off := 4) (r := 4) HH37 rfl (by kernel_rfl) rfl rfl) (fun aa38 HH38 => ?_)
          clear HH37
          refine LG_val (HH38.want rfl rfl rfl) rfl rfl HH38 (Y_load HH38 rfl (by kernel_rfl) rfl (SS3.cell 4)) (fun aa39 HH39 => ?_)
          clear HH38
          by_cases hline : p.line = q.line
          ·
            refine LG_val (HH39.want rfl rfl rfl) rfl rfl HH39 (Y_yes (Y_eql HH39 rfl rfl rfl) (hline)) (fun aa40 HH40 => ?_)
            clear HH39
            refine LG_val (want0 rfl) rfl rfl HH40 (Y_pickT HH40 rfl rfl rfl) (fun aa41 HH41 => ?_)
            clear HH40
            refine LG_val (want0 rfl) rfl rfl HH41 (Y_mov HH41 rfl rfl) (fun aa42 HH42 => ?_)
            clear HH41
            refine LG_val (HH42.want rfl rfl rfl) rfl rfl HH42 (Y_fad (off := 5) (r := 5) HH42 rfl (by kernel_rfl) rfl rfl) (fun aa43 HH43 => ?_)
            clear HH42
            refine LG_val (HH43.want rfl rfl rfl) rfl rfl HH43 (Y_load HH43 rfl (by kernel_rfl) rfl (SS3.p1.cell 5)) (fun aa44 HH44 => ?_)
            clear HH43
            refine LG_val (HH44.want rfl rfl rfl) rfl rfl HH44 (Y_fad (off := 5) (r := 5) HH44 rfl (by kernel_rfl) rfl rfl) (fun aa45 HH45 => ?_)
            clear HH44
            refine LG_val (HH45.want rfl rfl rfl) rfl rfl HH45 (Y_load HH45 rfl (by kernel_rfl) rfl (SS3.cell 5)) (fun aa46 HH46 => ?_)
            clear HH45
            by_cases hptr : p.ptr = q.ptr
            ·
              refine LG_val (HH46.want rfl rfl rfl) rfl rfl HH46 (Y_yes (Y_eql HH46 rfl rfl rfl) (hptr)) (fun aa47 HH47 => ?_)
              clear HH46
              refine LG_val (want0 rfl) rfl rfl HH47 (Y_pickT HH47 rfl rfl rfl) (fun aa48 HH48 => ?_)
              clear HH47
              refine LG_val (want0 rfl) rfl rfl HH48 (Y_mov HH48 rfl rfl) (fun aa49 HH49 => ?_)
              clear HH48
              refine LG_val (HH49.want rfl rfl rfl) rfl rfl HH49 (Y_fad (off := 6) (r := 6) HH49 rfl (by kernel_rfl) rfl rfl) (fun aa50 HH50 => ?_)
              clear HH49
              refine LG_val (HH50.want rfl rfl rfl) rfl rfl HH50 (Y_load HH50 rfl (by kernel_rfl) rfl (SS3.p1.cell 6)) (fun aa51 HH51 => ?_)
              clear HH50
              refine LG_val (HH51.want rfl rfl rfl) rfl rfl HH51 (Y_fad (off := 6) (r := 6) HH51 rfl (by kernel_rfl) rfl rfl) (fun aa52 HH52 => ?_)
              clear HH51
              refine LG_val (HH52.want rfl rfl rfl) rfl rfl HH52 (Y_load HH52 rfl (by kernel_rfl) rfl (SS3.cell 6)) (fun aa53 HH53 => ?_)
              clear HH52
              by_cases hstate : p.state = q.state
              ·
                refine LG_val (HH53.want rfl rfl rfl) rfl rfl HH53 (Y_yes (Y_eql HH53 rfl rfl rfl) (hstate)) (fun aa54 HH54 => ?_)
                clear HH53
                refine LG_val (want0 rfl) rfl rfl HH54 (Y_pickT HH54 rfl rfl rfl) (fun aa55 HH55 => ?_)
                clear HH54
                refine LG_val (want0 rfl) rfl rfl HH55 (Y_mov HH55 rfl rfl) (fun aa56 HH56 => ?_)
                clear HH55
                refine LG_val (HH56.want rfl rfl rfl) rfl rfl HH56 (Y_fad (off := 7) (r := 7) HH56 rfl (by kernel_rfl) rfl rfl) (fun aa57 HH57 => ?_)
                clear HH56
                refine LG_val (HH57.want rfl rfl rfl) rfl rfl HH57 (Y_load HH57 rfl (by kernel_rfl) rfl (SS3.p1.cell 7)) (fun aa58 HH58 => ?_)
                clear HH57
                refine LG_val (HH58.want rfl rfl rfl) rfl rfl HH58 (Y_fad (off := 7) (r := 7) HH58 rfl (by kernel_rfl) rfl rfl) (fun aa59 HH59 => ?_)
                clear HH58
                refine LG_val (HH59.want rfl rfl rfl) rfl rfl HH59 (Y_load HH59 rfl (by kernel_rfl) rfl (SS3.cell 7)) (fun aa60 HH60 => ?_)
                clear HH59
                by_cases hflag : p.flag = q.flag
                ·
                  refine LG_val (HH60.want rfl rfl rfl) rfl rfl HH60 (Y_to (Y_eqlB HH60 rfl (by kernel_rfl) rfl rfl) (show (p.flag == q.flag) = true by (rw [hflag]; simp))) (fun aa61 HH61 => ?_)
                  clear HH60
                  refine LG_val (want0 rfl) rfl rfl HH61 (Y_pickT HH61 rfl rfl rfl) (fun aa62 HH62 => ?_)
                  clear HH61
                  refine LG_val (want0 rfl) rfl rfl HH62 (Y_mov HH62 rfl rfl) (fun aa63 HH63 => ?_)
                  clear HH62
                  refine LG_val (HH63.want rfl rfl rfl) rfl rfl HH63 (Y_fad (off := 8) (r := 8) HH63 rfl (by kernel_rfl) rfl rfl) (fun aa64 HH64 => ?_)
                  clear HH63
                  refine LG_val (HH64.want rfl rfl rfl) rfl rfl HH64 (Y_load HH64 rfl (by kernel_rfl) rfl (SS3.p1.cell 8)) (fun aa65 HH65 => ?_)
                  clear HH64
                  refine LG_val (HH65.want rfl rfl rfl) rfl rfl HH65 (Y_fad (off := 8) (r := 8) HH65 rfl (by kernel_rfl) rfl rfl) (fun aa66 HH66 => ?_)
                  clear HH65
                  refine LG_val (HH66.want rfl rfl rfl) rfl rfl HH66 (Y_load HH66 rfl (by kernel_rfl) rfl (SS3.cell 8)) (fun aa67 HH67 => ?_)
                  clear HH66
                  refine LG_call (HH67.want rfl rfl rfl) rfl rfl rfl Try.func99 (by kernel_rfl) rfl HH67 (equalI_ok (hu _ SS3.p1.p1.tail.tail) (hv _ SS3.p1.p1.tail.tail)) rfl ?_
                  rintro e ww68 ⟨rfl, hk⟩
                  have SS68 := hk.sat SS3
                  refine ⟨_, rfl, fun aa68 HH68 => ?_⟩
                  clear HH67
                  clear SS3
                  refine LG_val (want0 rfl) rfl rfl HH68 (Y_pickT HH68 rfl rfl rfl) (fun aa69 HH69 => ?_)
                  clear HH68
                  refine LG_val (want0 rfl) rfl rfl HH69 (Y_asg HH69 rfl rfl) (fun aa70 HH70 => ?_)
                  clear HH69
                  refine L_end (t_norm (hKK33 _ _ ?_))
                  refine wp_ret (ret1 rfl HH70 rfl ?_)
                  exact ⟨by rw [Pkt.eqb_data hkind hsrc hdst hid hline hptr hstate hflag], SS68.p1.p1.tail.tail⟩
                ·
                  refine LG_val (HH60.want rfl rfl rfl) rfl rfl HH60 (Y_to (Y_eqlB HH60 rfl (by kernel_rfl) rfl rfl) (show (p.flag == q.flag) = false by simpa using hflag)) (fun aa71 HH71 => ?_)
                  clear HH60
                  refine LG_val (want0 rfl) rfl rfl HH71 (Y_pickT HH71 rfl rfl rfl) (fun aa72 HH72 => ?_)
                  clear HH71
                  refine LG_val (want0 rfl) rfl rfl HH72 (Y_mov HH72 rfl rfl) (fun aa73 HH73 => ?_)
                  clear HH72
                  refine LG_skip (HH73.unwant rfl rfl rfl rfl) rfl rfl HH73 (fun aa74 HH74 => ?_)
                  clear HH73
                  refine LG_skip (HH74.unwant rfl rfl rfl rfl) rfl rfl HH74 (fun aa75 HH75 => ?_)
                  clear HH74
                  refine LG_skip (HH75.unwant rfl rfl rfl rfl) rfl rfl HH75 (fun aa76 HH76 => ?_)
                  clear HH75
                  refine LG_skip (HH76.unwant rfl rfl rfl rfl) rfl rfl HH76 (fun aa77 HH77 => ?_)
                  clear HH76
                  refine LG_skip (HH77.unwant rfl rfl rfl rfl) rfl rfl HH77 (fun aa78 HH78 => ?_)
                  clear HH77
                  refine LG_val (want0 rfl) rfl rfl HH78 (Y_pickF HH78 rfl rfl rfl) (fun aa79 HH79 => ?_)
                  clear HH78
                  refine LG_val (want0 rfl) rfl rfl HH79 (Y_asg HH79 rfl rfl) (fun aa80 HH80 => ?_)
                  clear HH79
                  refine L_end (t_norm (hKK33 _ _ ?_))
                  refine wp_ret (ret1 rfl HH80 rfl ?_)
                  exact ⟨by rw [Pkt.eqb_ne (fun e => hflag (by rw [e]))], SS3.p1.p1.tail.tail⟩
              ·
                refine LG_val (HH53.want rfl rfl rfl) rfl rfl HH53 (Y_no (Y_eql HH53 rfl rfl rfl) (hstate)) (fun aa81 HH81 => ?_)
                clear HH53
                refine LG_val (want0 rfl) rfl rfl HH81 (Y_pickT HH81 rfl rfl rfl) (fun aa82 HH82 => ?_)
                clear HH81
                refine LG_val (want0 rfl) rfl rfl HH82 (Y_mov HH82 rfl rfl) (fun aa83 HH83 => ?_)
                clear HH82
                refine LG_skip (HH83.unwant rfl rfl rfl rfl) rfl rfl HH83 (fun aa84 HH84 => ?_)
                clear HH83
                refine LG_skip (HH84.unwant rfl rfl rfl rfl) rfl rfl HH84 (fun aa85 HH85 => ?_)
                clear HH84
                refine LG_skip (HH85.unwant rfl rfl rfl rfl) rfl rfl HH85 (fun aa86 HH86 => ?_)
                clear HH85
                refine LG_skip (HH86.unwant rfl rfl rfl rfl) rfl rfl HH86 (fun aa87 HH87 => ?_)
                clear HH86
                refine LG_skip (HH87.unwant rfl rfl rfl rfl) rfl rfl HH87 (fun aa88 HH88 => ?_)
                clear HH87
                refine LG_val (want0 rfl) rfl rfl HH88 (Y_pickF HH88 rfl rfl rfl) (fun aa89 HH89 => ?_)
                clear HH88
                refine LG_val (want0 rfl) rfl rfl HH89 (Y_mov HH89 rfl rfl) (fun aa90 HH90 => ?_)
                clear HH89
                refine LG_skip (HH90.unwant rfl rfl rfl rfl) rfl rfl HH90 (fun aa91 HH91 => ?_)
                clear HH90
                refine LG_skip (HH91.unwant rfl rfl rfl rfl) rfl rfl HH91 (fun aa92 HH92 => ?_)
                clear HH91
                refine LG_skip (HH92.unwant rfl rfl rfl rfl) rfl rfl HH92 (fun aa93 HH93 => ?_)
                clear HH92
                refine LG_skip (HH93.unwant rfl rfl rfl rfl) rfl rfl HH93 (fun aa94 HH94 => ?_)
                clear HH93
                refine LG_skip (HH94.unwant rfl rfl rfl rfl) rfl rfl HH94 (fun aa95 HH95 => ?_)
                clear HH94
                refine LG_val (want0 rfl) rfl rfl HH95 (Y_pickF HH95 rfl rfl rfl) (fun aa96 HH96 => ?_)
                clear HH95
                refine LG_val (want0 rfl) rfl rfl HH96 (Y_asg HH96 rfl rfl) (fun aa97 HH97 => ?_)
                clear HH96
                refine L_end (t_norm (hKK33 _ _ ?_))
                refine wp_ret (ret1 rfl HH97 rfl ?_)
                exact ⟨by rw [Pkt.eqb_ne (fun e => hstate (by rw [e]))], SS3.p1.p1.tail.tail⟩
            ·
              refine LG_val (HH46.want rfl rfl rfl) rfl rfl HH46 (Y_no (Y_eql HH46 rfl rfl rfl) (hptr)) (fun aa98 HH98 => ?_)
              clear HH46
              refine LG_val (want0 rfl) rfl rfl HH98 (Y_pickT HH98 rfl rfl rfl) (fun aa99 HH99 => ?_)
              clear HH98
              refine LG_val (want0 rfl) rfl rfl HH99 (Y_mov HH99 rfl rfl) (fun aa100 HH100 => ?_)
              clear HH99
              refine LG_skip (HH100.unwant rfl rfl rfl rfl) rfl rfl HH100 (fun aa101 HH101 => ?_)
              clear HH100
              refine LG_skip (HH101.unwant rfl rfl rfl rfl) rfl rfl HH101 (fun aa102 HH102 => ?_)
              clear HH101
              refine LG_skip (HH102.unwant rfl rfl rfl rfl) rfl rfl HH102 (fun aa103 HH103 => ?_)
              clear HH102
              refine LG_skip (HH103.unwant rfl rfl rfl rfl) rfl rfl HH103 (fun aa104 HH104 => ?_)
              clear HH103
              refine LG_skip (HH104.unwant rfl rfl rfl rfl) rfl rfl HH104 (fun aa105 HH105 => ?_)
              clear HH104
              refine LG_val (want0 rfl) rfl rfl HH105 (Y_pickF HH105 rfl rfl rfl) (fun aa106 HH106 => ?_)
              clear HH105
              refine LG_val (want0 rfl) rfl rfl HH106 (Y_mov HH106 rfl rfl) (fun aa107 HH107 => ?_)
              clear HH106
              refine LG_skip (HH107.unwant rfl rfl rfl rfl) rfl rfl HH107 (fun aa108 HH108 => ?_)
              clear HH107
              refine LG_skip (HH108.unwant rfl rfl rfl rfl) rfl rfl HH108 (fun aa109 HH109 => ?_)
              clear HH108
              refine LG_skip (HH109.unwant rfl rfl rfl rfl) rfl rfl HH109 (fun aa110 HH110 => ?_)
              clear HH109
              refine LG_skip (HH110.unwant rfl rfl rfl rfl) rfl rfl HH110 (fun aa111 HH111 => ?_)
              clear HH110
              refine LG_skip (HH111.unwant rfl rfl rfl rfl) rfl rfl HH111 (fun aa112 HH112 => ?_)
              clear HH111
              refine LG_val (want0 rfl) rfl rfl HH112 (Y_pickF HH112 rfl rfl rfl) (fun aa113 HH113 => ?_)
              clear HH112
              refine LG_val (want0 rfl) rfl rfl HH113 (Y_mov HH113 rfl rfl) (fun aa114 HH114 => ?_)
              clear HH113
              refine LG_skip (HH114.unwant rfl rfl rfl rfl) rfl rfl HH114 (fun aa115 HH115 => ?_)
              clear HH114
              refine LG_skip (HH115.unwant rfl rfl rfl rfl) rfl rfl HH115 (fun aa116 HH116 => ?_)
              clear HH115
              refine LG_skip (HH116.unwant rfl rfl rfl rfl) rfl rfl HH116 (fun aa117 HH117 => ?_)
              clear HH116
              refine LG_skip (HH117.unwant rfl rfl rfl rfl) rfl rfl HH117 (fun aa118 HH118 => ?_)
              clear HH117
              refine LG_skip (HH118.unwant rfl rfl rfl rfl) rfl rfl HH118 (fun aa119 HH119 => ?_)
              clear HH118
              refine LG_val (want0 rfl) rfl rfl HH119 (Y_pickF HH119 rfl rfl rfl) (fun aa120 HH120 => ?_)
              clear HH119
              refine LG_val (want0 rfl) rfl rfl HH120 (Y_asg HH120 rfl rfl) (fun aa121 HH121 => ?_)
              clear HH120
              refine L_end (t_norm (hKK33 _ _ ?_))
              refine wp_ret (ret1 rfl HH121 rfl ?_)
              exact ⟨by rw [Pkt.eqb_ne (fun e => hptr (by rw [e]))], SS3.p1.p1.tail.tail⟩
          ·
            refine LG_val (HH39.want rfl rfl rfl) rfl rfl HH39 (Y_no (Y_eql HH39 rfl rfl rfl) (hline)) (fun aa122 HH122 => ?_)
            clear HH39
            refine LG_val (want0 rfl) rfl rfl HH122 (Y_pickT HH122 rfl rfl rfl) (fun aa123 HH123 => ?_)
            clear HH122
            refine LG_val (want0 rfl) rfl rfl HH123 (Y_mov HH123 rfl rfl) (fun aa124 HH124 => ?_)
            clear HH123
            refine LG_skip (HH124.unwant rfl rfl rfl rfl) rfl rfl HH124 (fun aa125 HH125 => ?_)
            clear HH124
            refine LG_skip (HH125.unwant rfl rfl rfl rfl) rfl rfl HH125 (fun aa126 HH126 => ?_)
            clear HH125
            refine LG_skip (HH126.unwant rfl rfl rfl rfl) rfl rfl HH126 (fun aa127 HH127 => ?_)
            clear HH126
            refine LG_skip (HH127.unwant rfl rfl rfl rfl) rfl rfl HH127 (fun aa128 HH128 => ?_)
            clear HH127
            refine LG_skip (HH128.unwant rfl rfl rfl rfl) rfl rfl HH128 (fun aa129 HH129 => ?_)
            clear HH128
            refine LG_val (want0 rfl) rfl rfl HH129 (Y_pickF HH129 rfl rfl rfl) (fun aa130 HH130 => ?_)
            clear HH129
            refine LG_val (want0 rfl) rfl rfl HH130 (Y_mov HH130 rfl rfl) (fun aa131 HH131 => ?_)
            clear HH130
            refine LG_skip (HH131.unwant rfl rfl rfl rfl) rfl rfl HH131 (fun aa132 HH132 => ?_)
            clear HH131
            refine LG_skip (HH132.unwant rfl rfl rfl rfl) rfl rfl HH132 (fun aa133 HH133 => ?_)
            clear HH132
            refine LG_skip (HH133.unwant rfl rfl rfl rfl) rfl rfl HH133 (fun aa134 HH134 => ?_)
            clear HH133
            refine LG_skip (HH134.unwant rfl rfl rfl rfl) rfl rfl HH134 (fun aa135 HH135 => ?_)
            clear HH134
            refine LG_skip (HH135.unwant rfl rfl rfl rfl) rfl rfl HH135 (fun aa136 HH136 => ?_)
            clear HH135
            refine LG_val (want0 rfl) rfl rfl HH136 (Y_pickF HH136 rfl rfl rfl) (fun aa137 HH137 => ?_)
            clear HH136
            refine LG_val (want0 rfl) rfl rfl HH137 (Y_mov HH137 rfl rfl) (fun aa138 HH138 => ?_)
            clear HH137
            refine LG_skip (HH138.unwant rfl rfl rfl rfl) rfl rfl HH138 (fun aa139 HH139 => ?_)
            clear HH138
            refine LG_skip (HH139.unwant rfl rfl rfl rfl) rfl rfl HH139 (fun aa140 HH140 => ?_)
            clear HH139
            refine LG_skip (HH140.unwant rfl rfl rfl rfl) rfl rfl HH140 (fun aa141 HH141 => ?_)
            clear HH140
            refine LG_skip (HH141.unwant rfl rfl rfl rfl) rfl rfl HH141 (fun aa142 HH142 => ?_)
            clear HH141
            refine LG_skip (HH142.unwant rfl rfl rfl rfl) rfl rfl HH142 (fun aa143 HH143 => ?_)
            clear HH142
            refine LG_val (want0 rfl) rfl rfl HH143 (Y_pickF HH143 rfl rfl rfl) (fun aa144 HH144 => ?_)
            clear HH143
            refine LG_val (want0 rfl) rfl rfl HH144 (Y_mov HH144 rfl rfl) (fun aa145 HH145 => ?_)
            clear HH144
            refine LG_skip (HH145.unwant rfl rfl rfl rfl) rfl rfl HH145 (fun aa146 HH146 => ?_)
            clear HH145
            refine LG_skip (HH146.unwant rfl rfl rfl rfl) rfl rfl HH146 (fun aa147 HH147 => ?_)
            clear HH146
            refine LG_skip (HH147.unwant rfl rfl rfl rfl) rfl rfl HH147 (fun aa148 HH148 => ?_)
            clear HH147
            refine LG_skip (HH148.unwant rfl rfl rfl rfl) rfl rfl HH148 (fun aa149 HH149 => ?_)
            clear HH148
            refine LG_skip (HH149.unwant rfl rfl rfl rfl) rfl rfl HH149 (fun aa150 HH150 => ?_)
            clear HH149
            refine LG_val (want0 rfl) rfl rfl HH150 (Y_pickF HH150 rfl rfl rfl) (fun aa151 HH151 => ?_)
            clear HH150
            refine LG_val (want0 rfl) rfl rfl HH151 (Y_asg HH151 rfl rfl) (fun aa152 HH152 => ?_)
            clear HH151
            refine L_end (t_norm (hKK33 _ _ ?_))
            refine wp_ret (ret1 rfl HH152 rfl ?_)
            exact ⟨by rw [Pkt.eqb_ne (fun e => hline (by rw [e]))], SS3.p1.p1.tail.tail⟩
        ·
          refine LG_val (HH29.want rfl rfl rfl) rfl rfl HH29 (Y_no (Y_eql HH29 rfl rfl rfl) (hid)) (fun aa153 HH153 => ?_)
          clear HH29
          refine LG_val (want0 rfl) rfl rfl HH153 (Y_pickT HH153 rfl rfl rfl) (fun aa154 HH154 => ?_)
          clear HH153
          refine LG_val (want0 rfl) rfl rfl HH154 (Y_asg HH154 rfl rfl) (fun aa155 HH155 => ?_)
          clear HH154
          refine L_end (t_norm (hKK5 _ _ ?_))
          refine wp_seq_k fun KK156 hKK156 => ?_
          refine wp_region_lit ?_
          refine LG_val (want0 rfl) rfl rfl HH155 (Y_mov HH155 rfl rfl) (fun aa157 HH157 => ?_)
          clear HH155
          refine LG_val (want0 rfl) rfl rfl HH157 (Y_mov HH157 rfl rfl) (fun aa158 HH158 => ?_)
          clear HH157
          refine LG_skip (HH158.unwant rfl rfl rfl rfl) rfl rfl HH158 (fun aa159 HH159 => ?_)
          clear HH158
          refine LG_skip (HH159.unwant rfl rfl rfl rfl) rfl rfl HH159 (fun aa160 HH160 => ?_)
          clear HH159
          refine LG_skip (HH160.unwant rfl rfl rfl rfl) rfl rfl HH160 (fun aa161 HH161 => ?_)
          clear HH160
          refine LG_skip (HH161.unwant rfl rfl rfl rfl) rfl rfl HH161 (fun aa162 HH162 => ?_)
          clear HH161
          refine LG_skip (HH162.unwant rfl rfl rfl rfl) rfl rfl HH162 (fun aa163 HH163 => ?_)
          clear HH162
          refine LG_val (want0 rfl) rfl rfl HH163 (Y_pickF HH163 rfl rfl rfl) (fun aa164 HH164 => ?_)
          clear HH163
          refine LG_val (want0 rfl) rfl rfl HH164 (Y_mov HH164 rfl rfl) (fun aa165 HH165 => ?_)
          clear HH164
          refine LG_skip (HH165.unwant rfl rfl rfl rfl) rfl rfl HH165 (fun aa166 HH166 => ?_)
          clear HH165
          refine LG_skip (HH166.unwant rfl rfl rfl rfl) rfl rfl HH166 (fun aa167 HH167 => ?_)
          clear HH166
          refine LG_skip (HH167.unwant rfl rfl rfl rfl) rfl rfl HH167 (fun aa168 HH168 => ?_)
          clear HH167
          refine LG_skip (HH168.unwant rfl rfl rfl rfl) rfl rfl HH168 (fun aa169 HH169 => ?_)
          clear HH168
          refine LG_skip (HH169.unwant rfl rfl rfl rfl) rfl rfl HH169 (fun aa170 HH170 => ?_)
          clear HH169
          refine LG_val (want0 rfl) rfl rfl HH170 (Y_pickF HH170 rfl rfl rfl) (fun aa171 HH171 => ?_)
          clear HH170
          refine LG_val (want0 rfl) rfl rfl HH171 (Y_mov HH171 rfl rfl) (fun aa172 HH172 => ?_)
          clear HH171
          refine LG_skip (HH172.unwant rfl rfl rfl rfl) rfl rfl HH172 (fun aa173 HH173 => ?_)
          clear HH172
          refine LG_skip (HH173.unwant rfl rfl rfl rfl) rfl rfl HH173 (fun aa174 HH174 => ?_)
          clear HH173
          refine LG_skip (HH174.unwant rfl rfl rfl rfl) rfl rfl HH174 (fun aa175 HH175 => ?_)
          clear HH174
          refine LG_skip (HH175.unwant rfl rfl rfl rfl) rfl rfl HH175 (fun aa176 HH176 => ?_)
          clear HH175
          refine LG_skip (HH176.unwant rfl rfl rfl rfl) rfl rfl HH176 (fun aa177 HH177 => ?_)
          clear HH176
          refine LG_val (want0 rfl) rfl rfl HH177 (Y_pickF HH177 rfl rfl rfl) (fun aa178 HH178 => ?_)
          clear HH177
          refine LG_val (want0 rfl) rfl rfl HH178 (Y_mov HH178 rfl rfl) (fun aa179 HH179 => ?_)
          clear HH178
          refine LG_skip (HH179.unwant rfl rfl rfl rfl) rfl rfl HH179 (fun aa180 HH180 => ?_)
          clear HH179
          refine LG_skip (HH180.unwant rfl rfl rfl rfl) rfl rfl HH180 (fun aa181 HH181 => ?_)
          clear HH180
          refine LG_skip (HH181.unwant rfl rfl rfl rfl) rfl rfl HH181 (fun aa182 HH182 => ?_)
          clear HH181
          refine LG_skip (HH182.unwant rfl rfl rfl rfl) rfl rfl HH182 (fun aa183 HH183 => ?_)
          clear HH182
          refine LG_skip (HH183.unwant rfl rfl rfl rfl) rfl rfl HH183 (fun aa184 HH184 => ?_)
          clear HH183
          refine LG_val (want0 rfl) rfl rfl HH184 (Y_pickF HH184 rfl rfl rfl) (fun aa185 HH185 => ?_)
          clear HH184
          refine LG_val (want0 rfl) rfl rfl HH185 (Y_mov HH185 rfl rfl) (fun aa186 HH186 => ?_)
          clear HH185
          refine LG_skip (HH186.unwant rfl rfl rfl rfl) rfl rfl HH186 (fun aa187 HH187 => ?_)
          clear HH186
          refine LG_skip (HH187.unwant rfl rfl rfl rfl) rfl rfl HH187 (fun aa188 HH188 => ?_)
          clear HH187
          refine LG_skip (HH188.unwant rfl rfl rfl rfl) rfl rfl HH188 (fun aa189 HH189 => ?_)
          clear HH188
          refine LG_skip (HH189.unwant rfl rfl rfl rfl) rfl rfl HH189 (fun aa190 HH190 => ?_)
          clear HH189
          refine LG_skip (HH190.unwant rfl rfl rfl rfl) rfl rfl HH190 (fun aa191 HH191 => ?_)
          clear HH190
          refine LG_val (want0 rfl) rfl rfl HH191 (Y_pickF HH191 rfl rfl rfl) (fun aa192 HH192 => ?_)
          clear HH191
          refine LG_val (want0 rfl) rfl rfl HH192 (Y_asg HH192 rfl rfl) (fun aa193 HH193 => ?_)
          clear HH192
          refine L_end (t_norm (hKK156 _ _ ?_))
          refine wp_ret (ret1 rfl HH193 rfl ?_)
          exact ⟨by rw [Pkt.eqb_ne (fun e => hid (by rw [e]))], SS3.p1.p1.tail.tail⟩
      ·
        refine LG_val (HH22.want rfl rfl rfl) rfl rfl HH22 (Y_no (Y_eql HH22 rfl rfl rfl) (hdst)) (fun aa194 HH194 => ?_)
        clear HH22
        refine LG_val (want0 rfl) rfl rfl HH194 (Y_pickT HH194 rfl rfl rfl) (fun aa195 HH195 => ?_)
        clear HH194
        refine LG_val (want0 rfl) rfl rfl HH195 (Y_mov HH195 rfl rfl) (fun aa196 HH196 => ?_)
        clear HH195
        refine LG_skip (HH196.unwant rfl rfl rfl rfl) rfl rfl HH196 (fun aa197 HH197 => ?_)
        clear HH196
        refine LG_skip (HH197.unwant rfl rfl rfl rfl) rfl rfl HH197 (fun aa198 HH198 => ?_)
        clear HH197
        refine LG_skip (HH198.unwant rfl rfl rfl rfl) rfl rfl HH198 (fun aa199 HH199 => ?_)
        clear HH198
        refine LG_skip (HH199.unwant rfl rfl rfl rfl) rfl rfl HH199 (fun aa200 HH200 => ?_)
        clear HH199
        refine LG_skip (HH200.unwant rfl rfl rfl rfl) rfl rfl HH200 (fun aa201 HH201 => ?_)
        clear HH200
        refine LG_val (want0 rfl) rfl rfl HH201 (Y_pickF HH201 rfl rfl rfl) (fun aa202 HH202 => ?_)
        clear HH201
        refine LG_val (want0 rfl) rfl rfl HH202 (Y_asg HH202 rfl rfl) (fun aa203 HH203 => ?_)
        clear HH202
        refine L_end (t_norm (hKK5 _ _ ?_))
        refine wp_seq_k fun KK204 hKK204 => ?_
        refine wp_region_lit ?_
        refine LG_val (want0 rfl) rfl rfl HH203 (Y_mov HH203 rfl rfl) (fun aa205 HH205 => ?_)
        clear HH203
        refine LG_val (want0 rfl) rfl rfl HH205 (Y_mov HH205 rfl rfl) (fun aa206 HH206 => ?_)
        clear HH205
        refine LG_skip (HH206.unwant rfl rfl rfl rfl) rfl rfl HH206 (fun aa207 HH207 => ?_)
        clear HH206
        refine LG_skip (HH207.unwant rfl rfl rfl rfl) rfl rfl HH207 (fun aa208 HH208 => ?_)
        clear HH207
        refine LG_skip (HH208.unwant rfl rfl rfl rfl) rfl rfl HH208 (fun aa209 HH209 => ?_)
        clear HH208
        refine LG_skip (HH209.unwant rfl rfl rfl rfl) rfl rfl HH209 (fun aa210 HH210 => ?_)
        clear HH209
        refine LG_skip (HH210.unwant rfl rfl rfl rfl) rfl rfl HH210 (fun aa211 HH211 => ?_)
        clear HH210
        refine LG_val (want0 rfl) rfl rfl HH211 (Y_pickF HH211 rfl rfl rfl) (fun aa212 HH212 => ?_)
        clear HH211
        refine LG_val (want0 rfl) rfl rfl HH212 (Y_mov HH212 rfl rfl) (fun aa213 HH213 => ?_)
        clear HH212
        refine LG_skip (HH213.unwant rfl rfl rfl rfl) rfl rfl HH213 (fun aa214 HH214 => ?_)
        clear HH213
        refine LG_skip (HH214.unwant rfl rfl rfl rfl) rfl rfl HH214 (fun aa215 HH215 => ?_)
        clear HH214
        refine LG_skip (HH215.unwant rfl rfl rfl rfl) rfl rfl HH215 (fun aa216 HH216 => ?_)
        clear HH215
        refine LG_skip (HH216.unwant rfl rfl rfl rfl) rfl rfl HH216 (fun aa217 HH217 => ?_)
        clear HH216
        refine LG_skip (HH217.unwant rfl rfl rfl rfl) rfl rfl HH217 (fun aa218 HH218 => ?_)
        clear HH217
        refine LG_val (want0 rfl) rfl rfl HH218 (Y_pickF HH218 rfl rfl rfl) (fun aa219 HH219 => ?_)
        clear HH218
        refine LG_val (want0 rfl) rfl rfl HH219 (Y_mov HH219 rfl rfl) (fun aa220 HH220 => ?_)
        clear HH219
        refine LG_skip (HH220.unwant rfl rfl rfl rfl) rfl rfl HH220 (fun aa221 HH221 => ?_)
        clear HH220
        refine LG_skip (HH221.unwant rfl rfl rfl rfl) rfl rfl HH221 (fun aa222 HH222 => ?_)
        clear HH221
        refine LG_skip (HH222.unwant rfl rfl rfl rfl) rfl rfl HH222 (fun aa223 HH223 => ?_)
        clear HH222
        refine LG_skip (HH223.unwant rfl rfl rfl rfl) rfl rfl HH223 (fun aa224 HH224 => ?_)
        clear HH223
        refine LG_skip (HH224.unwant rfl rfl rfl rfl) rfl rfl HH224 (fun aa225 HH225 => ?_)
        clear HH224
        refine LG_val (want0 rfl) rfl rfl HH225 (Y_pickF HH225 rfl rfl rfl) (fun aa226 HH226 => ?_)
        clear HH225
        refine LG_val (want0 rfl) rfl rfl HH226 (Y_mov HH226 rfl rfl) (fun aa227 HH227 => ?_)
        clear HH226
        refine LG_skip (HH227.unwant rfl rfl rfl rfl) rfl rfl HH227 (fun aa228 HH228 => ?_)
        clear HH227
        refine LG_skip (HH228.unwant rfl rfl rfl rfl) rfl rfl HH228 (fun aa229 HH229 => ?_)
        clear HH228
        refine LG_skip (HH229.unwant rfl rfl rfl rfl) rfl rfl HH229 (fun aa230 HH230 => ?_)
        clear HH229
        refine LG_skip (HH230.unwant rfl rfl rfl rfl) rfl rfl HH230 (fun aa231 HH231 => ?_)
        clear HH230
        refine LG_skip (HH231.unwant rfl rfl rfl rfl) rfl rfl HH231 (fun aa232 HH232 => ?_)
        clear HH231
        refine LG_val (want0 rfl) rfl rfl HH232 (Y_pickF HH232 rfl rfl rfl) (fun aa233 HH233 => ?_)
        clear HH232
        refine LG_val (want0 rfl) rfl rfl HH233 (Y_mov HH233 rfl rfl) (fun aa234 HH234 => ?_)
        clear HH233
        refine LG_skip (HH234.unwant rfl rfl rfl rfl) rfl rfl HH234 (fun aa235 HH235 => ?_)
        clear HH234
        refine LG_skip (HH235.unwant rfl rfl rfl rfl) rfl rfl HH235 (fun aa236 HH236 => ?_)
        clear HH235
        refine LG_skip (HH236.unwant rfl rfl rfl rfl) rfl rfl HH236 (fun aa237 HH237 => ?_)
        clear HH236
        refine LG_skip (HH237.unwant rfl rfl rfl rfl) rfl rfl HH237 (fun aa238 HH238 => ?_)
        clear HH237
        refine LG_skip (HH238.unwant rfl rfl rfl rfl) rfl rfl HH238 (fun aa239 HH239 => ?_)
        clear HH238
        refine LG_val (want0 rfl) rfl rfl HH239 (Y_pickF HH239 rfl rfl rfl) (fun aa240 HH240 => ?_)
        clear HH239
        refine LG_val (want0 rfl) rfl rfl HH240 (Y_asg HH240 rfl rfl) (fun aa241 HH241 => ?_)
        clear HH240
        refine L_end (t_norm (hKK204 _ _ ?_))
        refine wp_ret (ret1 rfl HH241 rfl ?_)
        exact ⟨by rw [Pkt.eqb_ne (fun e => hdst (by rw [e]))], SS3.p1.p1.tail.tail⟩
    ·
      refine LG_val (HH15.want rfl rfl rfl) rfl rfl HH15 (Y_no (Y_eql HH15 rfl rfl rfl) (hsrc)) (fun aa242 HH242 => ?_)
      clear HH15
      refine LG_val (want0 rfl) rfl rfl HH242 (Y_pickT HH242 rfl rfl rfl) (fun aa243 HH243 => ?_)
      clear HH242
      refine LG_val (want0 rfl) rfl rfl HH243 (Y_mov HH243 rfl rfl) (fun aa244 HH244 => ?_)
      clear HH243
      refine LG_skip (HH244.unwant rfl rfl rfl rfl) rfl rfl HH244 (fun aa245 HH245 => ?_)
      clear HH244
      refine LG_skip (HH245.unwant rfl rfl rfl rfl) rfl rfl HH245 (fun aa246 HH246 => ?_)
      clear HH245
      refine LG_skip (HH246.unwant rfl rfl rfl rfl) rfl rfl HH246 (fun aa247 HH247 => ?_)
      clear HH246
      refine LG_skip (HH247.unwant rfl rfl rfl rfl) rfl rfl HH247 (fun aa248 HH248 => ?_)
      clear HH247
      refine LG_skip (HH248.unwant rfl rfl rfl rfl) rfl rfl HH248 (fun aa249 HH249 => ?_)
      clear HH248
      refine LG_val (want0 rfl) rfl rfl HH249 (Y_pickF HH249 rfl rfl rfl) (fun aa250 HH250 => ?_)
      clear HH249
      refine LG_val (want0 rfl) rfl rfl HH250 (Y_mov HH250 rfl rfl) (fun aa251 HH251 => ?_)
      clear HH250
      refine LG_skip (HH251.unwant rfl rfl rfl rfl) rfl rfl HH251 (fun aa252 HH252 => ?_)
      clear HH251
      refine LG_skip (HH252.unwant rfl rfl rfl rfl) rfl rfl HH252 (fun aa253 HH253 => ?_)
      clear HH252
      refine LG_skip (HH253.unwant rfl rfl rfl rfl) rfl rfl HH253 (fun aa254 HH254 => ?_)
      clear HH253
      refine LG_skip (HH254.unwant rfl rfl rfl rfl) rfl rfl HH254 (fun aa255 HH255 => ?_)
      clear HH254
      refine LG_skip (HH255.unwant rfl rfl rfl rfl) rfl rfl HH255 (fun aa256 HH256 => ?_)
      clear HH255
      refine LG_val (want0 rfl) rfl rfl HH256 (Y_pickF HH256 rfl rfl rfl) (fun aa257 HH257 => ?_)
      clear HH256
      refine LG_val (want0 rfl) rfl rfl HH257 (Y_asg HH257 rfl rfl) (fun aa258 HH258 => ?_)
      clear HH257
      refine L_end (t_norm (hKK5 _ _ ?_))
      refine wp_seq_k fun KK259 hKK259 => ?_
      refine wp_region_lit ?_
      refine LG_val (want0 rfl) rfl rfl HH258 (Y_mov HH258 rfl rfl) (fun aa260 HH260 => ?_)
      clear HH258
      refine LG_val (want0 rfl) rfl rfl HH260 (Y_mov HH260 rfl rfl) (fun aa261 HH261 => ?_)
      clear HH260
      refine LG_skip (HH261.unwant rfl rfl rfl rfl) rfl rfl HH261 (fun aa262 HH262 => ?_)
      clear HH261
      refine LG_skip (HH262.unwant rfl rfl rfl rfl) rfl rfl HH262 (fun aa263 HH263 => ?_)
      clear HH262
      refine LG_skip (HH263.unwant rfl rfl rfl rfl) rfl rfl HH263 (fun aa264 HH264 => ?_)
      clear HH263
      refine LG_skip (HH264.unwant rfl rfl rfl rfl) rfl rfl HH264 (fun aa265 HH265 => ?_)
      clear HH264
      refine LG_skip (HH265.unwant rfl rfl rfl rfl) rfl rfl HH265 (fun aa266 HH266 => ?_)
      clear HH265
      refine LG_val (want0 rfl) rfl rfl HH266 (Y_pickF HH266 rfl rfl rfl) (fun aa267 HH267 => ?_)
      clear HH266
      refine LG_val (want0 rfl) rfl rfl HH267 (Y_mov HH267 rfl rfl) (fun aa268 HH268 => ?_)
      clear HH267
      refine LG_skip (HH268.unwant rfl rfl rfl rfl) rfl rfl HH268 (fun aa269 HH269 => ?_)
      clear HH268
      refine LG_skip (HH269.unwant rfl rfl rfl rfl) rfl rfl HH269 (fun aa270 HH270 => ?_)
      clear HH269
      refine LG_skip (HH270.unwant rfl rfl rfl rfl) rfl rfl HH270 (fun aa271 HH271 => ?_)
      clear HH270
      refine LG_skip (HH271.unwant rfl rfl rfl rfl) rfl rfl HH271 (fun aa272 HH272 => ?_)
      clear HH271
      refine LG_skip (HH272.unwant rfl rfl rfl rfl) rfl rfl HH272 (fun aa273 HH273 => ?_)
      clear HH272
      refine LG_val (want0 rfl) rfl rfl HH273 (Y_pickF HH273 rfl rfl rfl) (fun aa274 HH274 => ?_)
      clear HH273
      refine LG_val (want0 rfl) rfl rfl HH274 (Y_mov HH274 rfl rfl) (fun aa275 HH275 => ?_)
      clear HH274
      refine LG_skip (HH275.unwant rfl rfl rfl rfl) rfl rfl HH275 (fun aa276 HH276 => ?_)
      clear HH275
      refine LG_skip (HH276.unwant rfl rfl rfl rfl) rfl rfl HH276 (fun aa277 HH277 => ?_)
      clear HH276
      refine LG_skip (HH277.unwant rfl rfl rfl rfl) rfl rfl HH277 (fun aa278 HH278 => ?_)
      clear HH277
      refine LG_skip (HH278.unwant rfl rfl rfl rfl) rfl rfl HH278 (fun aa279 HH279 => ?_)
      clear HH278
      refine LG_skip (HH279.unwant rfl rfl rfl rfl) rfl rfl HH279 (fun aa280 HH280 => ?_)
      clear HH279
      refine LG_val (want0 rfl) rfl rfl HH280 (Y_pickF HH280 rfl rfl rfl) (fun aa281 HH281 => ?_)
      clear HH280
      refine LG_val (want0 rfl) rfl rfl HH281 (Y_mov HH281 rfl rfl) (fun aa282 HH282 => ?_)
      clear HH281
      refine LG_skip (HH282.unwant rfl rfl rfl rfl) rfl rfl HH282 (fun aa283 HH283 => ?_)
      clear HH282
      refine LG_skip (HH283.unwant rfl rfl rfl rfl) rfl rfl HH283 (fun aa284 HH284 => ?_)
      clear HH283
      refine LG_skip (HH284.unwant rfl rfl rfl rfl) rfl rfl HH284 (fun aa285 HH285 => ?_)
      clear HH284
      refine LG_skip (HH285.unwant rfl rfl rfl rfl) rfl rfl HH285 (fun aa286 HH286 => ?_)
      clear HH285
      refine LG_skip (HH286.unwant rfl rfl rfl rfl) rfl rfl HH286 (fun aa287 HH287 => ?_)
      clear HH286
      refine LG_val (want0 rfl) rfl rfl HH287 (Y_pickF HH287 rfl rfl rfl) (fun aa288 HH288 => ?_)
      clear HH287
      refine LG_val (want0 rfl) rfl rfl HH288 (Y_mov HH288 rfl rfl) (fun aa289 HH289 => ?_)
      clear HH288
      refine LG_skip (HH289.unwant rfl rfl rfl rfl) rfl rfl HH289 (fun aa290 HH290 => ?_)
      clear HH289
      refine LG_skip (HH290.unwant rfl rfl rfl rfl) rfl rfl HH290 (fun aa291 HH291 => ?_)
      clear HH290
      refine LG_skip (HH291.unwant rfl rfl rfl rfl) rfl rfl HH291 (fun aa292 HH292 => ?_)
      clear HH291
      refine LG_skip (HH292.unwant rfl rfl rfl rfl) rfl rfl HH292 (fun aa293 HH293 => ?_)
      clear HH292
      refine LG_skip (HH293.unwant rfl rfl rfl rfl) rfl rfl HH293 (fun aa294 HH294 => ?_)
      clear HH293
      refine LG_val (want0 rfl) rfl rfl HH294 (Y_pickF HH294 rfl rfl rfl) (fun aa295 HH295 => ?_)
      clear HH294
      refine LG_val (want0 rfl) rfl rfl HH295 (Y_asg HH295 rfl rfl) (fun aa296 HH296 => ?_)
      clear HH295
      refine L_end (t_norm (hKK259 _ _ ?_))
      refine wp_ret (ret1 rfl HH296 rfl ?_)
      exact ⟨by rw [Pkt.eqb_ne (fun e => hsrc (by rw [e]))], SS3.p1.p1.tail.tail⟩
  ·
    refine LG_val (want0 rfl) rfl rfl HH9 (Y_no (Y_eql HH9 rfl rfl rfl) (hkind)) (fun aa297 HH297 => ?_)
    clear HH9
    refine LG_val (want0 rfl) rfl rfl HH297 (Y_mov HH297 rfl rfl) (fun aa298 HH298 => ?_)
    clear HH297
    refine LG_skip (HH298.unwant rfl rfl rfl rfl) rfl rfl HH298 (fun aa299 HH299 => ?_)
    clear HH298
    refine LG_skip (HH299.unwant rfl rfl rfl rfl) rfl rfl HH299 (fun aa300 HH300 => ?_)
    clear HH299
    refine LG_skip (HH300.unwant rfl rfl rfl rfl) rfl rfl HH300 (fun aa301 HH301 => ?_)
    clear HH300
    refine LG_skip (HH301.unwant rfl rfl rfl rfl) rfl rfl HH301 (fun aa302 HH302 => ?_)
    clear HH301
    refine LG_skip (HH302.unwant rfl rfl rfl rfl) rfl rfl HH302 (fun aa303 HH303 => ?_)
    clear HH302
    refine LG_val (want0 rfl) rfl rfl HH303 (Y_pickF HH303 rfl rfl rfl) (fun aa304 HH304 => ?_)
    clear HH303
    refine LG_val (want0 rfl) rfl rfl HH304 (Y_mov HH304 rfl rfl) (fun aa305 HH305 => ?_)
    clear HH304
    refine LG_skip (HH305.unwant rfl rfl rfl rfl) rfl rfl HH305 (fun aa306 HH306 => ?_)
    clear HH305
    refine LG_skip (HH306.unwant rfl rfl rfl rfl) rfl rfl HH306 (fun aa307 HH307 => ?_)
    clear HH306
    refine LG_skip (HH307.unwant rfl rfl rfl rfl) rfl rfl HH307 (fun aa308 HH308 => ?_)
    clear HH307
    refine LG_skip (HH308.unwant rfl rfl rfl rfl) rfl rfl HH308 (fun aa309 HH309 => ?_)
    clear HH308
    refine LG_skip (HH309.unwant rfl rfl rfl rfl) rfl rfl HH309 (fun aa310 HH310 => ?_)
    clear HH309
    refine LG_val (want0 rfl) rfl rfl HH310 (Y_pickF HH310 rfl rfl rfl) (fun aa311 HH311 => ?_)
    clear HH310
    refine LG_val (want0 rfl) rfl rfl HH311 (Y_mov HH311 rfl rfl) (fun aa312 HH312 => ?_)
    clear HH311
    refine LG_skip (HH312.unwant rfl rfl rfl rfl) rfl rfl HH312 (fun aa313 HH313 => ?_)
    clear HH312
    refine LG_skip (HH313.unwant rfl rfl rfl rfl) rfl rfl HH313 (fun aa314 HH314 => ?_)
    clear HH313
    refine LG_skip (HH314.unwant rfl rfl rfl rfl) rfl rfl HH314 (fun aa315 HH315 => ?_)
    clear HH314
    refine LG_skip (HH315.unwant rfl rfl rfl rfl) rfl rfl HH315 (fun aa316 HH316 => ?_)
    clear HH315
    refine LG_skip (HH316.unwant rfl rfl rfl rfl) rfl rfl HH316 (fun aa317 HH317 => ?_)
    clear HH316
    refine LG_val (want0 rfl) rfl rfl HH317 (Y_pickF HH317 rfl rfl rfl) (fun aa318 HH318 => ?_)
    clear HH317
    refine LG_val (want0 rfl) rfl rfl HH318 (Y_asg HH318 rfl rfl) (fun aa319 HH319 => ?_)
    clear HH318
    refine L_end (t_norm (hKK5 _ _ ?_))
    refine wp_seq_k fun KK320 hKK320 => ?_
    refine wp_region_lit ?_
    refine LG_val (want0 rfl) rfl rfl HH319 (Y_mov HH319 rfl rfl) (fun aa321 HH321 => ?_)
    clear HH319
    refine LG_val (want0 rfl) rfl rfl HH321 (Y_mov HH321 rfl rfl) (fun aa322 HH322 => ?_)
    clear HH321
    refine LG_skip (HH322.unwant rfl rfl rfl rfl) rfl rfl HH322 (fun aa323 HH323 => ?_)
    clear HH322
    refine LG_skip (HH323.unwant rfl rfl rfl rfl) rfl rfl HH323 (fun aa324 HH324 => ?_)
    clear HH323
    refine LG_skip (HH324.unwant rfl rfl rfl rfl) rfl rfl HH324 (fun aa325 HH325 => ?_)
    clear HH324
    refine LG_skip (HH325.unwant rfl rfl rfl rfl) rfl rfl HH325 (fun aa326 HH326 => ?_)
    clear HH325
    refine LG_skip (HH326.unwant rfl rfl rfl rfl) rfl rfl HH326 (fun aa327 HH327 => ?_)
    clear HH326
    refine LG_val (want0 rfl) rfl rfl HH327 (Y_pickF HH327 rfl rfl rfl) (fun aa328 HH328 => ?_)
    clear HH327
    refine LG_val (want0 rfl) rfl rfl HH328 (Y_mov HH328 rfl rfl) (fun aa329 HH329 => ?_)
    clear HH328
    refine LG_skip (HH329.unwant rfl rfl rfl rfl) rfl rfl HH329 (fun aa330 HH330 => ?_)
    clear HH329
    refine LG_skip (HH330.unwant rfl rfl rfl rfl) rfl rfl HH330 (fun aa331 HH331 => ?_)
    clear HH330
    refine LG_skip (HH331.unwant rfl rfl rfl rfl) rfl rfl HH331 (fun aa332 HH332 => ?_)
    clear HH331
    refine LG_skip (HH332.unwant rfl rfl rfl rfl) rfl rfl HH332 (fun aa333 HH333 => ?_)
    clear HH332
    refine LG_skip (HH333.unwant rfl rfl rfl rfl) rfl rfl HH333 (fun aa334 HH334 => ?_)
    clear HH333
    refine LG_val (want0 rfl) rfl rfl HH334 (Y_pickF HH334 rfl rfl rfl) (fun aa335 HH335 => ?_)
    clear HH334
    refine LG_val (want0 rfl) rfl rfl HH335 (Y_mov HH335 rfl rfl) (fun aa336 HH336 => ?_)
    clear HH335
    refine LG_skip (HH336.unwant rfl rfl rfl rfl) rfl rfl HH336 (fun aa337 HH337 => ?_)
    clear HH336
    refine LG_skip (HH337.unwant rfl rfl rfl rfl) rfl rfl HH337 (fun aa338 HH338 => ?_)
    clear HH337
    refine LG_skip (HH338.unwant rfl rfl rfl rfl) rfl rfl HH338 (fun aa339 HH339 => ?_)
    clear HH338
    refine LG_skip (HH339.unwant rfl rfl rfl rfl) rfl rfl HH339 (fun aa340 HH340 => ?_)
    clear HH339
    refine LG_skip (HH340.unwant rfl rfl rfl rfl) rfl rfl HH340 (fun aa341 HH341 => ?_)
    clear HH340
    refine LG_val (want0 rfl) rfl rfl HH341 (Y_pickF HH341 rfl rfl rfl) (fun aa342 HH342 => ?_)
    clear HH341
    refine LG_val (want0 rfl) rfl rfl HH342 (Y_mov HH342 rfl rfl) (fun aa343 HH343 => ?_)
    clear HH342
    refine LG_skip (HH343.unwant rfl rfl rfl rfl) rfl rfl HH343 (fun aa344 HH344 => ?_)
    clear HH343
    refine LG_skip (HH344.unwant rfl rfl rfl rfl) rfl rfl HH344 (fun aa345 HH345 => ?_)
    clear HH344
    refine LG_skip (HH345.unwant rfl rfl rfl rfl) rfl rfl HH345 (fun aa346 HH346 => ?_)
    clear HH345
    refine LG_skip (HH346.unwant rfl rfl rfl rfl) rfl rfl HH346 (fun aa347 HH347 => ?_)
    clear HH346
    refine LG_skip (HH347.unwant rfl rfl rfl rfl) rfl rfl HH347 (fun aa348 HH348 => ?_)
    clear HH347
    refine LG_val (want0 rfl) rfl rfl HH348 (Y_pickF HH348 rfl rfl rfl) (fun aa349 HH349 => ?_)
    clear HH348
    refine LG_val (want0 rfl) rfl rfl HH349 (Y_mov HH349 rfl rfl) (fun aa350 HH350 => ?_)
    clear HH349
    refine LG_skip (HH350.unwant rfl rfl rfl rfl) rfl rfl HH350 (fun aa351 HH351 => ?_)
    clear HH350
    refine LG_skip (HH351.unwant rfl rfl rfl rfl) rfl rfl HH351 (fun aa352 HH352 => ?_)
    clear HH351
    refine LG_skip (HH352.unwant rfl rfl rfl rfl) rfl rfl HH352 (fun aa353 HH353 => ?_)
    clear HH352
    refine LG_skip (HH353.unwant rfl rfl rfl rfl) rfl rfl HH353 (fun aa354 HH354 => ?_)
    clear HH353
    refine LG_skip (HH354.unwant rfl rfl rfl rfl) rfl rfl HH354 (fun aa355 HH355 => ?_)
    clear HH354
    refine LG_val (want0 rfl) rfl rfl HH355 (Y_pickF HH355 rfl rfl rfl) (fun aa356 HH356 => ?_)
    clear HH355
    refine LG_val (want0 rfl) rfl rfl HH356 (Y_asg HH356 rfl rfl) (fun aa357 HH357 => ?_)
    clear HH356
    refine L_end (t_norm (hKK320 _ _ ?_))
    refine wp_ret (ret1 rfl HH357 rfl ?_)
    exact ⟨by rw [Pkt.eqb_ne (fun e => hkind (by rw [e]))], SS3.p1.p1.tail.tail⟩
end Go.Proofs.Ytaekiecidbhjhaa
