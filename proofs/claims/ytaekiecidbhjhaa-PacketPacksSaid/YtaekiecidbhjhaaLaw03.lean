/- PacketPacks: the walk of the law. Printed by wip/specs/law03.py. -/
import Derived.Test.YtaekiecidbhjhaaPlay
namespace Go.Proofs.Ytaekiecidbhjhaa
open Go.RowKit

set_option maxRecDepth 100000 in
theorem packetPacks_ok {w : World} (x y : Pkt) (vx vy : Value) (how kind : Int) (hx0 : RdI w vx x.data) (hbx : x.data.length * 8 ≤ 140737488355328) (hy0 : RdI w vy y.data) (hby : y.data.length * 8 ≤ 140737488355328) :
    Calls Try.prog 11 #[x.val vx, y.val vy, VI how, VI kind] w fun e w' => e = .returned (VB true) ∧ Below w.heap.size w w' := by
  obtain ⟨xa, xc, rfl, _, _⟩ := hx0.val
  obtain ⟨ya, yc, rfl, _, _⟩ := hy0.val
  have hx : RdI w (.slice xa x.data.length xc) x.data := hx0
  have hy : RdI w (.slice ya y.data.length yc) y.data := hy0
  have S := Sat.old w
  refine enter (n := 91) Try.func11 rfl [(0, x.val (.slice xa x.data.length xc)), (1, y.val (.slice ya y.data.length yc)), (2, VI how), (3, VI kind)] rfl rfl fun aa0 HH0 => ?_
  refine wp_seq_k fun KK1 hKK1 => ?_
  refine wp_region_lit ?_
  refine LG_do (want0 rfl) rfl rfl HH0 (M_box HH0 rfl rfl rfl S) ?_
  rintro _ ww2 ⟨b4, rfl, SS2, _⟩ aa2 HH2
  clear HH0
  clear S
  refine LG_do (want0 rfl) rfl rfl HH2 (M_box HH2 rfl rfl rfl SS2) ?_
  rintro _ ww3 ⟨b5, rfl, SS3, _⟩ aa3 HH3
  clear HH2
  clear SS2
  refine LG_val (want0 rfl) rfl rfl HH3 (Y_asg HH3 rfl rfl) (fun aa4 HH4 => ?_)
  clear HH3
  refine L_end (t_norm (hKK1 _ _ ?_))
  refine c_cut (fun a wx => ∃ (b9 b10 : Nat) (p q : Pkt) (pa : Option Addr) (pc : Nat) (qa : Option Addr) (qc : Nat), Fr a 91 [(3, VI kind), (8, VB false), (9, VPt b9 0), (10, VPt b10 0)] ∧ p.data.length ≤ 6 ∧ q.data.length ≤ 6 ∧ Sat wx [cel b9 43 (p.cells (.slice pa p.data.length pc)), cel b10 43 (q.cells (.slice qa q.data.length qc)), Ints (.slice pa p.data.length pc) p.data, Ints (.slice qa q.data.length qc) q.data, Old w]) ?_ ?_
  ·
    -- region 1, drawn
    refine N3_begin (fun w' => Sat w' _) (.val 0 (.val 1 (.val 3 (.val 4 (.val 5 (.thr 2 7 8 (.thr 6 7 8 (.two 7 8 (.one 8 (.one 9 (.one 10 .fin))) (.one 7 (.one 9 (.one 10 .fin)))) (.two 6 8 (.one 8 (.one 9 (.one 10 .fin))) (.one 6 (.one 9 (.one 10 .fin)))) (.two 6 7 (.one 7 (.one 9 (.one 10 .fin))) (.one 6 (.one 9 (.one 10 .fin))))) (.two 2 8 (.two 6 8 (.one 8 (.one 9 (.one 10 .fin))) (.one 6 (.one 9 (.one 10 .fin)))) (.one 2 (.one 6 (.one 9 (.one 10 .fin))))) (.two 2 7 (.two 6 7 (.one 7 (.one 9 (.one 10 .fin))) (.one 6 (.one 9 (.one 10 .fin)))) (.one 2 (.one 6 (.one 9 (.one 10 .fin))))))))))) (by kernel_rfl) (by kernel_rfl) (by kernel_rfl) (by kernel_rfl) (fun _ _ _ _ _ h => h) (SS3.p1.t2.drew) (fun ww5 SN5 hw5 => ?_)
    have SS5 := SS3.drew
    rw [← hw5] at SS5
    clear hw5 SN5
    clear SS3
    refine N3_val rfl (want0 rfl) rfl rfl HH4 (fun ww5 SN => Y_loadS HH4 rfl rfl SN st_api_Packet.und st_api_Packet.size) (fun aa6 HH6 => ?_)
    clear HH4
    refine N3_val rfl (want0 rfl) rfl rfl HH6 (fun ww5 SN => Y_mov HH6 rfl rfl) (fun aa7 HH7 => ?_)
    clear HH6
    refine N3_val rfl (want0 rfl) rfl rfl HH7 (fun ww5 SN => Y_loadS HH7 rfl rfl SN.p1 st_api_Packet.und st_api_Packet.size) (fun aa8 HH8 => ?_)
    clear HH7
    refine N3_val rfl (want0 rfl) rfl rfl HH8 (fun ww5 SN => Y_mov HH8 rfl rfl) (fun aa9 HH9 => ?_)
    clear HH8
    refine N3_val rfl (want0 rfl) rfl rfl HH9 (fun ww5 SN => Y_quo HH9 rfl rfl rfl (by omega) (rfl)) (fun aa10 HH10 => ?_)
    clear HH9
    refine N3_thr ?_ ?_ ?_
    ·
      refine N3_call rfl (want0 rfl) rfl rfl rfl Try.func68 (by kernel_rfl) rfl HH10 (play_ok x how (fun w' h => RdI.old hx h) hbx SS5.p2) rfl ?_
      rintro e ww11 ⟨p, pa, pc, rfl, hpl, SS11⟩
      refine ⟨_, rfl, SS11.p2.p3.t2, fun aa11 HH11 => ?_⟩
      clear HH10
      clear SS5
      refine N3_thr ?_ ?_ ?_
      ·
        refine N3_call rfl (want0 rfl) rfl rfl rfl Try.func68 (by kernel_rfl) rfl HH11 (play_ok y _ (fun w' h => RdI.old hy h) hby SS11.p1) rfl ?_
        rintro e ww12 ⟨q, qa, qc, rfl, hql, SS12⟩
        refine ⟨_, rfl, SS12.p3.p4.t2, fun aa12 HH12 => ?_⟩
        clear HH11
        clear SS11
        refine N3_two ?_ ?_
        ·
          refine N3_do rfl (want0 rfl) rfl rfl HH12 (M_alloc HH12 rfl st_api_Packet.zero SS12) ?_
          rintro _ ww13 ⟨b9, rfl, SS13, _⟩
          refine ⟨SS13.p4.p5.t2, fun aa13 HH13 => ?_⟩
          clear HH12
          clear SS12
          refine N3_do rfl (want0 rfl) rfl rfl HH13 (M_alloc HH13 rfl st_api_Packet.zero SS13) ?_
          rintro _ ww14 ⟨b10, rfl, SS14, _⟩
          refine ⟨SS14.p5.p6.t2, fun aa14 HH14 => ?_⟩
          clear HH13
          clear SS13
          refine N3_do0 rfl (want0 rfl) rfl HH14 (M_storeS HH14 rfl rfl rfl SS14.p1 st_api_Packet.size rfl rfl (one_pkt p pa p.data.length pc)) ?_
          rintro _ ww15 ⟨SS15, _⟩
          refine ⟨SS15.p5.p6.t2, fun aa15 HH15 => ?_⟩
          clear HH14
          clear SS14
          refine N3_do0 rfl (want0 rfl) rfl HH15 (M_storeS HH15 rfl rfl rfl SS15.p1 st_api_Packet.size rfl rfl (one_pkt q qa q.data.length qc)) ?_
          rintro _ ww16 ⟨SS16, _⟩
          refine ⟨SS16.p5.p6.t2, fun aa16 HH16 => ?_⟩
          clear HH15
          clear SS15
          refine N3_end (t_norm ?_)
          exact ⟨_, _, p, q, pa, pc, qa, qc, HH16.sub rfl, hpl, hql, SS16.p3.p3.p4.p3.p4.t5⟩
        ·
          refine N3_do rfl (want0 rfl) rfl rfl HH12 (M_alloc HH12 rfl st_api_Packet.zero SS12) ?_
          rintro _ ww17 ⟨b10, rfl, SS17, _⟩
          refine ⟨SS17.p4.p5.t2, fun aa17 HH17 => ?_⟩
          clear HH12
          clear SS12
          refine N3_do rfl (want0 rfl) rfl rfl HH17 (M_alloc HH17 rfl st_api_Packet.zero SS17) ?_
          rintro _ ww18 ⟨b9, rfl, SS18, _⟩
          refine ⟨SS18.p5.p6.t2, fun aa18 HH18 => ?_⟩
          clear HH17
          clear SS17
          refine N3_do0 rfl (want0 rfl) rfl HH18 (M_storeS HH18 rfl rfl rfl SS18 st_api_Packet.size rfl rfl (one_pkt p pa p.data.length pc)) ?_
          rintro _ ww19 ⟨SS19, _⟩
          refine ⟨SS19.p5.p6.t2, fun aa19 HH19 => ?_⟩
          clear HH18
          clear SS18
          refine N3_do0 rfl (want0 rfl) rfl HH19 (M_storeS HH19 rfl rfl rfl SS19.p1 st_api_Packet.size rfl rfl (one_pkt q qa q.data.length qc)) ?_
          rintro _ ww20 ⟨SS20, _⟩
          refine ⟨SS20.p5.p6.t2, fun aa20 HH20 => ?_⟩
          clear HH19
          clear SS19
          refine N3_end (t_norm ?_)
          exact ⟨_, _, p, q, pa, pc, qa, qc, HH20.sub rfl, hpl, hql, SS20.p3.p3.p4.p3.p4.t5⟩
      ·
        refine N3_do rfl (want0 rfl) rfl rfl HH11 (M_alloc HH11 rfl st_api_Packet.zero SS11) ?_
        rintro _ ww21 ⟨b9, rfl, SS21, _⟩
        refine ⟨SS21.p3.p4.t2, fun aa21 HH21 => ?_⟩
        clear HH11
        clear SS11
        refine N3_two ?_ ?_
        ·
          refine N3_call rfl (want0 rfl) rfl rfl rfl Try.func68 (by kernel_rfl) rfl HH21 (play_ok y _ (fun w' h => RdI.old hy h) hby SS21.p2) rfl ?_
          rintro e ww22 ⟨q, qa, qc, rfl, hql, SS22⟩
          refine ⟨_, rfl, SS22.p4.p5.t2, fun aa22 HH22 => ?_⟩
          clear HH21
          clear SS21
          refine N3_do rfl (want0 rfl) rfl rfl HH22 (M_alloc HH22 rfl st_api_Packet.zero SS22) ?_
          rintro _ ww23 ⟨b10, rfl, SS23, _⟩
          refine ⟨SS23.p5.p6.t2, fun aa23 HH23 => ?_⟩
          clear HH22
          clear SS22
          refine N3_do0 rfl (want0 rfl) rfl HH23 (M_storeS HH23 rfl rfl rfl SS23.p3 st_api_Packet.size rfl rfl (one_pkt p pa p.data.length pc)) ?_
          rintro _ ww24 ⟨SS24, _⟩
          refine ⟨SS24.p5.p6.t2, fun aa24 HH24 => ?_⟩
          clear HH23
          clear SS23
          refine N3_do0 rfl (want0 rfl) rfl HH24 (M_storeS HH24 rfl rfl rfl SS24.p1 st_api_Packet.size rfl rfl (one_pkt q qa q.data.length qc)) ?_
          rintro _ ww25 ⟨SS25, _⟩
          refine ⟨SS25.p5.p6.t2, fun aa25 HH25 => ?_⟩
          clear HH24
          clear SS24
          refine N3_end (t_norm ?_)
          exact ⟨_, _, p, q, pa, pc, qa, qc, HH25.sub rfl, hpl, hql, SS25.p3.p3.p4.p3.p4.t5⟩
        ·
          refine N3_do rfl (want0 rfl) rfl rfl HH21 (M_alloc HH21 rfl st_api_Packet.zero SS21) ?_
          rintro _ ww26 ⟨b10, rfl, SS26, _⟩
          refine ⟨SS26.p4.p5.t2, fun aa26 HH26 => ?_⟩
          clear HH21
          clear SS21
          refine N3_call rfl (want0 rfl) rfl rfl rfl Try.func68 (by kernel_rfl) rfl HH26 (play_ok y _ (fun w' h => RdI.old hy h) hby SS26.p3) rfl ?_
          rintro e ww27 ⟨q, qa, qc, rfl, hql, SS27⟩
          refine ⟨_, rfl, SS27.p5.p6.t2, fun aa27 HH27 => ?_⟩
          clear HH26
          clear SS26
          refine N3_do0 rfl (want0 rfl) rfl HH27 (M_storeS HH27 rfl rfl rfl SS27.p3 st_api_Packet.size rfl rfl (one_pkt p pa p.data.length pc)) ?_
          rintro _ ww28 ⟨SS28, _⟩
          refine ⟨SS28.p5.p6.t2, fun aa28 HH28 => ?_⟩
          clear HH27
          clear SS27
          refine N3_do0 rfl (want0 rfl) rfl HH28 (M_storeS HH28 rfl rfl rfl SS28.p3 st_api_Packet.size rfl rfl (one_pkt q qa q.data.length qc)) ?_
          rintro _ ww29 ⟨SS29, _⟩
          refine ⟨SS29.p5.p6.t2, fun aa29 HH29 => ?_⟩
          clear HH28
          clear SS28
          refine N3_end (t_norm ?_)
          exact ⟨_, _, p, q, pa, pc, qa, qc, HH29.sub rfl, hpl, hql, SS29.p3.p3.p4.p3.p4.t5⟩
      ·
        refine N3_do rfl (want0 rfl) rfl rfl HH11 (M_alloc HH11 rfl st_api_Packet.zero SS11) ?_
        rintro _ ww30 ⟨b10, rfl, SS30, _⟩
        refine ⟨SS30.p3.p4.t2, fun aa30 HH30 => ?_⟩
        clear HH11
        clear SS11
        refine N3_two ?_ ?_
        ·
          refine N3_call rfl (want0 rfl) rfl rfl rfl Try.func68 (by kernel_rfl) rfl HH30 (play_ok y _ (fun w' h => RdI.old hy h) hby SS30.p2) rfl ?_
          rintro e ww31 ⟨q, qa, qc, rfl, hql, SS31⟩
          refine ⟨_, rfl, SS31.p4.p5.t2, fun aa31 HH31 => ?_⟩
          clear HH30
          clear SS30
          refine N3_do rfl (want0 rfl) rfl rfl HH31 (M_alloc HH31 rfl st_api_Packet.zero SS31) ?_
          rintro _ ww32 ⟨b9, rfl, SS32, _⟩
          refine ⟨SS32.p5.p6.t2, fun aa32 HH32 => ?_⟩
          clear HH31
          clear SS31
          refine N3_do0 rfl (want0 rfl) rfl HH32 (M_storeS HH32 rfl rfl rfl SS32 st_api_Packet.size rfl rfl (one_pkt p pa p.data.length pc)) ?_
          rintro _ ww33 ⟨SS33, _⟩
          refine ⟨SS33.p5.p6.t2, fun aa33 HH33 => ?_⟩
          clear HH32
          clear SS32
          refine N3_do0 rfl (want0 rfl) rfl HH33 (M_storeS HH33 rfl rfl rfl SS33.p3 st_api_Packet.size rfl rfl (one_pkt q qa q.data.length qc)) ?_
          rintro _ ww34 ⟨SS34, _⟩
          refine ⟨SS34.p5.p6.t2, fun aa34 HH34 => ?_⟩
          clear HH33
          clear SS33
          refine N3_end (t_norm ?_)
          exact ⟨_, _, p, q, pa, pc, qa, qc, HH34.sub rfl, hpl, hql, SS34.p3.p3.p4.p3.p4.t5⟩
        ·
          refine N3_do rfl (want0 rfl) rfl rfl HH30 (M_alloc HH30 rfl st_api_Packet.zero SS30) ?_
          rintro _ ww35 ⟨b9, rfl, SS35, _⟩
          refine ⟨SS35.p4.p5.t2, fun aa35 HH35 => ?_⟩
          clear HH30
          clear SS30
          refine N3_call rfl (want0 rfl) rfl rfl rfl Try.func68 (by kernel_rfl) rfl HH35 (play_ok y _ (fun w' h => RdI.old hy h) hby SS35.p3) rfl ?_
          rintro e ww36 ⟨q, qa, qc, rfl, hql, SS36⟩
          refine ⟨_, rfl, SS36.p5.p6.t2, fun aa36 HH36 => ?_⟩
          clear HH35
          clear SS35
          refine N3_do0 rfl (want0 rfl) rfl HH36 (M_storeS HH36 rfl rfl rfl SS36.p2 st_api_Packet.size rfl rfl (one_pkt p pa p.data.length pc)) ?_
          rintro _ ww37 ⟨SS37, _⟩
          refine ⟨SS37.p5.p6.t2, fun aa37 HH37 => ?_⟩
          clear HH36
          clear SS36
          refine N3_do0 rfl (want0 rfl) rfl HH37 (M_storeS HH37 rfl rfl rfl SS37.p3 st_api_Packet.size rfl rfl (one_pkt q qa q.data.length qc)) ?_
          rintro _ ww38 ⟨SS38, _⟩
          refine ⟨SS38.p5.p6.t2, fun aa38 HH38 => ?_⟩
          clear HH37
          clear SS37
          refine N3_end (t_norm ?_)
          exact ⟨_, _, p, q, pa, pc, qa, qc, HH38.sub rfl, hpl, hql, SS38.p3.p3.p4.p3.p4.t5⟩
    ·
      refine N3_do rfl (want0 rfl) rfl rfl HH10 (M_alloc HH10 rfl st_api_Packet.zero SS5) ?_
      rintro _ ww39 ⟨b9, rfl, SS39, _⟩
      refine ⟨SS39.p1.p2.t2, fun aa39 HH39 => ?_⟩
      clear HH10
      clear SS5
      refine N3_two ?_ ?_
      ·
        refine N3_call rfl (want0 rfl) rfl rfl rfl Try.func68 (by kernel_rfl) rfl HH39 (play_ok x how (fun w' h => RdI.old hx h) hbx SS39.p3) rfl ?_
        rintro e ww40 ⟨p, pa, pc, rfl, hpl, SS40⟩
        refine ⟨_, rfl, SS40.p3.p4.t2, fun aa40 HH40 => ?_⟩
        clear HH39
        clear SS39
        refine N3_two ?_ ?_
        ·
          refine N3_call rfl (want0 rfl) rfl rfl rfl Try.func68 (by kernel_rfl) rfl HH40 (play_ok y _ (fun w' h => RdI.old hy h) hby SS40.p1) rfl ?_
          rintro e ww41 ⟨q, qa, qc, rfl, hql, SS41⟩
          refine ⟨_, rfl, SS41.p4.p5.t2, fun aa41 HH41 => ?_⟩
          clear HH40
          clear SS40
          refine N3_do rfl (want0 rfl) rfl rfl HH41 (M_alloc HH41 rfl st_api_Packet.zero SS41) ?_
          rintro _ ww42 ⟨b10, rfl, SS42, _⟩
          refine ⟨SS42.p5.p6.t2, fun aa42 HH42 => ?_⟩
          clear HH41
          clear SS41
          refine N3_do0 rfl (want0 rfl) rfl HH42 (M_storeS HH42 rfl rfl rfl SS42.p4 st_api_Packet.size rfl rfl (one_pkt p pa p.data.length pc)) ?_
          rintro _ ww43 ⟨SS43, _⟩
          refine ⟨SS43.p5.p6.t2, fun aa43 HH43 => ?_⟩
          clear HH42
          clear SS42
          refine N3_do0 rfl (want0 rfl) rfl HH43 (M_storeS HH43 rfl rfl rfl SS43.p1 st_api_Packet.size rfl rfl (one_pkt q qa q.data.length qc)) ?_
          rintro _ ww44 ⟨SS44, _⟩
          refine ⟨SS44.p5.p6.t2, fun aa44 HH44 => ?_⟩
          clear HH43
          clear SS43
          refine N3_end (t_norm ?_)
          exact ⟨_, _, p, q, pa, pc, qa, qc, HH44.sub rfl, hpl, hql, SS44.p3.p3.p4.p3.p4.t5⟩
        ·
          refine N3_do rfl (want0 rfl) rfl rfl HH40 (M_alloc HH40 rfl st_api_Packet.zero SS40) ?_
          rintro _ ww45 ⟨b10, rfl, SS45, _⟩
          refine ⟨SS45.p4.p5.t2, fun aa45 HH45 => ?_⟩
          clear HH40
          clear SS40
          refine N3_call rfl (want0 rfl) rfl rfl rfl Try.func68 (by kernel_rfl) rfl HH45 (play_ok y _ (fun w' h => RdI.old hy h) hby SS45.p2) rfl ?_
          rintro e ww46 ⟨q, qa, qc, rfl, hql, SS46⟩
          refine ⟨_, rfl, SS46.p5.p6.t2, fun aa46 HH46 => ?_⟩
          clear HH45
          clear SS45
          refine N3_do0 rfl (want0 rfl) rfl HH46 (M_storeS HH46 rfl rfl rfl SS46.p4 st_api_Packet.size rfl rfl (one_pkt p pa p.data.length pc)) ?_
          rintro _ ww47 ⟨SS47, _⟩
          refine ⟨SS47.p5.p6.t2, fun aa47 HH47 => ?_⟩
          clear HH46
          clear SS46
          refine N3_do0 rfl (want0 rfl) rfl HH47 (M_storeS HH47 rfl rfl rfl SS47.p3 st_api_Packet.size rfl rfl (one_pkt q qa q.data.length qc)) ?_
          rintro _ ww48 ⟨SS48, _⟩
          refine ⟨SS48.p5.p6.t2, fun aa48 HH48 => ?_⟩
          clear HH47
          clear SS47
          refine N3_end (t_norm ?_)
          exact ⟨_, _, p, q, pa, pc, qa, qc, HH48.sub rfl, hpl, hql, SS48.p3.p3.p4.p3.p4.t5⟩
      ·
        refine N3_do rfl (want0 rfl) rfl rfl HH39 (M_alloc HH39 rfl st_api_Packet.zero SS39) ?_
        rintro _ ww49 ⟨b10, rfl, SS49, _⟩
        refine ⟨SS49.p2.p3.t2, fun aa49 HH49 => ?_⟩
        clear HH39
        clear SS39
        refine N3_call rfl (want0 rfl) rfl rfl rfl Try.func68 (by kernel_rfl) rfl HH49 (play_ok x how (fun w' h => RdI.old hx h) hbx SS49.p4) rfl ?_
        rintro e ww50 ⟨p, pa, pc, rfl, hpl, SS50⟩
        refine ⟨_, rfl, SS50.p4.p5.t2, fun aa50 HH50 => ?_⟩
        clear HH49
        clear SS49
        refine N3_call rfl (want0 rfl) rfl rfl rfl Try.func68 (by kernel_rfl) rfl HH50 (play_ok y _ (fun w' h => RdI.old hy h) hby SS50.p1) rfl ?_
        rintro e ww51 ⟨q, qa, qc, rfl, hql, SS51⟩
        refine ⟨_, rfl, SS51.p5.p6.t2, fun aa51 HH51 => ?_⟩
        clear HH50
        clear SS50
        refine N3_do0 rfl (want0 rfl) rfl HH51 (M_storeS HH51 rfl rfl rfl SS51.p4 st_api_Packet.size rfl rfl (one_pkt p pa p.data.length pc)) ?_
        rintro _ ww52 ⟨SS52, _⟩
        refine ⟨SS52.p5.p6.t2, fun aa52 HH52 => ?_⟩
        clear HH51
        clear SS51
        refine N3_do0 rfl (want0 rfl) rfl HH52 (M_storeS HH52 rfl rfl rfl SS52.p4 st_api_Packet.size rfl rfl (one_pkt q qa q.data.length qc)) ?_
        rintro _ ww53 ⟨SS53, _⟩
        refine ⟨SS53.p5.p6.t2, fun aa53 HH53 => ?_⟩
        clear HH52
        clear SS52
        refine N3_end (t_norm ?_)
        exact ⟨_, _, p, q, pa, pc, qa, qc, HH53.sub rfl, hpl, hql, SS53.p3.p3.p4.p3.p4.t5⟩
    ·
      refine N3_do rfl (want0 rfl) rfl rfl HH10 (M_alloc HH10 rfl st_api_Packet.zero SS5) ?_
      rintro _ ww54 ⟨b10, rfl, SS54, _⟩
      refine ⟨SS54.p1.p2.t2, fun aa54 HH54 => ?_⟩
      clear HH10
      clear SS5
      refine N3_two ?_ ?_
      ·
        refine N3_call rfl (want0 rfl) rfl rfl rfl Try.func68 (by kernel_rfl) rfl HH54 (play_ok x how (fun w' h => RdI.old hx h) hbx SS54.p3) rfl ?_
        rintro e ww55 ⟨p, pa, pc, rfl, hpl, SS55⟩
        refine ⟨_, rfl, SS55.p3.p4.t2, fun aa55 HH55 => ?_⟩
        clear HH54
        clear SS54
        refine N3_two ?_ ?_
        ·
          refine N3_call rfl (want0 rfl) rfl rfl rfl Try.func68 (by kernel_rfl) rfl HH55 (play_ok y _ (fun w' h => RdI.old hy h) hby SS55.p1) rfl ?_
          rintro e ww56 ⟨q, qa, qc, rfl, hql, SS56⟩
          refine ⟨_, rfl, SS56.p4.p5.t2, fun aa56 HH56 => ?_⟩
          clear HH55
          clear SS55
          refine N3_do rfl (want0 rfl) rfl rfl HH56 (M_alloc HH56 rfl st_api_Packet.zero SS56) ?_
          rintro _ ww57 ⟨b9, rfl, SS57, _⟩
          refine ⟨SS57.p5.p6.t2, fun aa57 HH57 => ?_⟩
          clear HH56
          clear SS56
          refine N3_do0 rfl (want0 rfl) rfl HH57 (M_storeS HH57 rfl rfl rfl SS57 st_api_Packet.size rfl rfl (one_pkt p pa p.data.length pc)) ?_
          rintro _ ww58 ⟨SS58, _⟩
          refine ⟨SS58.p5.p6.t2, fun aa58 HH58 => ?_⟩
          clear HH57
          clear SS57
          refine N3_do0 rfl (want0 rfl) rfl HH58 (M_storeS HH58 rfl rfl rfl SS58.p4 st_api_Packet.size rfl rfl (one_pkt q qa q.data.length qc)) ?_
          rintro _ ww59 ⟨SS59, _⟩
          refine ⟨SS59.p5.p6.t2, fun aa59 HH59 => ?_⟩
          clear HH58
          clear SS58
          refine N3_end (t_norm ?_)
          exact ⟨_, _, p, q, pa, pc, qa, qc, HH59.sub rfl, hpl, hql, SS59.p3.p3.p4.p3.p4.t5⟩
        ·
          refine N3_do rfl (want0 rfl) rfl rfl HH55 (M_alloc HH55 rfl st_api_Packet.zero SS55) ?_
          rintro _ ww60 ⟨b9, rfl, SS60, _⟩
          refine ⟨SS60.p4.p5.t2, fun aa60 HH60 => ?_⟩
          clear HH55
          clear SS55
          refine N3_call rfl (want0 rfl) rfl rfl rfl Try.func68 (by kernel_rfl) rfl HH60 (play_ok y _ (fun w' h => RdI.old hy h) hby SS60.p2) rfl ?_
          rintro e ww61 ⟨q, qa, qc, rfl, hql, SS61⟩
          refine ⟨_, rfl, SS61.p5.p6.t2, fun aa61 HH61 => ?_⟩
          clear HH60
          clear SS60
          refine N3_do0 rfl (want0 rfl) rfl HH61 (M_storeS HH61 rfl rfl rfl SS61.p2 st_api_Packet.size rfl rfl (one_pkt p pa p.data.length pc)) ?_
          rintro _ ww62 ⟨SS62, _⟩
          refine ⟨SS62.p5.p6.t2, fun aa62 HH62 => ?_⟩
          clear HH61
          clear SS61
          refine N3_do0 rfl (want0 rfl) rfl HH62 (M_storeS HH62 rfl rfl rfl SS62.p4 st_api_Packet.size rfl rfl (one_pkt q qa q.data.length qc)) ?_
          rintro _ ww63 ⟨SS63, _⟩
          refine ⟨SS63.p5.p6.t2, fun aa63 HH63 => ?_⟩
          clear HH62
          clear SS62
          refine N3_end (t_norm ?_)
          exact ⟨_, _, p, q, pa, pc, qa, qc, HH63.sub rfl, hpl, hql, SS63.p3.p3.p4.p3.p4.t5⟩
      ·
        refine N3_do rfl (want0 rfl) rfl rfl HH54 (M_alloc HH54 rfl st_api_Packet.zero SS54) ?_
        rintro _ ww64 ⟨b9, rfl, SS64, _⟩
        refine ⟨SS64.p2.p3.t2, fun aa64 HH64 => ?_⟩
        clear HH54
        clear SS54
        refine N3_call rfl (want0 rfl) rfl rfl rfl Try.func68 (by kernel_rfl) rfl HH64 (play_ok x how (fun w' h => RdI.old hx h) hbx SS64.p4) rfl ?_
        rintro e ww65 ⟨p, pa, pc, rfl, hpl, SS65⟩
        refine ⟨_, rfl, SS65.p4.p5.t2, fun aa65 HH65 => ?_⟩
        clear HH64
        clear SS64
        refine N3_call rfl (want0 rfl) rfl rfl rfl Try.func68 (by kernel_rfl) rfl HH65 (play_ok y _ (fun w' h => RdI.old hy h) hby SS65.p1) rfl ?_
        rintro e ww66 ⟨q, qa, qc, rfl, hql, SS66⟩
        refine ⟨_, rfl, SS66.p5.p6.t2, fun aa66 HH66 => ?_⟩
        clear HH65
        clear SS65
        refine N3_do0 rfl (want0 rfl) rfl HH66 (M_storeS HH66 rfl rfl rfl SS66.p3 st_api_Packet.size rfl rfl (one_pkt p pa p.data.length pc)) ?_
        rintro _ ww67 ⟨SS67, _⟩
        refine ⟨SS67.p5.p6.t2, fun aa67 HH67 => ?_⟩
        clear HH66
        clear SS66
        refine N3_do0 rfl (want0 rfl) rfl HH67 (M_storeS HH67 rfl rfl rfl SS67.p4 st_api_Packet.size rfl rfl (one_pkt q qa q.data.length qc)) ?_
        rintro _ ww68 ⟨SS68, _⟩
        refine ⟨SS68.p5.p6.t2, fun aa68 HH68 => ?_⟩
        clear HH67
        clear SS67
        refine N3_end (t_norm ?_)
        exact ⟨_, _, p, q, pa, pc, qa, qc, HH68.sub rfl, hpl, hql, SS68.p3.p3.p4.p3.p4.t5⟩
  clear HH4
  clear SS3
  rintro aa69 ww69 ⟨b9, b10, p, q, pa, pc, qa, qc, HH69, hpl, hql, SS69⟩
  refine wp_seq_k fun KK70 hKK70 => ?_
  by_cases hp : p.right
  ·
    refine wp_region_lit ?_
    refine LG_val (want0 rfl) rfl rfl HH69 (Y_loadS HH69 rfl rfl SS69 st_api_Packet.und st_api_Packet.size) (fun aa71 HH71 => ?_)
    clear HH69
    refine LG_call (want0 rfl) rfl rfl rfl Try.func69 (by kernel_rfl) rfl HH71 (pack_ok p hp (fun w' h => Ints.rd h) SS69.p2) rfl ?_
    rintro e ww72 ⟨v24, rfl, SS72⟩
    obtain ⟨a24, c24, rfl, _, _⟩ := Bys.val SS72
    refine ⟨_, rfl, fun aa72 HH72 => ?_⟩
    clear HH71
    clear SS69
    refine LG_val (want0 rfl) rfl rfl HH72 (Y_mov HH72 rfl rfl) (fun aa73 HH73 => ?_)
    clear HH72
    refine LG_val (want0 rfl) rfl rfl HH73 (Y_ext HH73 rfl rfl rfl) (fun aa74 HH74 => ?_)
    clear HH73
    refine LG_val (want0 rfl) rfl rfl HH74 (Y_ext HH74 rfl rfl rfl) (fun aa75 HH75 => ?_)
    clear HH74
    refine LG_val (want0 rfl) rfl rfl HH75 (Y_asg HH75 rfl rfl) (fun aa76 HH76 => ?_)
    clear HH75
    refine LG_val (want0 rfl) rfl rfl HH76 (Y_asg HH76 rfl rfl) (fun aa77 HH77 => ?_)
    clear HH76
    refine L_end (t_norm (hKK70 _ _ ?_))
    refine wp_seq_k fun KK78 hKK78 => ?_
    refine wp_region_lit ?_
    refine LG_val (want0 rfl) rfl rfl HH77 (Y_loadS HH77 rfl rfl SS72.p2 st_api_Packet.und st_api_Packet.size) (fun aa79 HH79 => ?_)
    clear HH77
    refine LG_call (want0 rfl) rfl rfl rfl Try.func70 (by kernel_rfl) rfl HH79 (rpack_ok p hp (fun w' h => Ints.rd h) SS72.p1) rfl ?_
    rintro e ww80 ⟨v29, rfl, SS80⟩
    obtain ⟨a29, c29, rfl, _, _⟩ := Bys.val SS80
    refine ⟨_, rfl, fun aa80 HH80 => ?_⟩
    clear HH79
    clear SS72
    refine LG_val (want0 rfl) rfl rfl HH80 (Y_mov HH80 rfl rfl) (fun aa81 HH81 => ?_)
    clear HH80
    refine LG_val (want0 rfl) rfl rfl HH81 (Y_ext HH81 rfl rfl rfl) (fun aa82 HH82 => ?_)
    clear HH81
    refine LG_val (want0 rfl) rfl rfl HH82 (Y_ext HH82 rfl rfl rfl) (fun aa83 HH83 => ?_)
    clear HH82
    refine LG_val (want0 rfl) rfl rfl HH83 (Y_asg HH83 rfl rfl) (fun aa84 HH84 => ?_)
    clear HH83
    refine LG_val (want0 rfl) rfl rfl HH84 (Y_asg HH84 rfl rfl) (fun aa85 HH85 => ?_)
    clear HH84
    refine L_end (t_norm (hKK78 _ _ ?_))
    refine wp_seq_k fun KK86 hKK86 => ?_
    refine wp_seq_k fun KK87 hKK87 => ?_
    refine wp_region_lit ?_
    refine LG_val (want0 rfl) rfl rfl HH85 (Y_mov HH85 rfl rfl) (fun aa88 HH88 => ?_)
    clear HH85
    refine LG_val (want0 rfl) rfl rfl HH88 (Y_yes (Y_eql HH88 rfl rfl rfl) (by simp)) (fun aa89 HH89 => ?_)
    clear HH88
    refine LG_val (want0 rfl) rfl rfl HH89 (Y_mov HH89 rfl rfl) (fun aa90 HH90 => ?_)
    clear HH89
    refine LG_val (want0 rfl) rfl rfl HH90 (Y_to (Y_neqB HH90 rfl (by kernel_rfl) rfl rfl) (rfl)) (fun aa91 HH91 => ?_)
    clear HH90
    refine LG_val (want0 rfl) rfl rfl HH91 (Y_mov HH91 rfl rfl) (fun aa92 HH92 => ?_)
    clear HH91
    refine LG_val (HH92.want rfl rfl rfl) rfl rfl HH92 (Y_mov HH92 rfl rfl) (fun aa93 HH93 => ?_)
    clear HH92
    refine LG_val (HH93.want rfl rfl rfl) rfl rfl HH93 (Y_mov HH93 rfl rfl) (fun aa94 HH94 => ?_)
    clear HH93
    refine LG_call (HH94.want rfl rfl rfl) rfl rfl rfl Try.func59 (by kernel_rfl) rfl HH94 (ksameB_ok (Bys.rd SS80.p2).b (Bys.rd SS80).b) rfl ?_
    rintro e ww95 ⟨rfl, hk⟩
    have SS95 := hk.sat SS80
    rw [show (yb (ppack p) == yb (ppack p)) = true from by simp]
    refine ⟨_, rfl, fun aa95 HH95 => ?_⟩
    clear HH94
    clear SS80
    refine LG_val (HH95.want rfl rfl rfl) rfl rfl HH95 (Y_not HH95 rfl rfl) (fun aa96 HH96 => ?_)
    clear HH95
    refine LG_val (want0 rfl) rfl rfl HH96 (Y_pickF HH96 rfl rfl rfl) (fun aa97 HH97 => ?_)
    clear HH96
    refine LG_val (want0 rfl) rfl rfl HH97 (Y_mov HH97 rfl rfl) (fun aa98 HH98 => ?_)
    clear HH97
    refine LG_val (HH98.want rfl rfl rfl) rfl rfl HH98 (Y_mov HH98 rfl rfl) (fun aa99 HH99 => ?_)
    clear HH98
    refine LG_val (HH99.want rfl rfl rfl) rfl rfl HH99 (Y_not HH99 rfl rfl) (fun aa100 HH100 => ?_)
    clear HH99
    refine LG_val (HH100.want rfl rfl rfl) rfl rfl HH100 (Y_mov HH100 rfl rfl) (fun aa101 HH101 => ?_)
    clear HH100
    refine LG_skip (HH101.unwant rfl rfl rfl rfl) rfl rfl HH101 (fun aa102 HH102 => ?_)
    clear HH101
    refine LG_skip (HH102.unwant rfl rfl rfl rfl) rfl rfl HH102 (fun aa103 HH103 => ?_)
    clear HH102
    refine LG_val (HH103.want rfl rfl rfl) rfl rfl HH103 (Y_pickF HH103 rfl rfl rfl) (fun aa104 HH104 => ?_)
    clear HH103
    refine LG_val (want0 rfl) rfl rfl HH104 (Y_pickF HH104 rfl rfl rfl) (fun aa105 HH105 => ?_)
    clear HH104
    refine LG_val (want0 rfl) rfl rfl HH105 (Y_mov HH105 rfl rfl) (fun aa106 HH106 => ?_)
    clear HH105
    refine LG_val (HH106.want rfl rfl rfl) rfl rfl HH106 (Y_loadS HH106 rfl rfl SS95.p3 st_api_Packet.und st_api_Packet.size) (fun aa107 HH107 => ?_)
    clear HH106
    refine LG_call (HH107.want rfl rfl rfl) rfl rfl rfl Try.func71 (by kernel_rfl) rfl HH107 (check_ok p _ _ SS95) rfl ?_
    rintro e ww108 ⟨rfl, SS108⟩
    rw [if_pos hp]
    refine ⟨_, rfl, fun aa108 HH108 => ?_⟩
    clear HH107
    clear SS95
    refine LG_val (HH108.want rfl rfl rfl) rfl rfl HH108 (Y_mov HH108 rfl rfl) (fun aa109 HH109 => ?_)
    clear HH108
    refine LG_val (HH109.want rfl rfl rfl) rfl rfl HH109 (Y_no (Y_neq HH109 rfl rfl rfl) (by simp)) (fun aa110 HH110 => ?_)
    clear HH109
    refine LG_val (want0 rfl) rfl rfl HH110 (Y_pickF HH110 rfl rfl rfl) (fun aa111 HH111 => ?_)
    clear HH110
    refine L_end (t_norm (hKK87 _ _ ?_))
    refine c_no HH111 rfl ?_
    refine wp_skip (t_norm (hKK86 _ _ ?_))
    refine c_cut (fun a wx => ∃ k2 : Int, Fr a 91 [(3, VI k2), (8, VB false), (9, VPt b9 0), (10, VPt b10 0)] ∧ Sat wx [cel b9 43 (p.cells (.slice pa p.data.length pc)), cel b10 43 (q.cells (.slice qa q.data.length qc)), Ints (.slice pa p.data.length pc) p.data, Ints (.slice qa q.data.length qc) q.data, Old w]) ?_ ?_
    ·
      refine wp_seq_k fun KK112 hKK112 => ?_
      refine wp_region_lit ?_
      refine LG_val (want0 rfl) rfl rfl HH111 (Y_mov HH111 rfl rfl) (fun aa113 HH113 => ?_)
      clear HH111
      refine LG_val (want0 rfl) rfl rfl HH113 (Y_rem (r := kind.tmod 5) HH113 rfl rfl rfl (by omega) (rfl)) (fun aa114 HH114 => ?_)
      clear HH113
      by_cases h5 : kind.tmod 5 ≠ 4
      ·
        refine LG_val (want0 rfl) rfl rfl HH114 (Y_yes (Y_neq HH114 rfl rfl rfl) (h5)) (fun aa115 HH115 => ?_)
        clear HH114
        refine L_end (t_norm (hKK112 _ _ ?_))
        refine c_yes HH115 rfl ?_
        refine wp_region_lit ?_
        refine LG_val (want0 rfl) rfl rfl HH115 (Y_mov HH115 rfl rfl) (fun aa116 HH116 => ?_)
        clear HH115
        refine LG_call (want0 rfl) rfl rfl rfl Try.func17 (by kernel_rfl) rfl HH116 (within_ok (kind) (12) (by omega)) rfl ?_
        rintro e ww117 ⟨rfl, rfl⟩
        refine ⟨_, rfl, fun aa117 HH117 => ?_⟩
        clear HH116
        refine LG_val (want0 rfl) rfl rfl HH117 (Y_sub HH117 rfl rfl rfl (rfl)) (fun aa118 HH118 => ?_)
        clear HH117
        refine LG_val (want0 rfl) rfl rfl HH118 (Y_asg HH118 rfl rfl) (fun aa119 HH119 => ?_)
        clear HH118
        refine L_end (t_norm ?_)
        exact ⟨_, HH119.sub rfl, SS108.p6.p6.p3.p6.p6.t5⟩
      ·
        refine LG_val (want0 rfl) rfl rfl HH114 (Y_no (Y_neq HH114 rfl rfl rfl) (h5)) (fun aa120 HH120 => ?_)
        clear HH114
        refine L_end (t_norm (hKK112 _ _ ?_))
        refine c_no HH120 rfl ?_
        refine wp_skip (t_norm ?_)
        exact ⟨_, HH120.sub rfl, SS108.p6.p6.p3.p6.p6.t5⟩
    clear HH111
    clear SS108
    rintro aa121 ww121 ⟨k2, HH121, SS121⟩
    refine wp_seq_k fun KK122 hKK122 => ?_
    -- region 8, drawn
    refine N_begin (fun w' => Sat w' _) (.val 0 (.val 2 (.one 1 (.one 3 (.val 4 (.val 5 (.val 6 (.val 8 (.one 7 (.one 9 (.val 10 (.val 11 (.val 12 (.val 13 (.val 14 (.val 16 (.val 17 (.one 15 (.one 18 (.val 19 (.val 20 (.val 21 (.val 22 (.val 23 (.one 24 (.val 25 (.val 26 (.one 27 (.val 28 (.val 29 .fin)))))))))))))))))))))))))))))) (by kernel_rfl) (by kernel_rfl) (by kernel_rfl) (by kernel_rfl) (fun _ _ _ _ _ h => h) (SS121.p1.p1.t2.drew) (fun ww123 SN123 hw123 => ?_)
    have SS123 := SS121.drew
    rw [← hw123] at SS123
    clear hw123 SN123
    clear SS121
    refine N_val rfl (want0 rfl) rfl rfl HH121 (fun ww123 SN => Y_mov HH121 rfl rfl) (fun aa124 HH124 => ?_)
    clear HH121
    refine N_val rfl (want0 rfl) rfl rfl HH124 (fun ww123 SN => Y_mov HH124 rfl rfl) (fun aa125 HH125 => ?_)
    clear HH124
    refine N_call rfl (want0 rfl) rfl rfl rfl Try.func72 (by kernel_rfl) rfl HH125 (ans_ok k2) rfl ?_
    rintro e ww126 ⟨rfl, rfl⟩
    refine ⟨_, rfl, SS123.p1.p1.t2, fun aa126 HH126 => ?_⟩
    clear HH125
    refine N_call rfl (want0 rfl) rfl rfl rfl Try.func73 (by kernel_rfl) rfl HH126 (rans_ok k2) rfl ?_
    rintro e ww127 ⟨rfl, rfl⟩
    refine ⟨_, rfl, SS123.p1.p1.t2, fun aa127 HH127 => ?_⟩
    clear HH126
    refine N_val rfl (want0 rfl) rfl rfl HH127 (fun ww123 SN => Y_yes (Y_eql HH127 rfl rfl rfl) (rfl)) (fun aa128 HH128 => ?_)
    clear HH127
    refine N_val rfl (want0 rfl) rfl rfl HH128 (fun ww123 SN => Y_mov HH128 rfl rfl) (fun aa129 HH129 => ?_)
    clear HH128
    refine N_val rfl (HH129.want rfl rfl rfl) rfl rfl HH129 (fun ww123 SN => Y_mov HH129 rfl rfl) (fun aa130 HH130 => ?_)
    clear HH129
    refine N_val rfl (HH130.want rfl rfl rfl) rfl rfl HH130 (fun ww123 SN => Y_mov HH130 rfl rfl) (fun aa131 HH131 => ?_)
    clear HH130
    refine N_call rfl (HH131.want rfl rfl rfl) rfl rfl rfl Try.func74 (by kernel_rfl) rfl HH131 (req_ok k2) rfl ?_
    rintro e ww132 ⟨rfl, rfl⟩
    refine ⟨_, rfl, SS123.p1.p1.t2, fun aa132 HH132 => ?_⟩
    clear HH131
    refine N_call rfl (HH132.want rfl rfl rfl) rfl rfl rfl Try.func75 (by kernel_rfl) rfl HH132 (rreq_ok k2) rfl ?_
    rintro e ww133 ⟨rfl, rfl⟩
    refine ⟨_, rfl, SS123.p1.p1.t2, fun aa133 HH133 => ?_⟩
    clear HH132
    refine N_val rfl (HH133.want rfl rfl rfl) rfl rfl HH133 (fun ww123 SN => Y_to (Y_eqlB HH133 rfl (by kernel_rfl) rfl rfl) (show (isReq k2 == isReq k2) = true by simp)) (fun aa134 HH134 => ?_)
    clear HH133
    refine N_val rfl (want0 rfl) rfl rfl HH134 (fun ww123 SN => Y_pickT HH134 rfl rfl rfl) (fun aa135 HH135 => ?_)
    clear HH134
    refine N_val rfl (want0 rfl) rfl rfl HH135 (fun ww123 SN => Y_mov HH135 rfl rfl) (fun aa136 HH136 => ?_)
    clear HH135
    refine N_val rfl (HH136.want rfl rfl rfl) rfl rfl HH136 (fun ww123 SN => Y_loadS HH136 rfl rfl SN st_api_Packet.und st_api_Packet.size) (fun aa137 HH137 => ?_)
    clear HH136
    refine N_val rfl (HH137.want rfl rfl rfl) rfl rfl HH137 (fun ww123 SN => Y_loadS HH137 rfl rfl SN.p1 st_api_Packet.und st_api_Packet.size) (fun aa138 HH138 => ?_)
    clear HH137
    refine N_val rfl (HH138.want rfl rfl rfl) rfl rfl HH138 (fun ww123 SN => Y_loadS HH138 rfl rfl SN st_api_Packet.und st_api_Packet.size) (fun aa139 HH139 => ?_)
    clear HH138
    refine N_val rfl (HH139.want rfl rfl rfl) rfl rfl HH139 (fun ww123 SN => Y_loadS HH139 rfl rfl SN.p1 st_api_Packet.und st_api_Packet.size) (fun aa140 HH140 => ?_)
    clear HH139
    refine N_call rfl (HH140.want rfl rfl rfl) rfl rfl rfl Try.func76 (by kernel_rfl) rfl HH140 (psame_ok p q (fun w' h => Ints.rd h) (fun w' h => Ints.rd h.p1) SS123.p3.p3) rfl ?_
    rintro e ww141 ⟨rfl, SS141⟩
    refine ⟨_, rfl, SS141.p3.p3.t2, fun aa141 HH141 => ?_⟩
    clear HH140
    clear SS123
    refine N_call rfl (HH141.want rfl rfl rfl) rfl rfl rfl Try.func22 (by kernel_rfl) rfl HH141 (same_ok p q (Ints.rd SS141) (Ints.rd SS141.p1) (by omega)) rfl ?_
    rintro e ww142 ⟨rfl, hk⟩
    have SS142 := hk.sat SS141
    refine ⟨_, rfl, SS142.p3.p3.t2, fun aa142 HH142 => ?_⟩
    clear HH141
    clear SS141
    refine N_val rfl (HH142.want rfl rfl rfl) rfl rfl HH142 (fun ww142 SN => Y_to (Y_eqlB HH142 rfl (by kernel_rfl) rfl rfl) (show (p.eqb q == p.eqb q) = true by simp)) (fun aa143 HH143 => ?_)
    clear HH142
    refine N_val rfl (want0 rfl) rfl rfl HH143 (fun ww142 SN => Y_pickT HH143 rfl rfl rfl) (fun aa144 HH144 => ?_)
    clear HH143
    refine N_val rfl (want0 rfl) rfl rfl HH144 (fun ww142 SN => Y_mov HH144 rfl rfl) (fun aa145 HH145 => ?_)
    clear HH144
    refine N_val rfl (HH145.want rfl rfl rfl) rfl rfl HH145 (fun ww142 SN => Y_loadS HH145 rfl rfl SN st_api_Packet.und st_api_Packet.size) (fun aa146 HH146 => ?_)
    clear HH145
    refine N_val rfl (HH146.want rfl rfl rfl) rfl rfl HH146 (fun ww142 SN => Y_loadS HH146 rfl rfl SN st_api_Packet.und st_api_Packet.size) (fun aa147 HH147 => ?_)
    clear HH146
    refine N_call rfl (HH147.want rfl rfl rfl) rfl rfl rfl Try.func76 (by kernel_rfl) rfl HH147 (psame_ok p p (fun w' h => Ints.rd h) (fun w' h => Ints.rd h) SS142) rfl ?_
    rintro e ww148 ⟨rfl, SS148⟩
    rw [Pkt.eqb_refl]
    refine ⟨_, rfl, SS148.p3.p3.t2, fun aa148 HH148 => ?_⟩
    clear HH147
    clear SS142
    refine N_val rfl (want0 rfl) rfl rfl HH148 (fun ww148 SN => Y_pickT HH148 rfl rfl rfl) (fun aa149 HH149 => ?_)
    clear HH148
    refine N_val rfl (want0 rfl) rfl rfl HH149 (fun ww148 SN => Y_mov HH149 rfl rfl) (fun aa150 HH150 => ?_)
    clear HH149
    refine N_call rfl (HH150.want rfl rfl rfl) rfl rfl rfl Try.func77 (by kernel_rfl) rfl HH150 (wakes03_ok SS148) rfl ?_
    rintro e ww151 ⟨rfl, SS151⟩
    refine ⟨_, rfl, SS151.p3.p3.t2, fun aa151 HH151 => ?_⟩
    clear HH150
    clear SS148
    refine N_val rfl (want0 rfl) rfl rfl HH151 (fun ww151 SN => Y_pickT HH151 rfl rfl rfl) (fun aa152 HH152 => ?_)
    clear HH151
    refine N_val rfl (want0 rfl) rfl rfl HH152 (fun ww151 SN => Y_asg HH152 rfl rfl) (fun aa153 HH153 => ?_)
    clear HH152
    refine N_end (t_norm (hKK122 _ _ ?_))
    refine wp_ret (ret1 rfl HH153 rfl ?_)
    exact ⟨rfl, SS151.p4.below⟩
  ·
    refine wp_region_lit ?_
    refine LG_val (want0 rfl) rfl rfl HH69 (Y_loadS HH69 rfl rfl SS69 st_api_Packet.und st_api_Packet.size) (fun aa154 HH154 => ?_)
    clear HH69
    refine LG_call (want0 rfl) rfl rfl rfl Try.func69 (by kernel_rfl) rfl HH154 (pack_bad p hp SS69) rfl ?_
    rintro e ww155 ⟨rfl, SS155⟩
    refine ⟨_, rfl, fun aa155 HH155 => ?_⟩
    clear HH154
    clear SS69
    refine LG_val (want0 rfl) rfl rfl HH155 (Y_mov HH155 rfl rfl) (fun aa156 HH156 => ?_)
    clear HH155
    refine LG_val (want0 rfl) rfl rfl HH156 (Y_ext HH156 rfl rfl rfl) (fun aa157 HH157 => ?_)
    clear HH156
    refine LG_val (want0 rfl) rfl rfl HH157 (Y_ext HH157 rfl rfl rfl) (fun aa158 HH158 => ?_)
    clear HH157
    refine LG_val (want0 rfl) rfl rfl HH158 (Y_asg HH158 rfl rfl) (fun aa159 HH159 => ?_)
    clear HH158
    refine LG_val (want0 rfl) rfl rfl HH159 (Y_asg HH159 rfl rfl) (fun aa160 HH160 => ?_)
    clear HH159
    refine L_end (t_norm (hKK70 _ _ ?_))
    refine wp_seq_k fun KK161 hKK161 => ?_
    refine wp_region_lit ?_
    refine LG_val (want0 rfl) rfl rfl HH160 (Y_loadS HH160 rfl rfl SS155 st_api_Packet.und st_api_Packet.size) (fun aa162 HH162 => ?_)
    clear HH160
    refine LG_call (want0 rfl) rfl rfl rfl Try.func70 (by kernel_rfl) rfl HH162 (rpack_bad p hp SS155) rfl ?_
    rintro e ww163 ⟨rfl, SS163⟩
    refine ⟨_, rfl, fun aa163 HH163 => ?_⟩
    clear HH162
    clear SS155
    refine LG_val (want0 rfl) rfl rfl HH163 (Y_mov HH163 rfl rfl) (fun aa164 HH164 => ?_)
    clear HH163
    refine LG_val (want0 rfl) rfl rfl HH164 (Y_ext HH164 rfl rfl rfl) (fun aa165 HH165 => ?_)
    clear HH164
    refine LG_val (want0 rfl) rfl rfl HH165 (Y_ext HH165 rfl rfl rfl) (fun aa166 HH166 => ?_)
    clear HH165
    refine LG_val (want0 rfl) rfl rfl HH166 (Y_asg HH166 rfl rfl) (fun aa167 HH167 => ?_)
    clear HH166
    refine LG_val (want0 rfl) rfl rfl HH167 (Y_asg HH167 rfl rfl) (fun aa168 HH168 => ?_)
    clear HH167
    refine L_end (t_norm (hKK161 _ _ ?_))
    refine wp_seq_k fun KK169 hKK169 => ?_
    refine wp_seq_k fun KK170 hKK170 => ?_
    refine wp_region_lit ?_
    refine LG_val (want0 rfl) rfl rfl HH168 (Y_mov HH168 rfl rfl) (fun aa171 HH171 => ?_)
    clear HH168
    refine LG_val (want0 rfl) rfl rfl HH171 (Y_no (Y_eql HH171 rfl rfl rfl) (by simp)) (fun aa172 HH172 => ?_)
    clear HH171
    refine LG_val (want0 rfl) rfl rfl HH172 (Y_mov HH172 rfl rfl) (fun aa173 HH173 => ?_)
    clear HH172
    refine LG_val (want0 rfl) rfl rfl HH173 (Y_to (Y_neqB HH173 rfl (by kernel_rfl) rfl rfl) (rfl)) (fun aa174 HH174 => ?_)
    clear HH173
    refine LG_val (want0 rfl) rfl rfl HH174 (Y_mov HH174 rfl rfl) (fun aa175 HH175 => ?_)
    clear HH174
    refine LG_val (HH175.want rfl rfl rfl) rfl rfl HH175 (Y_mov HH175 rfl rfl) (fun aa176 HH176 => ?_)
    clear HH175
    refine LG_val (HH176.want rfl rfl rfl) rfl rfl HH176 (Y_mov HH176 rfl rfl) (fun aa177 HH177 => ?_)
    clear HH176
    refine LG_call (HH177.want rfl rfl rfl) rfl rfl rfl Try.func59 (by kernel_rfl) rfl HH177 (ksameB_ok (xs := []) (ys := []) (Rd.nil _ _) (Rd.nil _ _)) rfl ?_
    rintro e ww178 ⟨rfl, hk⟩
    have SS178 := hk.sat SS163
    rw [show (([] : List Int) == ([] : List Int)) = true from by simp]
    refine ⟨_, rfl, fun aa178 HH178 => ?_⟩
    clear HH177
    clear SS163
    refine LG_val (HH178.want rfl rfl rfl) rfl rfl HH178 (Y_not HH178 rfl rfl) (fun aa179 HH179 => ?_)
    clear HH178
    refine LG_val (want0 rfl) rfl rfl HH179 (Y_pickF HH179 rfl rfl rfl) (fun aa180 HH180 => ?_)
    clear HH179
    refine LG_val (want0 rfl) rfl rfl HH180 (Y_mov HH180 rfl rfl) (fun aa181 HH181 => ?_)
    clear HH180
    refine LG_val (HH181.want rfl rfl rfl) rfl rfl HH181 (Y_mov HH181 rfl rfl) (fun aa182 HH182 => ?_)
    clear HH181
    refine LG_val (HH182.want rfl rfl rfl) rfl rfl HH182 (Y_not HH182 rfl rfl) (fun aa183 HH183 => ?_)
    clear HH182
    refine LG_val (HH183.want rfl rfl rfl) rfl rfl HH183 (Y_mov HH183 rfl rfl) (fun aa184 HH184 => ?_)
    clear HH183
    refine LG_val (HH184.want rfl rfl rfl) rfl rfl HH184 (Y_mov HH184 rfl rfl) (fun aa185 HH185 => ?_)
    clear HH184
    refine LG_val (HH185.want rfl rfl rfl) rfl rfl HH185 (Y_no (Y_neq HH185 rfl rfl rfl) (by simp)) (fun aa186 HH186 => ?_)
    clear HH185
    refine LG_val (HH186.want rfl rfl rfl) rfl rfl HH186 (Y_pickT HH186 rfl rfl rfl) (fun aa187 HH187 => ?_)
    clear HH186
    refine LG_val (want0 rfl) rfl rfl HH187 (Y_pickF HH187 rfl rfl rfl) (fun aa188 HH188 => ?_)
    clear HH187
    refine LG_val (want0 rfl) rfl rfl HH188 (Y_mov HH188 rfl rfl) (fun aa189 HH189 => ?_)
    clear HH188
    refine LG_val (HH189.want rfl rfl rfl) rfl rfl HH189 (Y_loadS HH189 rfl rfl SS178 st_api_Packet.und st_api_Packet.size) (fun aa190 HH190 => ?_)
    clear HH189
    refine LG_call (HH190.want rfl rfl rfl) rfl rfl rfl Try.func71 (by kernel_rfl) rfl HH190 (check_ok p _ _ SS178) rfl ?_
    rintro e ww191 ⟨rfl, SS191⟩
    rw [if_neg hp]
    refine ⟨_, rfl, fun aa191 HH191 => ?_⟩
    clear HH190
    clear SS178
    refine LG_val (HH191.want rfl rfl rfl) rfl rfl HH191 (Y_mov HH191 rfl rfl) (fun aa192 HH192 => ?_)
    clear HH191
    refine LG_val (HH192.want rfl rfl rfl) rfl rfl HH192 (Y_no (Y_neq HH192 rfl rfl rfl) (by simp)) (fun aa193 HH193 => ?_)
    clear HH192
    refine LG_val (want0 rfl) rfl rfl HH193 (Y_pickF HH193 rfl rfl rfl) (fun aa194 HH194 => ?_)
    clear HH193
    refine L_end (t_norm (hKK170 _ _ ?_))
    refine c_no HH194 rfl ?_
    refine wp_skip (t_norm (hKK169 _ _ ?_))
    refine c_cut (fun a wx => ∃ k2 : Int, Fr a 91 [(3, VI k2), (8, VB false), (9, VPt b9 0), (10, VPt b10 0)] ∧ Sat wx [cel b9 43 (p.cells (.slice pa p.data.length pc)), cel b10 43 (q.cells (.slice qa q.data.length qc)), Ints (.slice pa p.data.length pc) p.data, Ints (.slice qa q.data.length qc) q.data, Old w]) ?_ ?_
    ·
      refine wp_seq_k fun KK195 hKK195 => ?_
      refine wp_region_lit ?_
      refine LG_val (want0 rfl) rfl rfl HH194 (Y_mov HH194 rfl rfl) (fun aa196 HH196 => ?_)
      clear HH194
      refine LG_val (want0 rfl) rfl rfl HH196 (Y_rem (r := kind.tmod 5) HH196 rfl rfl rfl (by omega) (rfl)) (fun aa197 HH197 => ?_)
      clear HH196
      by_cases h5 : kind.tmod 5 ≠ 4
      ·
        refine LG_val (want0 rfl) rfl rfl HH197 (Y_yes (Y_neq HH197 rfl rfl rfl) (h5)) (fun aa198 HH198 => ?_)
        clear HH197
        refine L_end (t_norm (hKK195 _ _ ?_))
        refine c_yes HH198 rfl ?_
        refine wp_region_lit ?_
        refine LG_val (want0 rfl) rfl rfl HH198 (Y_mov HH198 rfl rfl) (fun aa199 HH199 => ?_)
        clear HH198
        refine LG_call (want0 rfl) rfl rfl rfl Try.func17 (by kernel_rfl) rfl HH199 (within_ok (kind) (12) (by omega)) rfl ?_
        rintro e ww200 ⟨rfl, rfl⟩
        refine ⟨_, rfl, fun aa200 HH200 => ?_⟩
        clear HH199
        refine LG_val (want0 rfl) rfl rfl HH200 (Y_sub HH200 rfl rfl rfl (rfl)) (fun aa201 HH201 => ?_)
        clear HH200
        refine LG_val (want0 rfl) rfl rfl HH201 (Y_asg HH201 rfl rfl) (fun aa202 HH202 => ?_)
        clear HH201
        refine L_end (t_norm ?_)
        exact ⟨_, HH202.sub rfl, SS191.p4.p4.p4.p4.p4.t5⟩
      ·
        refine LG_val (want0 rfl) rfl rfl HH197 (Y_no (Y_neq HH197 rfl rfl rfl) (h5)) (fun aa203 HH203 => ?_)
        clear HH197
        refine L_end (t_norm (hKK195 _ _ ?_))
        refine c_no HH203 rfl ?_
        refine wp_skip (t_norm ?_)
        exact ⟨_, HH203.sub rfl, SS191.p4.p4.p4.p4.p4.t5⟩
    clear HH194
    clear SS191
    rintro aa204 ww204 ⟨k2, HH204, SS204⟩
    refine wp_seq_k fun KK205 hKK205 => ?_
    -- region 8, drawn
    refine N_begin (fun w' => Sat w' _) (.val 0 (.val 2 (.one 1 (.one 3 (.val 4 (.val 5 (.val 6 (.val 8 (.one 7 (.one 9 (.val 10 (.val 11 (.val 12 (.val 13 (.val 14 (.val 16 (.val 17 (.one 15 (.one 18 (.val 19 (.val 20 (.val 21 (.val 22 (.val 23 (.one 24 (.val 25 (.val 26 (.one 27 (.val 28 (.val 29 .fin)))))))))))))))))))))))))))))) (by kernel_rfl) (by kernel_rfl) (by kernel_rfl) (by kernel_rfl) (fun _ _ _ _ _ h => h) (SS204.p1.p1.t2.drew) (fun ww206 SN206 hw206 => ?_)
    have SS206 := SS204.drew
    rw [← hw206] at SS206
    clear hw206 SN206
    clear SS204
    refine N_val rfl (want0 rfl) rfl rfl HH204 (fun ww206 SN => Y_mov HH204 rfl rfl) (fun aa207 HH207 => ?_)
    clear HH204
    refine N_val rfl (want0 rfl) rfl rfl HH207 (fun ww206 SN => Y_mov HH207 rfl rfl) (fun aa208 HH208 => ?_)
    clear HH207
    refine N_call rfl (want0 rfl) rfl rfl rfl Try.func72 (by kernel_rfl) rfl HH208 (ans_ok k2) rfl ?_
    rintro e ww209 ⟨rfl, rfl⟩
    refine ⟨_, rfl, SS206.p1.p1.t2, fun aa209 HH209 => ?_⟩
    clear HH208
    refine N_call rfl (want0 rfl) rfl rfl rfl Try.func73 (by kernel_rfl) rfl HH209 (rans_ok k2) rfl ?_
    rintro e ww210 ⟨rfl, rfl⟩
    refine ⟨_, rfl, SS206.p1.p1.t2, fun aa210 HH210 => ?_⟩
    clear HH209
    refine N_val rfl (want0 rfl) rfl rfl HH210 (fun ww206 SN => Y_yes (Y_eql HH210 rfl rfl rfl) (rfl)) (fun aa211 HH211 => ?_)
    clear HH210
    refine N_val rfl (want0 rfl) rfl rfl HH211 (fun ww206 SN => Y_mov HH211 rfl rfl) (fun aa212 HH212 => ?_)
    clear HH211
    refine N_val rfl (HH212.want rfl rfl rfl) rfl rfl HH212 (fun ww206 SN => Y_mov HH212 rfl rfl) (fun aa213 HH213 => ?_)
    clear HH212
    refine N_val rfl (HH213.want rfl rfl rfl) rfl rfl HH213 (fun ww206 SN => Y_mov HH213 rfl rfl) (fun aa214 HH214 => ?_)
    clear HH213
    refine N_call rfl (HH214.want rfl rfl rfl) rfl rfl rfl Try.func74 (by kernel_rfl) rfl HH214 (req_ok k2) rfl ?_
    rintro e ww215 ⟨rfl, rfl⟩
    refine ⟨_, rfl, SS206.p1.p1.t2, fun aa215 HH215 => ?_⟩
    clear HH214
    refine N_call rfl (HH215.want rfl rfl rfl) rfl rfl rfl Try.func75 (by kernel_rfl) rfl HH215 (rreq_ok k2) rfl ?_
    rintro e ww216 ⟨rfl, rfl⟩
    refine ⟨_, rfl, SS206.p1.p1.t2, fun aa216 HH216 => ?_⟩
    clear HH215
    refine N_val rfl (HH216.want rfl rfl rfl) rfl rfl HH216 (fun ww206 SN => Y_to (Y_eqlB HH216 rfl (by kernel_rfl) rfl rfl) (show (isReq k2 == isReq k2) = true by simp)) (fun aa217 HH217 => ?_)
    clear HH216
    refine N_val rfl (want0 rfl) rfl rfl HH217 (fun ww206 SN => Y_pickT HH217 rfl rfl rfl) (fun aa218 HH218 => ?_)
    clear HH217
    refine N_val rfl (want0 rfl) rfl rfl HH218 (fun ww206 SN => Y_mov HH218 rfl rfl) (fun aa219 HH219 => ?_)
    clear HH218
    refine N_val rfl (HH219.want rfl rfl rfl) rfl rfl HH219 (fun ww206 SN => Y_loadS HH219 rfl rfl SN st_api_Packet.und st_api_Packet.size) (fun aa220 HH220 => ?_)
    clear HH219
    refine N_val rfl (HH220.want rfl rfl rfl) rfl rfl HH220 (fun ww206 SN => Y_loadS HH220 rfl rfl SN.p1 st_api_Packet.und st_api_Packet.size) (fun aa221 HH221 => ?_)
    clear HH220
    refine N_val rfl (HH221.want rfl rfl rfl) rfl rfl HH221 (fun ww206 SN => Y_loadS HH221 rfl rfl SN st_api_Packet.und st_api_Packet.size) (fun aa222 HH222 => ?_)
    clear HH221
    refine N_val rfl (HH222.want rfl rfl rfl) rfl rfl HH222 (fun ww206 SN => Y_loadS HH222 rfl rfl SN.p1 st_api_Packet.und st_api_Packet.size) (fun aa223 HH223 => ?_)
    clear HH222
    refine N_call rfl (HH223.want rfl rfl rfl) rfl rfl rfl Try.func76 (by kernel_rfl) rfl HH223 (psame_ok p q (fun w' h => Ints.rd h) (fun w' h => Ints.rd h.p1) SS206.p3.p3) rfl ?_
    rintro e ww224 ⟨rfl, SS224⟩
    refine ⟨_, rfl, SS224.p3.p3.t2, fun aa224 HH224 => ?_⟩
    clear HH223
    clear SS206
    refine N_call rfl (HH224.want rfl rfl rfl) rfl rfl rfl Try.func22 (by kernel_rfl) rfl HH224 (same_ok p q (Ints.rd SS224) (Ints.rd SS224.p1) (by omega)) rfl ?_
    rintro e ww225 ⟨rfl, hk⟩
    have SS225 := hk.sat SS224
    refine ⟨_, rfl, SS225.p3.p3.t2, fun aa225 HH225 => ?_⟩
    clear HH224
    clear SS224
    refine N_val rfl (HH225.want rfl rfl rfl) rfl rfl HH225 (fun ww225 SN => Y_to (Y_eqlB HH225 rfl (by kernel_rfl) rfl rfl) (show (p.eqb q == p.eqb q) = true by simp)) (fun aa226 HH226 => ?_)
    clear HH225
    refine N_val rfl (want0 rfl) rfl rfl HH226 (fun ww225 SN => Y_pickT HH226 rfl rfl rfl) (fun aa227 HH227 => ?_)
    clear HH226
    refine N_val rfl (want0 rfl) rfl rfl HH227 (fun ww225 SN => Y_mov HH227 rfl rfl) (fun aa228 HH228 => ?_)
    clear HH227
    refine N_val rfl (HH228.want rfl rfl rfl) rfl rfl HH228 (fun ww225 SN => Y_loadS HH228 rfl rfl SN st_api_Packet.und st_api_Packet.size) (fun aa229 HH229 => ?_)
    clear HH228
    refine N_val rfl (HH229.want rfl rfl rfl) rfl rfl HH229 (fun ww225 SN => Y_loadS HH229 rfl rfl SN st_api_Packet.und st_api_Packet.size) (fun aa230 HH230 => ?_)
    clear HH229
    refine N_call rfl (HH230.want rfl rfl rfl) rfl rfl rfl Try.func76 (by kernel_rfl) rfl HH230 (psame_ok p p (fun w' h => Ints.rd h) (fun w' h => Ints.rd h) SS225) rfl ?_
    rintro e ww231 ⟨rfl, SS231⟩
    rw [Pkt.eqb_refl]
    refine ⟨_, rfl, SS231.p3.p3.t2, fun aa231 HH231 => ?_⟩
    clear HH230
    clear SS225
    refine N_val rfl (want0 rfl) rfl rfl HH231 (fun ww231 SN => Y_pickT HH231 rfl rfl rfl) (fun aa232 HH232 => ?_)
    clear HH231
    refine N_val rfl (want0 rfl) rfl rfl HH232 (fun ww231 SN => Y_mov HH232 rfl rfl) (fun aa233 HH233 => ?_)
    clear HH232
    refine N_call rfl (HH233.want rfl rfl rfl) rfl rfl rfl Try.func77 (by kernel_rfl) rfl HH233 (wakes03_ok SS231) rfl ?_
    rintro e ww234 ⟨rfl, SS234⟩
    refine ⟨_, rfl, SS234.p3.p3.t2, fun aa234 HH234 => ?_⟩
    clear HH233
    clear SS231
    refine N_val rfl (want0 rfl) rfl rfl HH234 (fun ww234 SN => Y_pickT HH234 rfl rfl rfl) (fun aa235 HH235 => ?_)
    clear HH234
    refine N_val rfl (want0 rfl) rfl rfl HH235 (fun ww234 SN => Y_asg HH235 rfl rfl) (fun aa236 HH236 => ?_)
    clear HH235
    refine N_end (t_norm (hKK205 _ _ ?_))
    refine wp_ret (ret1 rfl HH236 rfl ?_)
    exact ⟨rfl, SS234.p4.below⟩
end Go.Proofs.Ytaekiecidbhjhaa
