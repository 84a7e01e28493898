/- chapletplay.Packet; packet's own waking test. Printed by wip/specs/play.py. -/
import Derived.Test.YtaekiecidbhjhaaPack2
import Derived.Test.YtaekiecidbhjhaaPsame
import Derived.Test.YtaekiecidbhjhaaCfg2
import Derived.Test.YtaekiecidbhjhaaDrw3
namespace Go.Proofs.Ytaekiecidbhjhaa
open Go.RowKit

set_option maxRecDepth 100000 in
theorem play_ok {w : World} {l : List HProp} (x : Pkt) {va : Option Addr} {vc : Nat} (how : Int) (hx : ∀ w', Sat w' l → RdI w' (.slice va x.data.length vc) x.data) (hb : x.data.length * 8 ≤ 140737488355328) (S : Sat w l) :
    Calls Try.prog 68 #[x.val (.slice va x.data.length vc), VI how] w fun e w' => ∃ (pk : Pkt) (ka : Option Addr) (kc : Nat), e = .returned (pk.val (.slice ka pk.data.length kc)) ∧ pk.data.length ≤ 6 ∧ Sat w' (Ints (.slice ka pk.data.length kc) pk.data :: l) := by
  refine enter (n := 85) Try.func68 rfl [(0, x.val (.slice va x.data.length vc)), (1, VI how)] rfl rfl fun aa0 HH0 => ?_
  refine wp_seq_k fun KK1 hKK1 => ?_
  refine wp_region_lit ?_
  refine LG_do (want0 rfl) rfl rfl HH0 (M_box HH0 rfl rfl rfl S) ?_
  rintro _ ww2 ⟨b2, rfl, SS2, _⟩ aa2 HH2
  clear HH0
  clear S
  refine LG_do (want0 rfl) rfl rfl HH2 (M_alloc HH2 rfl st_api_Packet.zero SS2) ?_
  rintro _ ww3 ⟨b4, rfl, SS3, _⟩ aa3 HH3
  clear HH2
  clear SS2
  refine L_end (t_norm (hKK1 _ _ ?_))
  refine c_cut (fun a wx => ∃ (b5 : Nat) (pk : Pkt) (ka : Option Addr) (kc : Nat), Fr a 85 [(1, VI how), (2, VPt b2 0), (4, VPt b4 0), (5, VPt b5 0)] ∧ pk.data.length ≤ 6 ∧ Sat wx (cel b5 43 (pk.cells (.slice ka pk.data.length kc)) :: Ints (.slice ka pk.data.length kc) pk.data :: cel b2 43 (x.cells (.slice va x.data.length vc)) :: cel b4 43 (Pkt.zero.cells VNil) :: l)) ?_ ?_
  ·
    -- region 1, drawn
    refine N_begin (fun w' => Sat w' _) (.val 0 (.val 1 (.val 4 (.val 5 (.val 7 (.val 8 (.val 10 (.val 11 (.val 13 (.val 14 (.val 16 (.val 17 (.val 20 (.val 21 (.val 23 (.val 24 (.val 25 (.val 26 (.two 2 29 (.val 3 (.two 6 29 (.two 9 29 (.two 12 29 (.two 15 29 (.two 18 29 (.val 19 (.two 22 29 (.two 27 29 (.val 28 (.one 29 (.one 30 .fin))) (.one 27 (.val 28 (.one 30 .fin)))) (.one 22 (.one 27 (.val 28 (.one 30 .fin)))))) (.one 18 (.val 19 (.one 22 (.one 27 (.val 28 (.one 30 .fin))))))) (.one 15 (.one 18 (.val 19 (.one 22 (.one 27 (.val 28 (.one 30 .fin)))))))) (.one 12 (.one 15 (.one 18 (.val 19 (.one 22 (.one 27 (.val 28 (.one 30 .fin))))))))) (.one 9 (.one 12 (.one 15 (.one 18 (.val 19 (.one 22 (.one 27 (.val 28 (.one 30 .fin)))))))))) (.one 6 (.one 9 (.one 12 (.one 15 (.one 18 (.val 19 (.one 22 (.one 27 (.val 28 (.one 30 .fin)))))))))))) (.one 2 (.val 3 (.one 6 (.one 9 (.one 12 (.one 15 (.one 18 (.val 19 (.one 22 (.one 27 (.val 28 (.one 30 .fin))))))))))))))))))))))))))))))) (by kernel_rfl) (by kernel_rfl) (by kernel_rfl) (by kernel_rfl) (fun _ _ _ _ _ h => h) (SS3.p1.t1.drew) (fun ww4 SN4 hw4 => ?_)
    have SS4 := SS3.drew
    rw [← hw4] at SS4
    clear hw4 SN4
    clear SS3
    refine N_val rfl (want0 rfl) rfl rfl HH3 (fun ww4 SN => Y_fad (off := 0) (r := 0) HH3 rfl (by kernel_rfl) rfl rfl) (fun aa5 HH5 => ?_)
    clear HH3
    refine N_val rfl (want0 rfl) rfl rfl HH5 (fun ww4 SN => Y_load HH5 rfl (by kernel_rfl) rfl (SN.cell 0)) (fun aa6 HH6 => ?_)
    clear HH5
    refine N_val rfl (want0 rfl) rfl rfl HH6 (fun ww4 SN => Y_fad (off := 1) (r := 1) HH6 rfl (by kernel_rfl) rfl rfl) (fun aa7 HH7 => ?_)
    clear HH6
    refine N_val rfl (want0 rfl) rfl rfl HH7 (fun ww4 SN => Y_load HH7 rfl (by kernel_rfl) rfl (SN.cell 1)) (fun aa8 HH8 => ?_)
    clear HH7
    refine N_val rfl (want0 rfl) rfl rfl HH8 (fun ww4 SN => Y_fad (off := 2) (r := 2) HH8 rfl (by kernel_rfl) rfl rfl) (fun aa9 HH9 => ?_)
    clear HH8
    refine N_val rfl (want0 rfl) rfl rfl HH9 (fun ww4 SN => Y_load HH9 rfl (by kernel_rfl) rfl (SN.cell 2)) (fun aa10 HH10 => ?_)
    clear HH9
    refine N_val rfl (want0 rfl) rfl rfl HH10 (fun ww4 SN => Y_fad (off := 3) (r := 3) HH10 rfl (by kernel_rfl) rfl rfl) (fun aa11 HH11 => ?_)
    clear HH10
    refine N_val rfl (want0 rfl) rfl rfl HH11 (fun ww4 SN => Y_load HH11 rfl (by kernel_rfl) rfl (SN.cell 3)) (fun aa12 HH12 => ?_)
    clear HH11
    refine N_val rfl (want0 rfl) rfl rfl HH12 (fun ww4 SN => Y_fad (off := 4) (r := 4) HH12 rfl (by kernel_rfl) rfl rfl) (fun aa13 HH13 => ?_)
    clear HH12
    refine N_val rfl (want0 rfl) rfl rfl HH13 (fun ww4 SN => Y_load HH13 rfl (by kernel_rfl) rfl (SN.cell 4)) (fun aa14 HH14 => ?_)
    clear HH13
    refine N_val rfl (want0 rfl) rfl rfl HH14 (fun ww4 SN => Y_fad (off := 5) (r := 5) HH14 rfl (by kernel_rfl) rfl rfl) (fun aa15 HH15 => ?_)
    clear HH14
    refine N_val rfl (want0 rfl) rfl rfl HH15 (fun ww4 SN => Y_load HH15 rfl (by kernel_rfl) rfl (SN.cell 5)) (fun aa16 HH16 => ?_)
    clear HH15
    refine N_val rfl (want0 rfl) rfl rfl HH16 (fun ww4 SN => Y_fad (off := 6) (r := 6) HH16 rfl (by kernel_rfl) rfl rfl) (fun aa17 HH17 => ?_)
    clear HH16
    refine N_val rfl (want0 rfl) rfl rfl HH17 (fun ww4 SN => Y_load HH17 rfl (by kernel_rfl) rfl (SN.cell 6)) (fun aa18 HH18 => ?_)
    clear HH17
    refine N_val rfl (want0 rfl) rfl rfl HH18 (fun ww4 SN => Y_fad (off := 7) (r := 7) HH18 rfl (by kernel_rfl) rfl rfl) (fun aa19 HH19 => ?_)
    clear HH18
    refine N_val rfl (want0 rfl) rfl rfl HH19 (fun ww4 SN => Y_load HH19 rfl (by kernel_rfl) rfl (SN.cell 7)) (fun aa20 HH20 => ?_)
    clear HH19
    refine N_val rfl (want0 rfl) rfl rfl HH20 (fun ww4 SN => Y_fad (off := 8) (r := 8) HH20 rfl (by kernel_rfl) rfl rfl) (fun aa21 HH21 => ?_)
    clear HH20
    refine N_val rfl (want0 rfl) rfl rfl HH21 (fun ww4 SN => Y_load HH21 rfl (by kernel_rfl) rfl (SN.cell 8)) (fun aa22 HH22 => ?_)
    clear HH21
    refine N_two ?_ ?_
    ·
      refine N_call rfl (want0 rfl) rfl rfl rfl Try.func17 (by kernel_rfl) rfl HH22 (within_ok (x.kind) (9) (by omega)) rfl ?_
      rintro e ww23 ⟨rfl, rfl⟩
      refine ⟨_, rfl, SS4.p1.t1, fun aa23 HH23 => ?_⟩
      clear HH22
      refine N_val rfl (want0 rfl) rfl rfl HH23 (fun ww4 SN => Y_add (r := (IntKind.i64.wrap (1 + within x.kind 9))) HH23 rfl rfl rfl (rfl)) (fun aa24 HH24 => ?_)
      clear HH23
      refine N_two ?_ ?_
      ·
        refine N_call rfl (want0 rfl) rfl rfl rfl Try.func17 (by kernel_rfl) rfl HH24 (within_ok (x.src) (4) (by omega)) rfl ?_
        rintro e ww25 ⟨rfl, rfl⟩
        refine ⟨_, rfl, SS4.p1.t1, fun aa25 HH25 => ?_⟩
        clear HH24
        refine N_two ?_ ?_
        ·
          refine N_call rfl (want0 rfl) rfl rfl rfl Try.func17 (by kernel_rfl) rfl HH25 (within_ok (x.dst) (4) (by omega)) rfl ?_
          rintro e ww26 ⟨rfl, rfl⟩
          refine ⟨_, rfl, SS4.p1.t1, fun aa26 HH26 => ?_⟩
          clear HH25
          refine N_two ?_ ?_
          ·
            refine N_call rfl (want0 rfl) rfl rfl rfl Try.func17 (by kernel_rfl) rfl HH26 (within_ok (x.id) (5) (by omega)) rfl ?_
            rintro e ww27 ⟨rfl, rfl⟩
            refine ⟨_, rfl, SS4.p1.t1, fun aa27 HH27 => ?_⟩
            clear HH26
            refine N_two ?_ ?_
            ·
              refine N_call rfl (want0 rfl) rfl rfl rfl Try.func17 (by kernel_rfl) rfl HH27 (within_ok (x.line) (4) (by omega)) rfl ?_
              rintro e ww28 ⟨rfl, rfl⟩
              refine ⟨_, rfl, SS4.p1.t1, fun aa28 HH28 => ?_⟩
              clear HH27
              refine N_two ?_ ?_
              ·
                refine N_call rfl (want0 rfl) rfl rfl rfl Try.func17 (by kernel_rfl) rfl HH28 (within_ok (x.ptr) (5) (by omega)) rfl ?_
                rintro e ww29 ⟨rfl, rfl⟩
                refine ⟨_, rfl, SS4.p1.t1, fun aa29 HH29 => ?_⟩
                clear HH28
                refine N_val rfl (want0 rfl) rfl rfl HH29 (fun ww4 SN => Y_sub (r := (IntKind.i64.wrap (within x.ptr 5 - 1))) HH29 rfl rfl rfl (rfl)) (fun aa30 HH30 => ?_)
                clear HH29
                refine N_two ?_ ?_
                ·
                  refine N_call rfl (want0 rfl) rfl rfl rfl Try.func17 (by kernel_rfl) rfl HH30 (within_ok (x.state) (3) (by omega)) rfl ?_
                  rintro e ww31 ⟨rfl, rfl⟩
                  refine ⟨_, rfl, SS4.p1.t1, fun aa31 HH31 => ?_⟩
                  clear HH30
                  refine N_two ?_ ?_
                  ·
                    refine N_call rfl (want0 rfl) rfl rfl rfl Try.func51 (by kernel_rfl) rfl HH31 (cut_ok (hx _ SS4.p1.tail.tail) 4 (by omega) SS4) rfl ?_
                    rintro e ww32 ⟨v33, rfl, SS32⟩
                    obtain ⟨a33, c33, rfl, _, _⟩ := Ints.val SS32
                    refine ⟨_, rfl, SS32.p2.t1, fun aa32 HH32 => ?_⟩
                    clear HH31
                    clear SS4
                    refine N_val rfl (want0 rfl) rfl rfl HH32 (fun ww32 SN => Y_build (cs := (⟨IntKind.i64.wrap (1 + within x.kind 9), within x.src 4, within x.dst 4, within x.id 5, within x.line 4, IntKind.i64.wrap (within x.ptr 5 - 1), within x.state 3, x.flag, x.data.take 4⟩ : Pkt).cells (.slice a33 (x.data.take 4).length c33)) HH32 rfl st_api_Packet rfl rfl) (fun aa33 HH33 => ?_)
                    clear HH32
                    refine N_do rfl (want0 rfl) rfl rfl HH33 (M_alloc HH33 rfl st_api_Packet.zero SS32) ?_
                    rintro _ ww34 ⟨b5, rfl, SS34, _⟩
                    refine ⟨SS34.p3.t1, fun aa34 HH34 => ?_⟩
                    clear HH33
                    clear SS32
                    refine N_do0 rfl (want0 rfl) rfl HH34 (M_storeS HH34 rfl rfl rfl SS34 st_api_Packet.size rfl rfl (one_pkt (⟨IntKind.i64.wrap (1 + within x.kind 9), within x.src 4, within x.dst 4, within x.id 5, within x.line 4, IntKind.i64.wrap (within x.ptr 5 - 1), within x.state 3, x.flag, x.data.take 4⟩ : Pkt) a33 (x.data.take 4).length c33)) ?_
                    rintro _ ww35 ⟨SS35, _⟩
                    refine ⟨SS35.p3.t1, fun aa35 HH35 => ?_⟩
                    clear HH34
                    clear SS34
                    refine N_end (t_norm ?_)
                    exact ⟨_, ⟨IntKind.i64.wrap (1 + within x.kind 9), within x.src 4, within x.dst 4, within x.id 5, within x.line 4, IntKind.i64.wrap (within x.ptr 5 - 1), within x.state 3, x.flag, x.data.take 4⟩, a33, c33, HH35.sub rfl, by show (x.data.take 4).length ≤ 6; rw [List.length_take]; omega, SS35.p2.p3.p3.p3⟩
                  ·
                    refine N_do rfl (want0 rfl) rfl rfl HH31 (M_alloc HH31 rfl st_api_Packet.zero SS4) ?_
                    rintro _ ww36 ⟨b5, rfl, SS36, _⟩
                    refine ⟨SS36.p2.t1, fun aa36 HH36 => ?_⟩
                    clear HH31
                    clear SS4
                    refine N_call rfl (want0 rfl) rfl rfl rfl Try.func51 (by kernel_rfl) rfl HH36 (cut_ok (hx _ SS36.p1.p2.tail.tail.tail) 4 (by omega) SS36) rfl ?_
                    rintro e ww37 ⟨v33, rfl, SS37⟩
                    obtain ⟨a33, c33, rfl, _, _⟩ := Ints.val SS37
                    refine ⟨_, rfl, SS37.p3.t1, fun aa37 HH37 => ?_⟩
                    clear HH36
                    clear SS36
                    refine N_val rfl (want0 rfl) rfl rfl HH37 (fun ww37 SN => Y_build (cs := (⟨IntKind.i64.wrap (1 + within x.kind 9), within x.src 4, within x.dst 4, within x.id 5, within x.line 4, IntKind.i64.wrap (within x.ptr 5 - 1), within x.state 3, x.flag, x.data.take 4⟩ : Pkt).cells (.slice a33 (x.data.take 4).length c33)) HH37 rfl st_api_Packet rfl rfl) (fun aa38 HH38 => ?_)
                    clear HH37
                    refine N_do0 rfl (want0 rfl) rfl HH38 (M_storeS HH38 rfl rfl rfl SS37.p1 st_api_Packet.size rfl rfl (one_pkt (⟨IntKind.i64.wrap (1 + within x.kind 9), within x.src 4, within x.dst 4, within x.id 5, within x.line 4, IntKind.i64.wrap (within x.ptr 5 - 1), within x.state 3, x.flag, x.data.take 4⟩ : Pkt) a33 (x.data.take 4).length c33)) ?_
                    rintro _ ww39 ⟨SS39, _⟩
                    refine ⟨SS39.p3.t1, fun aa39 HH39 => ?_⟩
                    clear HH38
                    clear SS37
                    refine N_end (t_norm ?_)
                    exact ⟨_, ⟨IntKind.i64.wrap (1 + within x.kind 9), within x.src 4, within x.dst 4, within x.id 5, within x.line 4, IntKind.i64.wrap (within x.ptr 5 - 1), within x.state 3, x.flag, x.data.take 4⟩, a33, c33, HH39.sub rfl, by show (x.data.take 4).length ≤ 6; rw [List.length_take]; omega, SS39.p2.p3.p3.p3⟩
                ·
                  refine N_do rfl (want0 rfl) rfl rfl HH30 (M_alloc HH30 rfl st_api_Packet.zero SS4) ?_
                  rintro _ ww40 ⟨b5, rfl, SS40, _⟩
                  refine ⟨SS40.p2.t1, fun aa40 HH40 => ?_⟩
                  clear HH30
                  clear SS4
                  refine N_call rfl (want0 rfl) rfl rfl rfl Try.func17 (by kernel_rfl) rfl HH40 (within_ok (x.state) (3) (by omega)) rfl ?_
                  rintro e ww41 ⟨rfl, rfl⟩
                  refine ⟨_, rfl, SS40.p2.t1, fun aa41 HH41 => ?_⟩
                  clear HH40
                  refine N_call rfl (want0 rfl) rfl rfl rfl Try.func51 (by kernel_rfl) rfl HH41 (cut_ok (hx _ SS40.p1.p2.tail.tail.tail) 4 (by omega) SS40) rfl ?_
                  rintro e ww42 ⟨v33, rfl, SS42⟩
                  obtain ⟨a33, c33, rfl, _, _⟩ := Ints.val SS42
                  refine ⟨_, rfl, SS42.p3.t1, fun aa42 HH42 => ?_⟩
                  clear HH41
                  clear SS40
                  refine N_val rfl (want0 rfl) rfl rfl HH42 (fun ww42 SN => Y_build (cs := (⟨IntKind.i64.wrap (1 + within x.kind 9), within x.src 4, within x.dst 4, within x.id 5, within x.line 4, IntKind.i64.wrap (within x.ptr 5 - 1), within x.state 3, x.flag, x.data.take 4⟩ : Pkt).cells (.slice a33 (x.data.take 4).length c33)) HH42 rfl st_api_Packet rfl rfl) (fun aa43 HH43 => ?_)
                  clear HH42
                  refine N_do0 rfl (want0 rfl) rfl HH43 (M_storeS HH43 rfl rfl rfl SS42.p1 st_api_Packet.size rfl rfl (one_pkt (⟨IntKind.i64.wrap (1 + within x.kind 9), within x.src 4, within x.dst 4, within x.id 5, within x.line 4, IntKind.i64.wrap (within x.ptr 5 - 1), within x.state 3, x.flag, x.data.take 4⟩ : Pkt) a33 (x.data.take 4).length c33)) ?_
                  rintro _ ww44 ⟨SS44, _⟩
                  refine ⟨SS44.p3.t1, fun aa44 HH44 => ?_⟩
                  clear HH43
                  clear SS42
                  refine N_end (t_norm ?_)
                  exact ⟨_, ⟨IntKind.i64.wrap (1 + within x.kind 9), within x.src 4, within x.dst 4, within x.id 5, within x.line 4, IntKind.i64.wrap (within x.ptr 5 - 1), within x.state 3, x.flag, x.data.take 4⟩, a33, c33, HH44.sub rfl, by show (x.data.take 4).length ≤ 6; rw [List.length_take]; omega, SS44.p2.p3.p3.p3⟩
              ·
                refine N_do rfl (want0 rfl) rfl rfl HH28 (M_alloc HH28 rfl st_api_Packet.zero SS4) ?_
                rintro _ ww45 ⟨b5, rfl, SS45, _⟩
                refine ⟨SS45.p2.t1, fun aa45 HH45 => ?_⟩
                clear HH28
                clear SS4
                refine N_call rfl (want0 rfl) rfl rfl rfl Try.func17 (by kernel_rfl) rfl HH45 (within_ok (x.ptr) (5) (by omega)) rfl ?_
                rintro e ww46 ⟨rfl, rfl⟩
                refine ⟨_, rfl, SS45.p2.t1, fun aa46 HH46 => ?_⟩
                clear HH45
                refine N_val rfl (want0 rfl) rfl rfl HH46 (fun ww45 SN => Y_sub (r := (IntKind.i64.wrap (within x.ptr 5 - 1))) HH46 rfl rfl rfl (rfl)) (fun aa47 HH47 => ?_)
                clear HH46
                refine N_call rfl (want0 rfl) rfl rfl rfl Try.func17 (by kernel_rfl) rfl HH47 (within_ok (x.state) (3) (by omega)) rfl ?_
                rintro e ww48 ⟨rfl, rfl⟩
                refine ⟨_, rfl, SS45.p2.t1, fun aa48 HH48 => ?_⟩
                clear HH47
                refine N_call rfl (want0 rfl) rfl rfl rfl Try.func51 (by kernel_rfl) rfl HH48 (cut_ok (hx _ SS45.p1.p2.tail.tail.tail) 4 (by omega) SS45) rfl ?_
                rintro e ww49 ⟨v33, rfl, SS49⟩
                obtain ⟨a33, c33, rfl, _, _⟩ := Ints.val SS49
                refine ⟨_, rfl, SS49.p3.t1, fun aa49 HH49 => ?_⟩
                clear HH48
                clear SS45
                refine N_val rfl (want0 rfl) rfl rfl HH49 (fun ww49 SN => Y_build (cs := (⟨IntKind.i64.wrap (1 + within x.kind 9), within x.src 4, within x.dst 4, within x.id 5, within x.line 4, IntKind.i64.wrap (within x.ptr 5 - 1), within x.state 3, x.flag, x.data.take 4⟩ : Pkt).cells (.slice a33 (x.data.take 4).length c33)) HH49 rfl st_api_Packet rfl rfl) (fun aa50 HH50 => ?_)
                clear HH49
                refine N_do0 rfl (want0 rfl) rfl HH50 (M_storeS HH50 rfl rfl rfl SS49.p1 st_api_Packet.size rfl rfl (one_pkt (⟨IntKind.i64.wrap (1 + within x.kind 9), within x.src 4, within x.dst 4, within x.id 5, within x.line 4, IntKind.i64.wrap (within x.ptr 5 - 1), within x.state 3, x.flag, x.data.take 4⟩ : Pkt) a33 (x.data.take 4).length c33)) ?_
                rintro _ ww51 ⟨SS51, _⟩
                refine ⟨SS51.p3.t1, fun aa51 HH51 => ?_⟩
                clear HH50
                clear SS49
                refine N_end (t_norm ?_)
                exact ⟨_, ⟨IntKind.i64.wrap (1 + within x.kind 9), within x.src 4, within x.dst 4, within x.id 5, within x.line 4, IntKind.i64.wrap (within x.ptr 5 - 1), within x.state 3, x.flag, x.data.take 4⟩, a33, c33, HH51.sub rfl, by show (x.data.take 4).length ≤ 6; rw [List.length_take]; omega, SS51.p2.p3.p3.p3⟩
            ·
              refine N_do rfl (want0 rfl) rfl rfl HH27 (M_alloc HH27 rfl st_api_Packet.zero SS4) ?_
              rintro _ ww52 ⟨b5, rfl, SS52, _⟩
              refine ⟨SS52.p2.t1, fun aa52 HH52 => ?_⟩
              clear HH27
              clear SS4
              refine N_call rfl (want0 rfl) rfl rfl rfl Try.func17 (by kernel_rfl) rfl HH52 (within_ok (x.line) (4) (by omega)) rfl ?_
              rintro e ww53 ⟨rfl, rfl⟩
              refine ⟨_, rfl, SS52.p2.t1, fun aa53 HH53 => ?_⟩
              clear HH52
              refine N_call rfl (want0 rfl) rfl rfl rfl Try.func17 (by kernel_rfl) rfl HH53 (within_ok (x.ptr) (5) (by omega)) rfl ?_
              rintro e ww54 ⟨rfl, rfl⟩
              refine ⟨_, rfl, SS52.p2.t1, fun aa54 HH54 => ?_⟩
              clear HH53
              refine N_val rfl (want0 rfl) rfl rfl HH54 (fun ww52 SN => Y_sub (r := (IntKind.i64.wrap (within x.ptr 5 - 1))) HH54 rfl rfl rfl (rfl)) (fun aa55 HH55 => ?_)
              clear HH54
              refine N_call rfl (want0 rfl) rfl rfl rfl Try.func17 (by kernel_rfl) rfl HH55 (within_ok (x.state) (3) (by omega)) rfl ?_
              rintro e ww56 ⟨rfl, rfl⟩
              refine ⟨_, rfl, SS52.p2.t1, fun aa56 HH56 => ?_⟩
              clear HH55
              refine N_call rfl (want0 rfl) rfl rfl rfl Try.func51 (by kernel_rfl) rfl HH56 (cut_ok (hx _ SS52.p1.p2.tail.tail.tail) 4 (by omega) SS52) rfl ?_
              rintro e ww57 ⟨v33, rfl, SS57⟩
              obtain ⟨a33, c33, rfl, _, _⟩ := Ints.val SS57
              refine ⟨_, rfl, SS57.p3.t1, fun aa57 HH57 => ?_⟩
              clear HH56
              clear SS52
              refine N_val rfl (want0 rfl) rfl rfl HH57 (fun ww57 SN => Y_build (cs := (⟨IntKind.i64.wrap (1 + within x.kind 9), within x.src 4, within x.dst 4, within x.id 5, within x.line 4, IntKind.i64.wrap (within x.ptr 5 - 1), within x.state 3, x.flag, x.data.take 4⟩ : Pkt).cells (.slice a33 (x.data.take 4).length c33)) HH57 rfl st_api_Packet rfl rfl) (fun aa58 HH58 => ?_)
              clear HH57
              refine N_do0 rfl (want0 rfl) rfl HH58 (M_storeS HH58 rfl rfl rfl SS57.p1 st_api_Packet.size rfl rfl (one_pkt (⟨IntKind.i64.wrap (1 + within x.kind 9), within x.src 4, within x.dst 4, within x.id 5, within x.line 4, IntKind.i64.wrap (within x.ptr 5 - 1), within x.state 3, x.flag, x.data.take 4⟩ : Pkt) a33 (x.data.take 4).length c33)) ?_
              rintro _ ww59 ⟨SS59, _⟩
              refine ⟨SS59.p3.t1, fun aa59 HH59 => ?_⟩
              clear HH58
              clear SS57
              refine N_end (t_norm ?_)
              exact ⟨_, ⟨IntKind.i64.wrap (1 + within x.kind 9), within x.src 4, within x.dst 4, within x.id 5, within x.line 4, IntKind.i64.wrap (within x.ptr 5 - 1), within x.state 3, x.flag, x.data.take 4⟩, a33, c33, HH59.sub rfl, by show (x.data.take 4).length ≤ 6; rw [List.length_take]; omega, SS59.p2.p3.p3.p3⟩
          ·
            refine N_do rfl (want0 rfl) rfl rfl HH26 (M_alloc HH26 rfl st_api_Packet.zero SS4) ?_
            rintro _ ww60 ⟨b5, rfl, SS60, _⟩
            refine ⟨SS60.p2.t1, fun aa60 HH60 => ?_⟩
            clear HH26
            clear SS4
            refine N_call rfl (want0 rfl) rfl rfl rfl Try.func17 (by kernel_rfl) rfl HH60 (within_ok (x.id) (5) (by omega)) rfl ?_
            rintro e ww61 ⟨rfl, rfl⟩
            refine ⟨_, rfl, SS60.p2.t1, fun aa61 HH61 => ?_⟩
            clear HH60
            refine N_call rfl (want0 rfl) rfl rfl rfl Try.func17 (by kernel_rfl) rfl HH61 (within_ok (x.line) (4) (by omega)) rfl ?_
            rintro e ww62 ⟨rfl, rfl⟩
            refine ⟨_, rfl, SS60.p2.t1, fun aa62 HH62 => ?_⟩
            clear HH61
            refine N_call rfl (want0 rfl) rfl rfl rfl Try.func17 (by kernel_rfl) rfl HH62 (within_ok (x.ptr) (5) (by omega)) rfl ?_
            rintro e ww63 ⟨rfl, rfl⟩
            refine ⟨_, rfl, SS60.p2.t1, fun aa63 HH63 => ?_⟩
            clear HH62
            refine N_val rfl (want0 rfl) rfl rfl HH63 (fun ww60 SN => Y_sub (r := (IntKind.i64.wrap (within x.ptr 5 - 1))) HH63 rfl rfl rfl (rfl)) (fun aa64 HH64 => ?_)
            clear HH63
            refine N_call rfl (want0 rfl) rfl rfl rfl Try.func17 (by kernel_rfl) rfl HH64 (within_ok (x.state) (3) (by omega)) rfl ?_
            rintro e ww65 ⟨rfl, rfl⟩
            refine ⟨_, rfl, SS60.p2.t1, fun aa65 HH65 => ?_⟩
            clear HH64
            refine N_call rfl (want0 rfl) rfl rfl rfl Try.func51 (by kernel_rfl) rfl HH65 (cut_ok (hx _ SS60.p1.p2.tail.tail.tail) 4 (by omega) SS60) rfl ?_
            rintro e ww66 ⟨v33, rfl, SS66⟩
            obtain ⟨a33, c33, rfl, _, _⟩ := Ints.val SS66
            refine ⟨_, rfl, SS66.p3.t1, fun aa66 HH66 => ?_⟩
            clear HH65
            clear SS60
            refine N_val rfl (want0 rfl) rfl rfl HH66 (fun ww66 SN => Y_build (cs := (⟨IntKind.i64.wrap (1 + within x.kind 9), within x.src 4, within x.dst 4, within x.id 5, within x.line 4, IntKind.i64.wrap (within x.ptr 5 - 1), within x.state 3, x.flag, x.data.take 4⟩ : Pkt).cells (.slice a33 (x.data.take 4).length c33)) HH66 rfl st_api_Packet rfl rfl) (fun aa67 HH67 => ?_)
            clear HH66
            refine N_do0 rfl (want0 rfl) rfl HH67 (M_storeS HH67 rfl rfl rfl SS66.p1 st_api_Packet.size rfl rfl (one_pkt (⟨IntKind.i64.wrap (1 + within x.kind 9), within x.src 4, within x.dst 4, within x.id 5, within x.line 4, IntKind.i64.wrap (within x.ptr 5 - 1), within x.state 3, x.flag, x.data.take 4⟩ : Pkt) a33 (x.data.take 4).length c33)) ?_
            rintro _ ww68 ⟨SS68, _⟩
            refine ⟨SS68.p3.t1, fun aa68 HH68 => ?_⟩
            clear HH67
            clear SS66
            refine N_end (t_norm ?_)
            exact ⟨_, ⟨IntKind.i64.wrap (1 + within x.kind 9), within x.src 4, within x.dst 4, within x.id 5, within x.line 4, IntKind.i64.wrap (within x.ptr 5 - 1), within x.state 3, x.flag, x.data.take 4⟩, a33, c33, HH68.sub rfl, by show (x.data.take 4).length ≤ 6; rw [List.length_take]; omega, SS68.p2.p3.p3.p3⟩
        ·
          refine N_do rfl (want0 rfl) rfl rfl HH25 (M_alloc HH25 rfl st_api_Packet.zero SS4) ?_
          rintro _ ww69 ⟨b5, rfl, SS69, _⟩
          refine ⟨SS69.p2.t1, fun aa69 HH69 => ?_⟩
          clear HH25
          clear SS4
          refine N_call rfl (want0 rfl) rfl rfl rfl Try.func17 (by kernel_rfl) rfl HH69 (within_ok (x.dst) (4) (by omega)) rfl ?_
          rintro e ww70 ⟨rfl, rfl⟩
          refine ⟨_, rfl, SS69.p2.t1, fun aa70 HH70 => ?_⟩
          clear HH69
          refine N_call rfl (want0 rfl) rfl rfl rfl Try.func17 (by kernel_rfl) rfl HH70 (within_ok (x.id) (5) (by omega)) rfl ?_
          rintro e ww71 ⟨rfl, rfl⟩
          refine ⟨_, rfl, SS69.p2.t1, fun aa71 HH71 => ?_⟩
          clear HH70
          refine N_call rfl (want0 rfl) rfl rfl rfl Try.func17 (by kernel_rfl) rfl HH71 (within_ok (x.line) (4) (by omega)) rfl ?_
          rintro e ww72 ⟨rfl, rfl⟩
          refine ⟨_, rfl, SS69.p2.t1, fun aa72 HH72 => ?_⟩
          clear HH71
          refine N_call rfl (want0 rfl) rfl rfl rfl Try.func17 (by kernel_rfl) rfl HH72 (within_ok (x.ptr) (5) (by omega)) rfl ?_
          rintro e ww73 ⟨rfl, rfl⟩
          refine ⟨_, rfl, SS69.p2.t1, fun aa73 HH73 => ?_⟩
          clear HH72
          refine N_val rfl (want0 rfl) rfl rfl HH73 (fun ww69 SN => Y_sub (r := (IntKind.i64.wrap (within x.ptr 5 - 1))) HH73 rfl rfl rfl (rfl)) (fun aa74 HH74 => ?_)
          clear HH73
          refine N_call rfl (want0 rfl) rfl rfl rfl Try.func17 (by kernel_rfl) rfl HH74 (within_ok (x.state) (3) (by omega)) rfl ?_
          rintro e ww75 ⟨rfl, rfl⟩
          refine ⟨_, rfl, SS69.p2.t1, fun aa75 HH75 => ?_⟩
          clear HH74
          refine N_call rfl (want0 rfl) rfl rfl rfl Try.func51 (by kernel_rfl) rfl HH75 (cut_ok (hx _ SS69.p1.p2.tail.tail.tail) 4 (by omega) SS69) rfl ?_
          rintro e ww76 ⟨v33, rfl, SS76⟩
          obtain ⟨a33, c33, rfl, _, _⟩ := Ints.val SS76
          refine ⟨_, rfl, SS76.p3.t1, fun aa76 HH76 => ?_⟩
          clear HH75
          clear SS69
          refine N_val rfl (want0 rfl) rfl rfl HH76 (fun ww76 SN => Y_build (cs := (⟨IntKind.i64.wrap (1 + within x.kind 9), within x.src 4, within x.dst 4, within x.id 5, within x.line 4, IntKind.i64.wrap (within x.ptr 5 - 1), within x.state 3, x.flag, x.data.take 4⟩ : Pkt).cells (.slice a33 (x.data.take 4).length c33)) HH76 rfl st_api_Packet rfl rfl) (fun aa77 HH77 => ?_)
          clear HH76
          refine N_do0 rfl (want0 rfl) rfl HH77 (M_storeS HH77 rfl rfl rfl SS76.p1 st_api_Packet.size rfl rfl (one_pkt (⟨IntKind.i64.wrap (1 + within x.kind 9), within x.src 4, within x.dst 4, within x.id 5, within x.line 4, IntKind.i64.wrap (within x.ptr 5 - 1), within x.state 3, x.flag, x.data.take 4⟩ : Pkt) a33 (x.data.take 4).length c33)) ?_
          rintro _ ww78 ⟨SS78, _⟩
          refine ⟨SS78.p3.t1, fun aa78 HH78 => ?_⟩
          clear HH77
          clear SS76
          refine N_end (t_norm ?_)
          exact ⟨_, ⟨IntKind.i64.wrap (1 + within x.kind 9), within x.src 4, within x.dst 4, within x.id 5, within x.line 4, IntKind.i64.wrap (within x.ptr 5 - 1), within x.state 3, x.flag, x.data.take 4⟩, a33, c33, HH78.sub rfl, by show (x.data.take 4).length ≤ 6; rw [List.length_take]; omega, SS78.p2.p3.p3.p3⟩
      ·
        refine N_do rfl (want0 rfl) rfl rfl HH24 (M_alloc HH24 rfl st_api_Packet.zero SS4) ?_
        rintro _ ww79 ⟨b5, rfl, SS79, _⟩
        refine ⟨SS79.p2.t1, fun aa79 HH79 => ?_⟩
        clear HH24
        clear SS4
        refine N_call rfl (want0 rfl) rfl rfl rfl Try.func17 (by kernel_rfl) rfl HH79 (within_ok (x.src) (4) (by omega)) rfl ?_
        rintro e ww80 ⟨rfl, rfl⟩
        refine ⟨_, rfl, SS79.p2.t1, fun aa80 HH80 => ?_⟩
        clear HH79
        refine N_call rfl (want0 rfl) rfl rfl rfl Try.func17 (by kernel_rfl) rfl HH80 (within_ok (x.dst) (4) (by omega)) rfl ?_
        rintro e ww81 ⟨rfl, rfl⟩
        refine ⟨_, rfl, SS79.p2.t1, fun aa81 HH81 => ?_⟩
        clear HH80
        refine N_call rfl (want0 rfl) rfl rfl rfl Try.func17 (by kernel_rfl) rfl HH81 (within_ok (x.id) (5) (by omega)) rfl ?_
        rintro e ww82 ⟨rfl, rfl⟩
        refine ⟨_, rfl, SS79.p2.t1, fun aa82 HH82 => ?_⟩
        clear HH81
        refine N_call rfl (want0 rfl) rfl rfl rfl Try.func17 (by kernel_rfl) rfl HH82 (within_ok (x.line) (4) (by omega)) rfl ?_
        rintro e ww83 ⟨rfl, rfl⟩
        refine ⟨_, rfl, SS79.p2.t1, fun aa83 HH83 => ?_⟩
        clear HH82
        refine N_call rfl (want0 rfl) rfl rfl rfl Try.func17 (by kernel_rfl) rfl HH83 (within_ok (x.ptr) (5) (by omega)) rfl ?_
        rintro e ww84 ⟨rfl, rfl⟩
        refine ⟨_, rfl, SS79.p2.t1, fun aa84 HH84 => ?_⟩
        clear HH83
        refine N_val rfl (want0 rfl) rfl rfl HH84 (fun ww79 SN => Y_sub (r := (IntKind.i64.wrap (within x.ptr 5 - 1))) HH84 rfl rfl rfl (rfl)) (fun aa85 HH85 => ?_)
        clear HH84
        refine N_call rfl (want0 rfl) rfl rfl rfl Try.func17 (by kernel_rfl) rfl HH85 (within_ok (x.state) (3) (by omega)) rfl ?_
        rintro e ww86 ⟨rfl, rfl⟩
        refine ⟨_, rfl, SS79.p2.t1, fun aa86 HH86 => ?_⟩
        clear HH85
        refine N_call rfl (want0 rfl) rfl rfl rfl Try.func51 (by kernel_rfl) rfl HH86 (cut_ok (hx _ SS79.p1.p2.tail.tail.tail) 4 (by omega) SS79) rfl ?_
        rintro e ww87 ⟨v33, rfl, SS87⟩
        obtain ⟨a33, c33, rfl, _, _⟩ := Ints.val SS87
        refine ⟨_, rfl, SS87.p3.t1, fun aa87 HH87 => ?_⟩
        clear HH86
        clear SS79
        refine N_val rfl (want0 rfl) rfl rfl HH87 (fun ww87 SN => Y_build (cs := (⟨IntKind.i64.wrap (1 + within x.kind 9), within x.src 4, within x.dst 4, within x.id 5, within x.line 4, IntKind.i64.wrap (within x.ptr 5 - 1), within x.state 3, x.flag, x.data.take 4⟩ : Pkt).cells (.slice a33 (x.data.take 4).length c33)) HH87 rfl st_api_Packet rfl rfl) (fun aa88 HH88 => ?_)
        clear HH87
        refine N_do0 rfl (want0 rfl) rfl HH88 (M_storeS HH88 rfl rfl rfl SS87.p1 st_api_Packet.size rfl rfl (one_pkt (⟨IntKind.i64.wrap (1 + within x.kind 9), within x.src 4, within x.dst 4, within x.id 5, within x.line 4, IntKind.i64.wrap (within x.ptr 5 - 1), within x.state 3, x.flag, x.data.take 4⟩ : Pkt) a33 (x.data.take 4).length c33)) ?_
        rintro _ ww89 ⟨SS89, _⟩
        refine ⟨SS89.p3.t1, fun aa89 HH89 => ?_⟩
        clear HH88
        clear SS87
        refine N_end (t_norm ?_)
        exact ⟨_, ⟨IntKind.i64.wrap (1 + within x.kind 9), within x.src 4, within x.dst 4, within x.id 5, within x.line 4, IntKind.i64.wrap (within x.ptr 5 - 1), within x.state 3, x.flag, x.data.take 4⟩, a33, c33, HH89.sub rfl, by show (x.data.take 4).length ≤ 6; rw [List.length_take]; omega, SS89.p2.p3.p3.p3⟩
    ·
      refine N_do rfl (want0 rfl) rfl rfl HH22 (M_alloc HH22 rfl st_api_Packet.zero SS4) ?_
      rintro _ ww90 ⟨b5, rfl, SS90, _⟩
      refine ⟨SS90.p2.t1, fun aa90 HH90 => ?_⟩
      clear HH22
      clear SS4
      refine N_call rfl (want0 rfl) rfl rfl rfl Try.func17 (by kernel_rfl) rfl HH90 (within_ok (x.kind) (9) (by omega)) rfl ?_
      rintro e ww91 ⟨rfl, rfl⟩
      refine ⟨_, rfl, SS90.p2.t1, fun aa91 HH91 => ?_⟩
      clear HH90
      refine N_val rfl (want0 rfl) rfl rfl HH91 (fun ww90 SN => Y_add (r := (IntKind.i64.wrap (1 + within x.kind 9))) HH91 rfl rfl rfl (rfl)) (fun aa92 HH92 => ?_)
      clear HH91
      refine N_call rfl (want0 rfl) rfl rfl rfl Try.func17 (by kernel_rfl) rfl HH92 (within_ok (x.src) (4) (by omega)) rfl ?_
      rintro e ww93 ⟨rfl, rfl⟩
      refine ⟨_, rfl, SS90.p2.t1, fun aa93 HH93 => ?_⟩
      clear HH92
      refine N_call rfl (want0 rfl) rfl rfl rfl Try.func17 (by kernel_rfl) rfl HH93 (within_ok (x.dst) (4) (by omega)) rfl ?_
      rintro e ww94 ⟨rfl, rfl⟩
      refine ⟨_, rfl, SS90.p2.t1, fun aa94 HH94 => ?_⟩
      clear HH93
      refine N_call rfl (want0 rfl) rfl rfl rfl Try.func17 (by kernel_rfl) rfl HH94 (within_ok (x.id) (5) (by omega)) rfl ?_
      rintro e ww95 ⟨rfl, rfl⟩
      refine ⟨_, rfl, SS90.p2.t1, fun aa95 HH95 => ?_⟩
      clear HH94
      refine N_call rfl (want0 rfl) rfl rfl rfl Try.func17 (by kernel_rfl) rfl HH95 (within_ok (x.line) (4) (by omega)) rfl ?_
      rintro e ww96 ⟨rfl, rfl⟩
      refine ⟨_, rfl, SS90.p2.t1, fun aa96 HH96 => ?_⟩
      clear HH95
      refine N_call rfl (want0 rfl) rfl rfl rfl Try.func17 (by kernel_rfl) rfl HH96 (within_ok (x.ptr) (5) (by omega)) rfl ?_
      rintro e ww97 ⟨rfl, rfl⟩
      refine ⟨_, rfl, SS90.p2.t1, fun aa97 HH97 => ?_⟩
      clear HH96
      refine N_val rfl (want0 rfl) rfl rfl HH97 (fun ww90 SN => Y_sub (r := (IntKind.i64.wrap (within x.ptr 5 - 1))) HH97 rfl rfl rfl (rfl)) (fun aa98 HH98 => ?_)
      clear HH97
      refine N_call rfl (want0 rfl) rfl rfl rfl Try.func17 (by kernel_rfl) rfl HH98 (within_ok (x.state) (3) (by omega)) rfl ?_
      rintro e ww99 ⟨rfl, rfl⟩
      refine ⟨_, rfl, SS90.p2.t1, fun aa99 HH99 => ?_⟩
      clear HH98
      refine N_call rfl (want0 rfl) rfl rfl rfl Try.func51 (by kernel_rfl) rfl HH99 (cut_ok (hx _ SS90.p1.p2.tail.tail.tail) 4 (by omega) SS90) rfl ?_
      rintro e ww100 ⟨v33, rfl, SS100⟩
      obtain ⟨a33, c33, rfl, _, _⟩ := Ints.val SS100
      refine ⟨_, rfl, SS100.p3.t1, fun aa100 HH100 => ?_⟩
      clear HH99
      clear SS90
      refine N_val rfl (want0 rfl) rfl rfl HH100 (fun ww100 SN => Y_build (cs := (⟨IntKind.i64.wrap (1 + within x.kind 9), within x.src 4, within x.dst 4, within x.id 5, within x.line 4, IntKind.i64.wrap (within x.ptr 5 - 1), within x.state 3, x.flag, x.data.take 4⟩ : Pkt).cells (.slice a33 (x.data.take 4).length c33)) HH100 rfl st_api_Packet rfl rfl) (fun aa101 HH101 => ?_)
      clear HH100
      refine N_do0 rfl (want0 rfl) rfl HH101 (M_storeS HH101 rfl rfl rfl SS100.p1 st_api_Packet.size rfl rfl (one_pkt (⟨IntKind.i64.wrap (1 + within x.kind 9), within x.src 4, within x.dst 4, within x.id 5, within x.line 4, IntKind.i64.wrap (within x.ptr 5 - 1), within x.state 3, x.flag, x.data.take 4⟩ : Pkt) a33 (x.data.take 4).length c33)) ?_
      rintro _ ww102 ⟨SS102, _⟩
      refine ⟨SS102.p3.t1, fun aa102 HH102 => ?_⟩
      clear HH101
      clear SS100
      refine N_end (t_norm ?_)
      exact ⟨_, ⟨IntKind.i64.wrap (1 + within x.kind 9), within x.src 4, within x.dst 4, within x.id 5, within x.line 4, IntKind.i64.wrap (within x.ptr 5 - 1), within x.state 3, x.flag, x.data.take 4⟩, a33, c33, HH102.sub rfl, by show (x.data.take 4).length ≤ 6; rw [List.length_take]; omega, SS102.p2.p3.p3.p3⟩
  clear HH3
  clear SS3
  rintro aa103 ww103 ⟨b5, ⟨k0, k1, k2, k3, k4, k5, k6, kf, kd⟩, ka, kc, HH103, hkd, SS103⟩
  refine c_cut (fun a wx => ∃ (b5 : Nat) (pk : Pkt) (ka : Option Addr) (kc : Nat), Fr a 85 [(1, VI how), (2, VPt b2 0), (4, VPt b4 0), (5, VPt b5 0)] ∧ pk.data.length ≤ 6 ∧ Sat wx (cel b5 43 (pk.cells (.slice ka pk.data.length kc)) :: Ints (.slice ka pk.data.length kc) pk.data :: cel b2 43 (x.cells (.slice va x.data.length vc)) :: cel b4 43 (Pkt.zero.cells VNil) :: l)) ?_ ?_
  ·
    refine wp_seq_k fun KK104 hKK104 => ?_
    refine wp_region_lit ?_
    refine LG_val (want0 rfl) rfl rfl HH103 (Y_mov HH103 rfl rfl) (fun aa105 HH105 => ?_)
    clear HH103
    refine LG_call (want0 rfl) rfl rfl rfl Try.func17 (by kernel_rfl) rfl HH105 (within_ok (how) (40) (by omega)) rfl ?_
    rintro e ww106 ⟨rfl, rfl⟩
    refine ⟨_, rfl, fun aa106 HH106 => ?_⟩
    clear HH105
    refine L_end (t_norm (hKK104 _ _ ?_))
    refine wp_block ?_
    refine wp_seq_k fun KK107 hKK107 => ?_
    refine wp_region_lit ?_
    by_cases e31 : within how 40 = 31
    ·
      refine LG_val (want0 rfl) rfl rfl HH106 (Y_yes (Y_eql HH106 rfl rfl rfl) (e31)) (fun aa108 HH108 => ?_)
      clear HH106
      refine LG_val (want0 rfl) rfl rfl HH108 (Y_asg HH108 rfl rfl) (fun aa109 HH109 => ?_)
      clear HH108
      refine L_end (t_norm (hKK107 _ _ ?_))
      refine c_yes HH109 rfl ?_
      refine wp_region_lit ?_
      refine LG_val (want0 rfl) rfl rfl HH109 (Y_fad (off := 0) (r := 0) HH109 rfl (by kernel_rfl) rfl rfl) (fun aa110 HH110 => ?_)
      clear HH109
      refine LG_val (want0 rfl) rfl rfl HH110 (Y_load HH110 rfl (by kernel_rfl) rfl (SS103.p2.cell 0)) (fun aa111 HH111 => ?_)
      clear HH110
      refine LG_val (want0 rfl) rfl rfl HH111 (Y_fad (off := 0) (r := 0) HH111 rfl (by kernel_rfl) rfl rfl) (fun aa112 HH112 => ?_)
      clear HH111
      refine LG_do0 (want0 rfl) rfl HH112 (M_store HH112 rfl (by kernel_rfl) rfl rfl rfl rfl SS103 rfl rfl) ?_
      rintro _ ww113 ⟨SS113, _⟩ aa113 HH113
      clear HH112
      clear SS103
      refine L_end (b_norm (t_norm ?_))
      exact ⟨b5, ⟨x.kind, k1, k2, k3, k4, k5, k6, kf, kd⟩, ka, kc, HH113.sub rfl, hkd, SS113.p3.p3.p3.p3⟩
    ·
      refine LG_val (want0 rfl) rfl rfl HH106 (Y_no (Y_eql HH106 rfl rfl rfl) (e31)) (fun aa114 HH114 => ?_)
      clear HH106
      refine LG_val (want0 rfl) rfl rfl HH114 (Y_asg HH114 rfl rfl) (fun aa115 HH115 => ?_)
      clear HH114
      refine L_end (t_norm (hKK107 _ _ ?_))
      refine c_no HH115 rfl ?_
      refine wp_seq_k fun KK116 hKK116 => ?_
      refine wp_region_lit ?_
      by_cases e32 : within how 40 = 32
      ·
        refine LG_val (want0 rfl) rfl rfl HH115 (Y_yes (Y_eql HH115 rfl rfl rfl) (e32)) (fun aa117 HH117 => ?_)
        clear HH115
        refine LG_val (want0 rfl) rfl rfl HH117 (Y_asg HH117 rfl rfl) (fun aa118 HH118 => ?_)
        clear HH117
        refine L_end (t_norm (hKK116 _ _ ?_))
        refine c_yes HH118 rfl ?_
        refine wp_region_lit ?_
        refine LG_val (want0 rfl) rfl rfl HH118 (Y_fad (off := 1) (r := 1) HH118 rfl (by kernel_rfl) rfl rfl) (fun aa119 HH119 => ?_)
        clear HH118
        refine LG_val (want0 rfl) rfl rfl HH119 (Y_load HH119 rfl (by kernel_rfl) rfl (SS103.p2.cell 1)) (fun aa120 HH120 => ?_)
        clear HH119
        refine LG_val (want0 rfl) rfl rfl HH120 (Y_fad (off := 1) (r := 1) HH120 rfl (by kernel_rfl) rfl rfl) (fun aa121 HH121 => ?_)
        clear HH120
        refine LG_do0 (want0 rfl) rfl HH121 (M_store HH121 rfl (by kernel_rfl) rfl rfl rfl rfl SS103 rfl rfl) ?_
        rintro _ ww122 ⟨SS122, _⟩ aa122 HH122
        clear HH121
        clear SS103
        refine L_end (b_norm (t_norm ?_))
        exact ⟨b5, ⟨k0, x.src, k2, k3, k4, k5, k6, kf, kd⟩, ka, kc, HH122.sub rfl, hkd, SS122.p3.p3.p3.p3⟩
      ·
        refine LG_val (want0 rfl) rfl rfl HH115 (Y_no (Y_eql HH115 rfl rfl rfl) (e32)) (fun aa123 HH123 => ?_)
        clear HH115
        refine LG_val (want0 rfl) rfl rfl HH123 (Y_asg HH123 rfl rfl) (fun aa124 HH124 => ?_)
        clear HH123
        refine L_end (t_norm (hKK116 _ _ ?_))
        refine c_no HH124 rfl ?_
        refine wp_seq_k fun KK125 hKK125 => ?_
        refine wp_region_lit ?_
        by_cases e33 : within how 40 = 33
        ·
          refine LG_val (want0 rfl) rfl rfl HH124 (Y_yes (Y_eql HH124 rfl rfl rfl) (e33)) (fun aa126 HH126 => ?_)
          clear HH124
          refine LG_val (want0 rfl) rfl rfl HH126 (Y_asg HH126 rfl rfl) (fun aa127 HH127 => ?_)
          clear HH126
          refine L_end (t_norm (hKK125 _ _ ?_))
          refine c_yes HH127 rfl ?_
          refine wp_region_lit ?_
          refine LG_val (want0 rfl) rfl rfl HH127 (Y_fad (off := 2) (r := 2) HH127 rfl (by kernel_rfl) rfl rfl) (fun aa128 HH128 => ?_)
          clear HH127
          refine LG_val (want0 rfl) rfl rfl HH128 (Y_load HH128 rfl (by kernel_rfl) rfl (SS103.p2.cell 2)) (fun aa129 HH129 => ?_)
          clear HH128
          refine LG_val (want0 rfl) rfl rfl HH129 (Y_fad (off := 2) (r := 2) HH129 rfl (by kernel_rfl) rfl rfl) (fun aa130 HH130 => ?_)
          clear HH129
          refine LG_do0 (want0 rfl) rfl HH130 (M_store HH130 rfl (by kernel_rfl) rfl rfl rfl rfl SS103 rfl rfl) ?_
          rintro _ ww131 ⟨SS131, _⟩ aa131 HH131
          clear HH130
          clear SS103
          refine L_end (b_norm (t_norm ?_))
          exact ⟨b5, ⟨k0, k1, x.dst, k3, k4, k5, k6, kf, kd⟩, ka, kc, HH131.sub rfl, hkd, SS131.p3.p3.p3.p3⟩
        ·
          refine LG_val (want0 rfl) rfl rfl HH124 (Y_no (Y_eql HH124 rfl rfl rfl) (e33)) (fun aa132 HH132 => ?_)
          clear HH124
          refine LG_val (want0 rfl) rfl rfl HH132 (Y_asg HH132 rfl rfl) (fun aa133 HH133 => ?_)
          clear HH132
          refine L_end (t_norm (hKK125 _ _ ?_))
          refine c_no HH133 rfl ?_
          refine wp_seq_k fun KK134 hKK134 => ?_
          refine wp_region_lit ?_
          by_cases e34 : within how 40 = 34
          ·
            refine LG_val (want0 rfl) rfl rfl HH133 (Y_yes (Y_eql HH133 rfl rfl rfl) (e34)) (fun aa135 HH135 => ?_)
            clear HH133
            refine LG_val (want0 rfl) rfl rfl HH135 (Y_asg HH135 rfl rfl) (fun aa136 HH136 => ?_)
            clear HH135
            refine L_end (t_norm (hKK134 _ _ ?_))
            refine c_yes HH136 rfl ?_
            refine wp_region_lit ?_
            refine LG_val (want0 rfl) rfl rfl HH136 (Y_fad (off := 3) (r := 3) HH136 rfl (by kernel_rfl) rfl rfl) (fun aa137 HH137 => ?_)
            clear HH136
            refine LG_val (want0 rfl) rfl rfl HH137 (Y_load HH137 rfl (by kernel_rfl) rfl (SS103.p2.cell 3)) (fun aa138 HH138 => ?_)
            clear HH137
            refine LG_val (want0 rfl) rfl rfl HH138 (Y_fad (off := 3) (r := 3) HH138 rfl (by kernel_rfl) rfl rfl) (fun aa139 HH139 => ?_)
            clear HH138
            refine LG_do0 (want0 rfl) rfl HH139 (M_store HH139 rfl (by kernel_rfl) rfl rfl rfl rfl SS103 rfl rfl) ?_
            rintro _ ww140 ⟨SS140, _⟩ aa140 HH140
            clear HH139
            clear SS103
            refine L_end (b_norm (t_norm ?_))
            exact ⟨b5, ⟨k0, k1, k2, x.id, k4, k5, k6, kf, kd⟩, ka, kc, HH140.sub rfl, hkd, SS140.p3.p3.p3.p3⟩
          ·
            refine LG_val (want0 rfl) rfl rfl HH133 (Y_no (Y_eql HH133 rfl rfl rfl) (e34)) (fun aa141 HH141 => ?_)
            clear HH133
            refine LG_val (want0 rfl) rfl rfl HH141 (Y_asg HH141 rfl rfl) (fun aa142 HH142 => ?_)
            clear HH141
            refine L_end (t_norm (hKK134 _ _ ?_))
            refine c_no HH142 rfl ?_
            refine wp_seq_k fun KK143 hKK143 => ?_
            refine wp_region_lit ?_
            by_cases e35 : within how 40 = 35
            ·
              refine LG_val (want0 rfl) rfl rfl HH142 (Y_yes (Y_eql HH142 rfl rfl rfl) (e35)) (fun aa144 HH144 => ?_)
              clear HH142
              refine LG_val (want0 rfl) rfl rfl HH144 (Y_asg HH144 rfl rfl) (fun aa145 HH145 => ?_)
              clear HH144
              refine L_end (t_norm (hKK143 _ _ ?_))
              refine c_yes HH145 rfl ?_
              refine wp_region_lit ?_
              refine LG_val (want0 rfl) rfl rfl HH145 (Y_fad (off := 4) (r := 4) HH145 rfl (by kernel_rfl) rfl rfl) (fun aa146 HH146 => ?_)
              clear HH145
              refine LG_val (want0 rfl) rfl rfl HH146 (Y_load HH146 rfl (by kernel_rfl) rfl (SS103.p2.cell 4)) (fun aa147 HH147 => ?_)
              clear HH146
              refine LG_val (want0 rfl) rfl rfl HH147 (Y_fad (off := 4) (r := 4) HH147 rfl (by kernel_rfl) rfl rfl) (fun aa148 HH148 => ?_)
              clear HH147
              refine LG_do0 (want0 rfl) rfl HH148 (M_store HH148 rfl (by kernel_rfl) rfl rfl rfl rfl SS103 rfl rfl) ?_
              rintro _ ww149 ⟨SS149, _⟩ aa149 HH149
              clear HH148
              clear SS103
              refine L_end (b_norm (t_norm ?_))
              exact ⟨b5, ⟨k0, k1, k2, k3, x.line, k5, k6, kf, kd⟩, ka, kc, HH149.sub rfl, hkd, SS149.p3.p3.p3.p3⟩
            ·
              refine LG_val (want0 rfl) rfl rfl HH142 (Y_no (Y_eql HH142 rfl rfl rfl) (e35)) (fun aa150 HH150 => ?_)
              clear HH142
              refine LG_val (want0 rfl) rfl rfl HH150 (Y_asg HH150 rfl rfl) (fun aa151 HH151 => ?_)
              clear HH150
              refine L_end (t_norm (hKK143 _ _ ?_))
              refine c_no HH151 rfl ?_
              refine wp_seq_k fun KK152 hKK152 => ?_
              refine wp_region_lit ?_
              by_cases e36 : within how 40 = 36
              ·
                refine LG_val (want0 rfl) rfl rfl HH151 (Y_yes (Y_eql HH151 rfl rfl rfl) (e36)) (fun aa153 HH153 => ?_)
                clear HH151
                refine LG_val (want0 rfl) rfl rfl HH153 (Y_asg HH153 rfl rfl) (fun aa154 HH154 => ?_)
                clear HH153
                refine L_end (t_norm (hKK152 _ _ ?_))
                refine c_yes HH154 rfl ?_
                refine wp_region_lit ?_
                refine LG_val (want0 rfl) rfl rfl HH154 (Y_fad (off := 5) (r := 5) HH154 rfl (by kernel_rfl) rfl rfl) (fun aa155 HH155 => ?_)
                clear HH154
                refine LG_val (want0 rfl) rfl rfl HH155 (Y_load HH155 rfl (by kernel_rfl) rfl (SS103.p2.cell 5)) (fun aa156 HH156 => ?_)
                clear HH155
                refine LG_val (want0 rfl) rfl rfl HH156 (Y_fad (off := 5) (r := 5) HH156 rfl (by kernel_rfl) rfl rfl) (fun aa157 HH157 => ?_)
                clear HH156
                refine LG_do0 (want0 rfl) rfl HH157 (M_store HH157 rfl (by kernel_rfl) rfl rfl rfl rfl SS103 rfl rfl) ?_
                rintro _ ww158 ⟨SS158, _⟩ aa158 HH158
                clear HH157
                clear SS103
                refine L_end (b_norm (t_norm ?_))
                exact ⟨b5, ⟨k0, k1, k2, k3, k4, x.ptr, k6, kf, kd⟩, ka, kc, HH158.sub rfl, hkd, SS158.p3.p3.p3.p3⟩
              ·
                refine LG_val (want0 rfl) rfl rfl HH151 (Y_no (Y_eql HH151 rfl rfl rfl) (e36)) (fun aa159 HH159 => ?_)
                clear HH151
                refine LG_val (want0 rfl) rfl rfl HH159 (Y_asg HH159 rfl rfl) (fun aa160 HH160 => ?_)
                clear HH159
                refine L_end (t_norm (hKK152 _ _ ?_))
                refine c_no HH160 rfl ?_
                refine wp_seq_k fun KK161 hKK161 => ?_
                refine wp_region_lit ?_
                by_cases e37 : within how 40 = 37
                ·
                  refine LG_val (want0 rfl) rfl rfl HH160 (Y_yes (Y_eql HH160 rfl rfl rfl) (e37)) (fun aa162 HH162 => ?_)
                  clear HH160
                  refine LG_val (want0 rfl) rfl rfl HH162 (Y_asg HH162 rfl rfl) (fun aa163 HH163 => ?_)
                  clear HH162
                  refine L_end (t_norm (hKK161 _ _ ?_))
                  refine c_yes HH163 rfl ?_
                  refine wp_region_lit ?_
                  refine LG_val (want0 rfl) rfl rfl HH163 (Y_fad (off := 6) (r := 6) HH163 rfl (by kernel_rfl) rfl rfl) (fun aa164 HH164 => ?_)
                  clear HH163
                  refine LG_val (want0 rfl) rfl rfl HH164 (Y_load HH164 rfl (by kernel_rfl) rfl (SS103.p2.cell 6)) (fun aa165 HH165 => ?_)
                  clear HH164
                  refine LG_val (want0 rfl) rfl rfl HH165 (Y_fad (off := 6) (r := 6) HH165 rfl (by kernel_rfl) rfl rfl) (fun aa166 HH166 => ?_)
                  clear HH165
                  refine LG_do0 (want0 rfl) rfl HH166 (M_store HH166 rfl (by kernel_rfl) rfl rfl rfl rfl SS103 rfl rfl) ?_
                  rintro _ ww167 ⟨SS167, _⟩ aa167 HH167
                  clear HH166
                  clear SS103
                  refine L_end (b_norm (t_norm ?_))
                  exact ⟨b5, ⟨k0, k1, k2, k3, k4, k5, x.state, kf, kd⟩, ka, kc, HH167.sub rfl, hkd, SS167.p3.p3.p3.p3⟩
                ·
                  refine LG_val (want0 rfl) rfl rfl HH160 (Y_no (Y_eql HH160 rfl rfl rfl) (e37)) (fun aa168 HH168 => ?_)
                  clear HH160
                  refine LG_val (want0 rfl) rfl rfl HH168 (Y_asg HH168 rfl rfl) (fun aa169 HH169 => ?_)
                  clear HH168
                  refine L_end (t_norm (hKK161 _ _ ?_))
                  refine c_no HH169 rfl ?_
                  refine wp_seq_k fun KK170 hKK170 => ?_
                  refine wp_region_lit ?_
                  by_cases e38 : within how 40 = 38
                  ·
                    refine LG_val (want0 rfl) rfl rfl HH169 (Y_yes (Y_eql HH169 rfl rfl rfl) (e38)) (fun aa171 HH171 => ?_)
                    clear HH169
                    refine LG_val (want0 rfl) rfl rfl HH171 (Y_asg HH171 rfl rfl) (fun aa172 HH172 => ?_)
                    clear HH171
                    refine L_end (t_norm (hKK170 _ _ ?_))
                    refine c_yes HH172 rfl ?_
                    
                    refine wp_region_lit ?_
                    refine LG_val (want0 rfl) rfl rfl HH172 (Y_fad (off := 8) (r := 8) HH172 rfl (by kernel_rfl) rfl rfl) (fun aa173 HH173 => ?_)
                    clear HH172
                    refine LG_val (want0 rfl) rfl rfl HH173 (Y_load HH173 rfl (by kernel_rfl) rfl (SS103.p2.cell 8)) (fun aa174 HH174 => ?_)
                    clear HH173
                    refine LG_call (want0 rfl) rfl rfl rfl Try.func51 (by kernel_rfl) rfl HH174 (cut_ok (hx _ SS103.p3.p3.p3.p3.tail.tail.tail.tail) 6 (by omega) SS103) rfl ?_
                    rintro e ww175 ⟨v76, rfl, SS175⟩
                    obtain ⟨a76, c76, rfl, _, _⟩ := Ints.val SS175
                    refine ⟨_, rfl, fun aa175 HH175 => ?_⟩
                    clear HH174
                    clear SS103
                    refine LG_val (want0 rfl) rfl rfl HH175 (Y_fad (off := 8) (r := 8) HH175 rfl (by kernel_rfl) rfl rfl) (fun aa176 HH176 => ?_)
                    clear HH175
                    refine LG_do0 (want0 rfl) rfl HH176 (M_store HH176 rfl (by kernel_rfl) rfl rfl rfl rfl SS175.p1 rfl rfl) ?_
                    rintro _ ww177 ⟨SS177, _⟩ aa177 HH177
                    clear HH176
                    clear SS175
                    refine L_end (b_norm (t_norm ?_))
                    exact ⟨b5, ⟨k0, k1, k2, k3, k4, k5, k6, kf, x.data.take 6⟩, _, _, HH177.sub rfl, by rw [List.length_take]; omega, SS177.p4.p4.p3.p3.p4.tail⟩
                  ·
                    refine LG_val (want0 rfl) rfl rfl HH169 (Y_no (Y_eql HH169 rfl rfl rfl) (e38)) (fun aa178 HH178 => ?_)
                    clear HH169
                    refine LG_val (want0 rfl) rfl rfl HH178 (Y_asg HH178 rfl rfl) (fun aa179 HH179 => ?_)
                    clear HH178
                    refine L_end (t_norm (hKK170 _ _ ?_))
                    refine c_no HH179 rfl ?_
                    refine wp_seq_k fun KK180 hKK180 => ?_
                    refine wp_region_lit ?_
                    by_cases e39 : within how 40 = 39
                    ·
                      refine LG_val (want0 rfl) rfl rfl HH179 (Y_yes (Y_eql HH179 rfl rfl rfl) (e39)) (fun aa181 HH181 => ?_)
                      clear HH179
                      refine LG_val (want0 rfl) rfl rfl HH181 (Y_asg HH181 rfl rfl) (fun aa182 HH182 => ?_)
                      clear HH181
                      refine L_end (t_norm (hKK180 _ _ ?_))
                      refine c_yes HH182 rfl ?_
                      refine wp_region_lit ?_
                      refine LG_val (want0 rfl) rfl rfl HH182 (Y_fad (off := 3) (r := 3) HH182 rfl (by kernel_rfl) rfl rfl) (fun aa183 HH183 => ?_)
                      clear HH182
                      refine LG_val (want0 rfl) rfl rfl HH183 (Y_load HH183 rfl (by kernel_rfl) rfl (SS103.p2.cell 3)) (fun aa184 HH184 => ?_)
                      clear HH183
                      refine LG_call (want0 rfl) rfl rfl rfl Try.func17 (by kernel_rfl) rfl HH184 (within_ok (x.id) (4096) (by omega)) rfl ?_
                      rintro e ww185 ⟨rfl, rfl⟩
                      refine ⟨_, rfl, fun aa185 HH185 => ?_⟩
                      clear HH184
                      refine LG_val (want0 rfl) rfl rfl HH185 (Y_fad (off := 3) (r := 3) HH185 rfl (by kernel_rfl) rfl rfl) (fun aa186 HH186 => ?_)
                      clear HH185
                      refine LG_do0 (want0 rfl) rfl HH186 (M_store HH186 rfl (by kernel_rfl) rfl rfl rfl rfl SS103 rfl rfl) ?_
                      rintro _ ww187 ⟨SS187, _⟩ aa187 HH187
                      clear HH186
                      clear SS103
                      refine L_end (b_norm (t_norm ?_))
                      exact ⟨b5, ⟨k0, k1, k2, within x.id 4096, k4, k5, k6, kf, kd⟩, ka, kc, HH187.sub rfl, hkd, SS187.p3.p3.p3.p3⟩
                    ·
                      refine LG_val (want0 rfl) rfl rfl HH179 (Y_no (Y_eql HH179 rfl rfl rfl) (e39)) (fun aa188 HH188 => ?_)
                      clear HH179
                      refine LG_val (want0 rfl) rfl rfl HH188 (Y_asg HH188 rfl rfl) (fun aa189 HH189 => ?_)
                      clear HH188
                      refine L_end (t_norm (hKK180 _ _ ?_))
                      refine c_no HH189 rfl ?_
                      refine wp_skip (b_norm (t_norm ?_))
                      exact ⟨b5, ⟨k0, k1, k2, k3, k4, k5, k6, kf, kd⟩, ka, kc, HH189.sub rfl, hkd, SS103.p3.p3.p3.p3⟩
  clear HH103
  clear SS103
  rintro aa190 ww190 ⟨b5, ⟨k0, k1, k2, k3, k4, k5, k6, kf, kd⟩, ka, kc, HH190, hkd, SS190⟩
  refine wp_seq_k fun KK191 hKK191 => ?_
  refine wp_region_lit ?_
  refine LG_val (want0 rfl) rfl rfl HH190 (Y_loadS HH190 rfl rfl SS190 st_api_Packet.und st_api_Packet.size) (fun aa192 HH192 => ?_)
  clear HH190
  refine LG_do0 (want0 rfl) rfl HH192 (M_storeS HH192 rfl rfl rfl SS190.p3 st_api_Packet.size rfl rfl (one_pkt (⟨k0, k1, k2, k3, k4, k5, k6, kf, kd⟩ : Pkt) ka kd.length kc)) ?_
  rintro _ ww193 ⟨SS193, _⟩ aa193 HH193
  clear HH192
  clear SS190
  refine L_end (t_norm (hKK191 _ _ ?_))
  refine wp_ret (retS rfl HH193 rfl SS193 st_api_Packet.und st_api_Packet.size ?_)
  exact ⟨⟨k0, k1, k2, k3, k4, k5, k6, kf, kd⟩, ka, kc, rfl, hkd, SS193.p3.p1.p2.p3.d1.d1.d1⟩

set_option maxRecDepth 100000 in
theorem wakes03_ok {w : World} {l : List HProp} (S : Sat w l) : Calls Try.prog 77 #[] w fun e w' => e = .returned (VB true) ∧ Sat w' l := by
  refine enter (n := 15) Try.func77 rfl [] rfl rfl fun aa0 HH0 => ?_
  refine wp_seq_k fun KK1 hKK1 => ?_
  refine wp_region_lit ?_
  refine LG_val (want0 rfl) rfl rfl HH0 (Y_asg HH0 rfl rfl) (fun aa2 HH2 => ?_)
  clear HH0
  refine L_end (t_norm (hKK1 _ _ ?_))
  refine wp_seq_k fun KK3 hKK3 => ?_
  refine wp_region_lit ?_
  refine LG_val (want0 rfl) rfl rfl HH2 (Y_build (cs := Pkt.cells ⟨1, 0, 0, 0, 0, 0, 0, false, []⟩ VNil) HH2 rfl st_api_Packet rfl rfl) (fun aa4 HH4 => ?_)
  clear HH2
  refine LG_call (want0 rfl) rfl rfl rfl Try.func69 (by kernel_rfl) rfl HH4 (pack_ok ⟨1, 0, 0, 0, 0, 0, 0, false, []⟩ (by decide) (fun _ _ => Rd.nil _ _) S) rfl ?_
  rintro e ww5 ⟨v5, rfl, SS5⟩
  obtain ⟨a5, c5, rfl, _, _⟩ := Bys.val SS5
  have hl5 : (ppack ⟨1, 0, 0, 0, 0, 0, 0, false, []⟩).length = 12 := rfl
  refine ⟨_, rfl, fun aa5 HH5 => ?_⟩
  clear HH4
  clear S
  refine LG_val (want0 rfl) rfl rfl HH5 (Y_mov HH5 rfl rfl) (fun aa6 HH6 => ?_)
  clear HH5
  refine LG_val (want0 rfl) rfl rfl HH6 (Y_ext HH6 rfl rfl rfl) (fun aa7 HH7 => ?_)
  clear HH6
  refine LG_val (want0 rfl) rfl rfl HH7 (Y_ext HH7 rfl rfl rfl) (fun aa8 HH8 => ?_)
  clear HH7
  refine LG_val (want0 rfl) rfl rfl HH8 (Y_asg HH8 rfl rfl) (fun aa9 HH9 => ?_)
  clear HH8
  refine LG_val (want0 rfl) rfl rfl HH9 (Y_asg HH9 rfl rfl) (fun aa10 HH10 => ?_)
  clear HH9
  refine L_end (t_norm (hKK3 _ _ ?_))
  refine wp_seq_k fun KK11 hKK11 => ?_
  refine wp_region_lit ?_
  refine LG_val (want0 rfl) rfl rfl HH10 (Y_mov HH10 rfl rfl) (fun aa12 HH12 => ?_)
  clear HH10
  refine LG_val (want0 rfl) rfl rfl HH12 (Y_yes (Y_eql HH12 rfl rfl rfl) (rfl)) (fun aa13 HH13 => ?_)
  clear HH12
  refine LG_val (want0 rfl) rfl rfl HH13 (Y_mov HH13 rfl rfl) (fun aa14 HH14 => ?_)
  clear HH13
  refine LG_val (HH14.want rfl rfl rfl) rfl rfl HH14 (Y_mov HH14 rfl rfl) (fun aa15 HH15 => ?_)
  clear HH14
  refine LG_val (HH15.want rfl rfl rfl) rfl rfl HH15 (Y_lenS HH15 rfl (by kernel_rfl) rfl) (fun aa16 HH16 => ?_)
  clear HH15
  refine LG_val (HH16.want rfl rfl rfl) rfl rfl HH16 (Y_yes (Y_eql HH16 rfl rfl rfl) (by rw [hl5]; rfl)) (fun aa17 HH17 => ?_)
  clear HH16
  refine LG_val (want0 rfl) rfl rfl HH17 (Y_pickT HH17 rfl rfl rfl) (fun aa18 HH18 => ?_)
  clear HH17
  refine LG_val (want0 rfl) rfl rfl HH18 (Y_asg HH18 rfl rfl) (fun aa19 HH19 => ?_)
  clear HH18
  refine L_end (t_norm (hKK11 _ _ ?_))
  refine wp_ret (ret1 rfl HH19 rfl ?_)
  exact ⟨rfl, SS5.tail⟩
end Go.Proofs.Ytaekiecidbhjhaa
