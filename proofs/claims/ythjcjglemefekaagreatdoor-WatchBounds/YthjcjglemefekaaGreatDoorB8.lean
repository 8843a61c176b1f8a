/- WatchBounds: what its function answers, by ways. -/
import Derived.Test.YthjcjglemefekaaGreatDoorB7
import Derived.Test.YthjcjglemefekaaGreatDoorWorks
namespace Go.Proofs
open Go Go.Am
theorem F4 : EE.F 4 = afOf Tryz.f4 := by kernel_rfl
theorem works_ok (H : AHeap) : CallOK EE Tryz.prog 10 [] H (· = .ret (.bool true) H) := by
  intro ι w vs hr _ ha
  simp only [VRels] at ha; subst ha
  exact Begins.of_calls (works_calls w) (Enters.run (P := Tryz.prog) ⟨Tryz.f10, Tryz.func10, by kernel_rfl, by kernel_rfl⟩ #[] w) hr rfl
theorem heavy4 {H : AHeap} {more : Int} {n : Nat} (f1 : ilt more (-1) = false) (f2 : ilt 1 more = false) (f3 : ilt 0 more = false) (hadd : fwrap .i64 (4096 + more) = .ofNat n) (hsub : fwrap .i64 (.ofNat n - 0) = .ofNat n) (hn : 1 ≤ n) (hm : n ≤ 4096) : runBody EE (Fsem EE Tryz.prog) 4 [.int .i64 more, .int .i64 0] .off H fun _ r => ∃ H', r = .ret (.bool true) H' := by
  refine body_of EE_ok (a := ⟨100, [.cell 4 4], _⟩) F4 rfl ?_
  refine seq_of EE_ok ?_
  -- region 0
  refine region_of EE_ok rfl ?_
  refine o_eff (d := 4) rfl rfl rfl rfl (e_alloc (z := [.bool false]) (by kernel_rfl)) ?_
  refine seq_of EE_ok ?_
  refine seq_of EE_ok ?_
  -- region 1
  refine region_of EE_ok rfl ?_
  refine o_val (d := 16) rfl rfl rfl rfl ?_
  refine o_val (d := 17) rfl rfl rfl (v_lss (r := false) rfl rfl f1) ?_
  refine o_val (d := 18) rfl rfl rfl rfl ?_
  refine o_val (d := 19) rfl rfl rfl rfl ?_
  refine o_val (d := 20) rfl rfl rfl (v_gtr (r := false) rfl rfl f2) ?_
  refine o_val (d := 21) rfl rfl rfl rfl ?_
  refine o_val (d := 22) rfl rfl rfl rfl ?_
  refine o_val (d := 23) rfl rfl rfl rfl ?_
  refine o_val (d := 24) rfl rfl rfl (v_lss (r := false) rfl rfl rfl) ?_
  refine o_val (d := 25) rfl rfl rfl rfl ?_
  refine o_val (d := 26) rfl rfl rfl rfl ?_
  refine o_val (d := 27) rfl rfl rfl rfl ?_
  refine o_val (d := 28) rfl rfl rfl (v_gtr (r := false) rfl rfl rfl) ?_
  refine o_val (d := 29) rfl rfl rfl rfl ?_
  refine cond_f EE_ok rfl ?_
  refine skip_run EE_ok ?_
  refine seq_of EE_ok ?_
  -- region 3
  refine region_of EE_ok rfl ?_
  refine o_val (d := 31) rfl rfl rfl rfl ?_
  refine o_val (d := 32) rfl rfl rfl (v_add rfl rfl hadd) ?_
  refine o_val (d := 5) rfl rfl rfl rfl ?_
  refine seq_of EE_ok ?_
  -- region 4
  refine draw_of EE_ok rfl (first := [0, 1, 2, 3, 4, 5]) (steps := [⟨6, [], []⟩, ⟨7, [], []⟩]) (by kernel_rfl) ?_
  refine g_val (d := 33) rfl rfl rfl rfl rfl ?_
  refine g_new (d := 34) rfl rfl rfl rfl rfl (n_makeSlice (sz := 13) (by_ := 136) (z := [.int .i64 0, .int .i64 0, .int .i64 0, .int .i64 0, .int .i64 0, .int .i64 0, .int .i64 0, .int .u32 0, .int .u64 0, .int .u64 0, .int .u64 0, .slice none 0 0 0, .slice none 0 0 0]) rfl rfl (by kernel_rfl) (by omega) (by omega)) (oneB_rep rfl _) ?_
  refine g_val (d := 35) rfl rfl rfl rfl rfl ?_
  refine g_val (d := 36) rfl rfl rfl rfl rfl ?_
  refine g_val (d := 37) rfl rfl rfl rfl (v_sub rfl rfl hsub) ?_
  refine g_new (d := 38) rfl rfl rfl rfl rfl (n_makeSlice (sz := 11) (by_ := 104) (z := [.int .i64 0, .int .i64 0, .int .i64 0, .int .i64 0, .int .i64 0, .int .i64 0, .bool false, .int .i64 0, .int .u32 0, .int .i64 0, .slice none 0 0 0]) rfl rfl (by kernel_rfl) (by omega) (by omega)) (oneB_rep rfl _) ?_
  show runSteps _ _ _ _ _ _ _ _ _ _
  refine s_val (d := 6) rfl rfl rfl rfl rfl rfl ?_
  show runSteps _ _ _ _ _ _ _ _ _ _
  refine s_val (d := 7) rfl rfl rfl rfl rfl rfl ?_
  refine seq_of EE_ok ?_
  -- region 5
  refine region_of EE_ok rfl ?_
  refine o_val (d := 8) rfl rfl rfl rfl ?_
  refine seq_of EE_ok ?_
  refine seq_of EE_ok ?_
  -- region 6
  refine region_of EE_ok rfl ?_
  refine o_val (d := 39) rfl rfl rfl rfl ?_
  refine o_val (d := 40) rfl rfl rfl (v_gtr (r := false) rfl rfl rfl) ?_
  refine cond_f EE_ok rfl ?_
  refine seq_of EE_ok ?_
  -- region 8
  refine region_of EE_ok rfl ?_
  refine o_val (d := 41) rfl rfl rfl rfl ?_
  refine o_val (d := 42) rfl rfl rfl (v_gtr (r := false) rfl rfl f3) ?_
  refine cond_f EE_ok rfl ?_
  refine skip_run EE_ok ?_
  refine seq_of EE_ok ?_
  -- region 10
  refine region_of EE_ok rfl ?_
  refine o_val (d := 44) rfl rfl rfl rfl ?_
  refine o_val (d := 45) rfl rfl rfl rfl ?_
  refine o_call1 (d := 46) rfl rfl rfl rfl rfl rfl rfl (all_ok ⟨((gp_ne (by first | omega | (simp only [AHeap.next_push, AHeap.next_upd]; omega))).trans (gp_eq rfl)), (gp_eq rfl), (by first | omega | (simp only [AHeap.next_push, AHeap.next_upd]; omega)), (by first | omega | (simp only [AHeap.next_push, AHeap.next_upd]; omega)), fun i hi => Win.rep rfl hi, fun i hi => Win.rep rfl hi⟩ hn hm) ?_
  refine o_val (d := 43) rfl rfl rfl rfl ?_
  refine o_val (d := 47) rfl rfl rfl rfl ?_
  refine o_val (d := 48) rfl rfl rfl rfl ?_
  refine o_val (d := 9) rfl rfl rfl rfl ?_
  refine o_val (d := 10) rfl rfl rfl rfl ?_
  refine seq_of EE_ok ?_
  -- region 11
  refine region_of EE_ok rfl ?_
  refine o_val (d := 50) rfl rfl rfl rfl ?_
  refine o_val (d := 51) rfl rfl rfl rfl ?_
  refine o_val (d := 52) rfl rfl rfl (v_build (l := [_, _]) (pl := [(0, 1), (1, 1)]) (z := [.int .i64 0, .int .i64 0]) rfl (by kernel_rfl) rfl) ?_
  refine o_call1 (d := 53) rfl rfl rfl rfl rfl rfl rfl (call12 ⟨((gp_ne (by first | omega | (simp only [AHeap.next_push, AHeap.next_upd]; omega))).trans (gp_eq rfl)), (gp_eq rfl), (by first | omega | (simp only [AHeap.next_push, AHeap.next_upd]; omega)), (by first | omega | (simp only [AHeap.next_push, AHeap.next_upd]; omega)), fun i hi => Win.rep rfl hi, fun i hi => Win.rep rfl hi⟩ hn hm) ?_
  refine o_val (d := 49) rfl rfl rfl rfl ?_
  refine o_val (d := 54) rfl rfl rfl rfl ?_
  refine o_val (d := 55) rfl rfl rfl rfl ?_
  refine o_val (d := 11) rfl rfl rfl rfl ?_
  refine o_val (d := 12) rfl rfl rfl rfl ?_
  refine seq_of EE_ok ?_
  -- region 12
  refine region_of EE_ok rfl ?_
  refine o_val (d := 57) rfl rfl rfl rfl ?_
  refine o_val (d := 58) rfl rfl rfl rfl ?_
  refine o_callq (d := 59) rfl rfl rfl rfl rfl rfl rfl (call13 ⟨((gp_ne (by first | omega | (simp only [AHeap.next_push, AHeap.next_upd]; omega))).trans (gp_eq rfl)), (gp_eq rfl), (by first | omega | (simp only [AHeap.next_push, AHeap.next_upd]; omega)), (by first | omega | (simp only [AHeap.next_push, AHeap.next_upd]; omega)), fun i hi => Win.rep rfl hi, fun i hi => Win.rep rfl hi⟩ hn hm) ?_
  rintro r ⟨m, H1, rfl, k1, g1, m1, m2⟩
  refine ⟨_, H1, rfl, ?_⟩
  have n1 := k1.next
  try simp only [AHeap.low_push, AHeap.low_upd, AHeap.next_push, AHeap.next_upd] at n1 m1
  refine o_val (d := 56) rfl rfl rfl rfl ?_
  refine o_val (d := 60) rfl rfl rfl rfl ?_
  refine o_val (d := 61) rfl rfl rfl rfl ?_
  refine o_val (d := 13) rfl rfl rfl rfl ?_
  refine o_val (d := 14) rfl rfl rfl rfl ?_
  refine seq_of EE_ok ?_
  -- region 13
  refine region_of EE_ok rfl ?_
  refine o_val (d := 62) rfl rfl rfl rfl ?_
  refine o_val (d := 63) rfl rfl rfl rfl ?_
  refine o_callq (d := 64) rfl rfl rfl rfl rfl rfl rfl (call14 ⟨((k1.get _ (by first | omega | (simp only [AHeap.next_push, AHeap.next_upd]; omega))).trans ((gp_ne (by first | omega | (simp only [AHeap.next_push, AHeap.next_upd]; omega))).trans (gp_eq rfl))), ((k1.get _ (by first | omega | (simp only [AHeap.next_push, AHeap.next_upd]; omega))).trans (gp_eq rfl)), (by first | omega | (simp only [AHeap.next_push, AHeap.next_upd]; omega)), (by first | omega | (simp only [AHeap.next_push, AHeap.next_upd]; omega)), fun i hi => Win.rep rfl hi, fun i hi => Win.rep rfl hi⟩ hn hm) ?_
  rintro r ⟨c, H2, rfl, k2, g2, hc, x2⟩
  refine ⟨_, H2, rfl, ?_⟩
  try simp only [AHeap.low_push, AHeap.low_upd, AHeap.next_push, AHeap.next_upd] at x2 hc
  refine o_val (d := 15) rfl rfl rfl rfl ?_
  refine seq_of EE_ok ?_
  refine seq_of EE_ok ?_
  -- region 14
  refine region_of EE_ok rfl ?_
  refine o_val (d := 65) rfl rfl rfl rfl ?_
  refine o_val (d := 66) rfl rfl rfl (v_eqnil rfl rfl (by kernel_rfl)) ?_
  refine cond_f EE_ok rfl ?_
  refine skip_run EE_ok ?_
  refine seq_of EE_ok ?_
  refine seq_of EE_ok ?_
  -- region 16
  refine region_of EE_ok rfl ?_
  refine o_val (d := 67) rfl rfl rfl rfl ?_
  refine block_of EE_ok ?_
  refine range_none EE_ok rfl rfl (v := .tuple []) (fun H' e => ?_) (fun l l' => ?_)
  · subst e
    exact (call33 ((gp_ne (by first | omega | (simp only [AHeap.next_push, AHeap.next_upd]; omega))).trans ((gp_ne (by first | omega | (simp only [AHeap.next_push, AHeap.next_upd]; omega))).trans g2)))
  refine seq_of EE_ok ?_
  -- region 18
  refine region_of EE_ok rfl ?_
  refine o_val (d := 70) rfl rfl rfl rfl ?_
  refine o_call1 (d := 71) rfl rfl rfl rfl rfl rfl rfl call15 ?_
  refine o_val (d := 72) rfl rfl rfl rfl ?_
  refine o_val (d := 73) rfl rfl rfl (v_eql (r := true) rfl rfl rfl) ?_
  refine o_val (d := 74) rfl rfl rfl rfl ?_
  refine o_val (d := 75) rfl rfl rfl rfl ?_
  refine o_call1 (d := 76) rfl rfl rfl rfl rfl rfl rfl call15 ?_
  refine o_val (d := 77) rfl rfl rfl rfl ?_
  refine o_val (d := 78) rfl rfl rfl (v_eql (r := true) rfl rfl rfl) ?_
  refine o_val (d := 79) rfl rfl rfl rfl ?_
  refine o_val (d := 80) rfl rfl rfl rfl ?_
  refine o_val (d := 81) rfl rfl rfl rfl ?_
  refine o_call1 (d := 82) rfl rfl rfl rfl rfl rfl rfl call15 ?_
  refine o_val (d := 83) rfl rfl rfl rfl ?_
  refine o_val (d := 84) rfl rfl rfl (v_eql (r := true) rfl rfl rfl) ?_
  refine o_val (d := 85) rfl rfl rfl rfl ?_
  refine o_val (d := 86) rfl rfl rfl rfl ?_
  refine o_val (d := 87) rfl rfl rfl rfl ?_
  refine o_val (d := 88) rfl rfl rfl (v_len rfl rfl rfl rfl (n := 8) (by kernel_rfl)) ?_
  refine o_val (d := 89) rfl rfl rfl rfl ?_
  refine o_val (d := 90) rfl rfl rfl (v_len rfl rfl rfl rfl (n := 8) (by kernel_rfl)) ?_
  refine o_val (d := 91) rfl rfl rfl (v_add (c := 0) rfl rfl rfl) ?_
  refine o_val (d := 92) rfl rfl rfl rfl ?_
  refine o_val (d := 93) rfl rfl rfl (v_lenm (kt := 22) (et := 3) rfl rfl rfl rfl (by kernel_rfl) ((gu_ne (by first | omega | (simp only [AHeap.next_push, AHeap.next_upd]; omega))).trans ((gp_ne (by first | omega | (simp only [AHeap.next_push, AHeap.next_upd]; omega))).trans ((gp_ne (by first | omega | (simp only [AHeap.next_push, AHeap.next_upd]; omega))).trans ((k2.get _ (by first | omega | (simp only [AHeap.next_push, AHeap.next_upd]; omega))).trans g1))))) ?_
  refine o_val (d := 94) rfl rfl rfl (v_add (c := 0) rfl rfl rfl) ?_
  refine o_val (d := 95) rfl rfl rfl (v_eql (r := true) rfl rfl rfl) ?_
  refine o_val (d := 96) rfl rfl rfl rfl ?_
  refine o_val (d := 97) rfl rfl rfl rfl ?_
  refine o_call1 (d := 98) rfl rfl rfl rfl rfl rfl rfl (works_ok _) ?_
  refine o_val (d := 99) rfl rfl rfl rfl ?_
  refine o_eff0 rfl rfl rfl (e_store (n := 1) (c' := [_]) rfl rfl (by kernel_rfl) ((gu_ne (by first | omega | (simp only [AHeap.next_push, AHeap.next_upd]; omega))).trans ((gp_ne (by first | omega | (simp only [AHeap.next_push, AHeap.next_upd]; omega))).trans ((gp_ne (by first | omega | (simp only [AHeap.next_push, AHeap.next_upd]; omega))).trans ((k2.get _ (by first | omega | (simp only [AHeap.next_push, AHeap.next_upd]; omega))).trans ((k1.get _ (by first | omega | (simp only [AHeap.next_push, AHeap.next_upd]; omega))).trans ((gp_ne (by first | omega | (simp only [AHeap.next_push, AHeap.next_upd]; omega))).trans ((gp_ne (by first | omega | (simp only [AHeap.next_push, AHeap.next_upd]; omega))).trans (gp_eq rfl)))))))) rfl (Nat.le_of_ble_eq_true rfl) rfl rfl) ?_
  refine ret_run EE_ok ?_
  refine ⟨((gu_ne (by first | omega | (simp only [AHeap.next_push, AHeap.next_upd]; omega))).trans ((gu_ne (by first | omega | (simp only [AHeap.next_push, AHeap.next_upd]; omega))).trans ((gp_ne (by first | omega | (simp only [AHeap.next_push, AHeap.next_upd]; omega))).trans (gp_eq rfl)))), ?_⟩
  exact ⟨_, (res_cell (v_load1 rfl (by kernel_rfl) ((gu_ne (by first | omega | (simp only [AHeap.next_push, AHeap.next_upd]; omega))).trans gu_eq) rfl) res_nil), _, rfl⟩
theorem out4a {H : AHeap} {more less : Int} (f1 : ilt more (-1) = true) : runBody EE (Fsem EE Tryz.prog) 4 [.int .i64 more, .int .i64 less] .off H fun _ r => ∃ H', r = .ret (.bool true) H' := by
  refine body_of EE_ok (a := ⟨100, [.cell 4 4], _⟩) F4 rfl ?_
  refine seq_of EE_ok ?_
  -- region 0
  refine region_of EE_ok rfl ?_
  refine o_eff (d := 4) rfl rfl rfl rfl (e_alloc (z := [.bool false]) (by kernel_rfl)) ?_
  refine seq_of EE_ok ?_
  refine seq_of EE_ok ?_
  -- region 1
  refine region_of EE_ok rfl ?_
  refine o_val (d := 16) rfl rfl rfl rfl ?_
  refine o_val (d := 17) rfl rfl rfl (v_lss (r := true) rfl rfl f1) ?_
  refine o_val (d := 18) rfl rfl rfl rfl ?_
  refine o_not (d := 19) rfl rfl rfl ?_
  refine o_not (d := 20) rfl rfl rfl ?_
  refine o_val (d := 21) rfl rfl rfl rfl ?_
  refine o_val (d := 22) rfl rfl rfl rfl ?_
  refine o_not (d := 23) rfl rfl rfl ?_
  refine o_not (d := 24) rfl rfl rfl ?_
  refine o_val (d := 25) rfl rfl rfl rfl ?_
  refine o_val (d := 26) rfl rfl rfl rfl ?_
  refine o_not (d := 27) rfl rfl rfl ?_
  refine o_not (d := 28) rfl rfl rfl ?_
  refine o_val (d := 29) rfl rfl rfl rfl ?_
  refine cond_t EE_ok rfl ?_
  refine seq_of EE_ok ?_
  -- region 2
  refine region_of EE_ok rfl ?_
  refine o_call1 (d := 30) rfl rfl rfl rfl rfl rfl rfl (works_ok _) ?_
  refine o_eff0 rfl rfl rfl (e_store (n := 1) (c' := [_]) rfl rfl (by kernel_rfl) (gp_eq rfl) rfl (Nat.le_of_ble_eq_true rfl) rfl rfl) ?_
  refine ret_run EE_ok ?_
  exact ⟨_, (res_cell (v_load1 rfl (by kernel_rfl) gu_eq rfl) res_nil), _, rfl⟩
theorem out4b {H : AHeap} {more less : Int} (f1 : ilt more (-1) = false) (f2 : ilt 1 more = true) : runBody EE (Fsem EE Tryz.prog) 4 [.int .i64 more, .int .i64 less] .off H fun _ r => ∃ H', r = .ret (.bool true) H' := by
  refine body_of EE_ok (a := ⟨100, [.cell 4 4], _⟩) F4 rfl ?_
  refine seq_of EE_ok ?_
  -- region 0
  refine region_of EE_ok rfl ?_
  refine o_eff (d := 4) rfl rfl rfl rfl (e_alloc (z := [.bool false]) (by kernel_rfl)) ?_
  refine seq_of EE_ok ?_
  refine seq_of EE_ok ?_
  -- region 1
  refine region_of EE_ok rfl ?_
  refine o_val (d := 16) rfl rfl rfl rfl ?_
  refine o_val (d := 17) rfl rfl rfl (v_lss (r := false) rfl rfl f1) ?_
  refine o_val (d := 18) rfl rfl rfl rfl ?_
  refine o_val (d := 19) rfl rfl rfl rfl ?_
  refine o_val (d := 20) rfl rfl rfl (v_gtr (r := true) rfl rfl f2) ?_
  refine o_val (d := 21) rfl rfl rfl rfl ?_
  refine o_val (d := 22) rfl rfl rfl rfl ?_
  refine o_not (d := 23) rfl rfl rfl ?_
  refine o_not (d := 24) rfl rfl rfl ?_
  refine o_val (d := 25) rfl rfl rfl rfl ?_
  refine o_val (d := 26) rfl rfl rfl rfl ?_
  refine o_not (d := 27) rfl rfl rfl ?_
  refine o_not (d := 28) rfl rfl rfl ?_
  refine o_val (d := 29) rfl rfl rfl rfl ?_
  refine cond_t EE_ok rfl ?_
  refine seq_of EE_ok ?_
  -- region 2
  refine region_of EE_ok rfl ?_
  refine o_call1 (d := 30) rfl rfl rfl rfl rfl rfl rfl (works_ok _) ?_
  refine o_eff0 rfl rfl rfl (e_store (n := 1) (c' := [_]) rfl rfl (by kernel_rfl) (gp_eq rfl) rfl (Nat.le_of_ble_eq_true rfl) rfl rfl) ?_
  refine ret_run EE_ok ?_
  exact ⟨_, (res_cell (v_load1 rfl (by kernel_rfl) gu_eq rfl) res_nil), _, rfl⟩
theorem out4c {H : AHeap} {more less : Int} (f1 : ilt more (-1) = false) (f2 : ilt 1 more = false) (f3 : ilt less 0 = true) : runBody EE (Fsem EE Tryz.prog) 4 [.int .i64 more, .int .i64 less] .off H fun _ r => ∃ H', r = .ret (.bool true) H' := by
  refine body_of EE_ok (a := ⟨100, [.cell 4 4], _⟩) F4 rfl ?_
  refine seq_of EE_ok ?_
  -- region 0
  refine region_of EE_ok rfl ?_
  refine o_eff (d := 4) rfl rfl rfl rfl (e_alloc (z := [.bool false]) (by kernel_rfl)) ?_
  refine seq_of EE_ok ?_
  refine seq_of EE_ok ?_
  -- region 1
  refine region_of EE_ok rfl ?_
  refine o_val (d := 16) rfl rfl rfl rfl ?_
  refine o_val (d := 17) rfl rfl rfl (v_lss (r := false) rfl rfl f1) ?_
  refine o_val (d := 18) rfl rfl rfl rfl ?_
  refine o_val (d := 19) rfl rfl rfl rfl ?_
  refine o_val (d := 20) rfl rfl rfl (v_gtr (r := false) rfl rfl f2) ?_
  refine o_val (d := 21) rfl rfl rfl rfl ?_
  refine o_val (d := 22) rfl rfl rfl rfl ?_
  refine o_val (d := 23) rfl rfl rfl rfl ?_
  refine o_val (d := 24) rfl rfl rfl (v_lss (r := true) rfl rfl f3) ?_
  refine o_val (d := 25) rfl rfl rfl rfl ?_
  refine o_val (d := 26) rfl rfl rfl rfl ?_
  refine o_not (d := 27) rfl rfl rfl ?_
  refine o_not (d := 28) rfl rfl rfl ?_
  refine o_val (d := 29) rfl rfl rfl rfl ?_
  refine cond_t EE_ok rfl ?_
  refine seq_of EE_ok ?_
  -- region 2
  refine region_of EE_ok rfl ?_
  refine o_call1 (d := 30) rfl rfl rfl rfl rfl rfl rfl (works_ok _) ?_
  refine o_eff0 rfl rfl rfl (e_store (n := 1) (c' := [_]) rfl rfl (by kernel_rfl) (gp_eq rfl) rfl (Nat.le_of_ble_eq_true rfl) rfl rfl) ?_
  refine ret_run EE_ok ?_
  exact ⟨_, (res_cell (v_load1 rfl (by kernel_rfl) gu_eq rfl) res_nil), _, rfl⟩
theorem out4d {H : AHeap} {more less : Int} (f1 : ilt more (-1) = false) (f2 : ilt 1 more = false) (f3 : ilt less 0 = false) (f4 : ilt 2 less = true) : runBody EE (Fsem EE Tryz.prog) 4 [.int .i64 more, .int .i64 less] .off H fun _ r => ∃ H', r = .ret (.bool true) H' := by
  refine body_of EE_ok (a := ⟨100, [.cell 4 4], _⟩) F4 rfl ?_
  refine seq_of EE_ok ?_
  -- region 0
  refine region_of EE_ok rfl ?_
  refine o_eff (d := 4) rfl rfl rfl rfl (e_alloc (z := [.bool false]) (by kernel_rfl)) ?_
  refine seq_of EE_ok ?_
  refine seq_of EE_ok ?_
  -- region 1
  refine region_of EE_ok rfl ?_
  refine o_val (d := 16) rfl rfl rfl rfl ?_
  refine o_val (d := 17) rfl rfl rfl (v_lss (r := false) rfl rfl f1) ?_
  refine o_val (d := 18) rfl rfl rfl rfl ?_
  refine o_val (d := 19) rfl rfl rfl rfl ?_
  refine o_val (d := 20) rfl rfl rfl (v_gtr (r := false) rfl rfl f2) ?_
  refine o_val (d := 21) rfl rfl rfl rfl ?_
  refine o_val (d := 22) rfl rfl rfl rfl ?_
  refine o_val (d := 23) rfl rfl rfl rfl ?_
  refine o_val (d := 24) rfl rfl rfl (v_lss (r := false) rfl rfl f3) ?_
  refine o_val (d := 25) rfl rfl rfl rfl ?_
  refine o_val (d := 26) rfl rfl rfl rfl ?_
  refine o_val (d := 27) rfl rfl rfl rfl ?_
  refine o_val (d := 28) rfl rfl rfl (v_gtr (r := true) rfl rfl f4) ?_
  refine o_val (d := 29) rfl rfl rfl rfl ?_
  refine cond_t EE_ok rfl ?_
  refine seq_of EE_ok ?_
  -- region 2
  refine region_of EE_ok rfl ?_
  refine o_call1 (d := 30) rfl rfl rfl rfl rfl rfl rfl (works_ok _) ?_
  refine o_eff0 rfl rfl rfl (e_store (n := 1) (c' := [_]) rfl rfl (by kernel_rfl) (gp_eq rfl) rfl (Nat.le_of_ble_eq_true rfl) rfl rfl) ?_
  refine ret_run EE_ok ?_
  exact ⟨_, (res_cell (v_load1 rfl (by kernel_rfl) gu_eq rfl) res_nil), _, rfl⟩
end Go.Proofs
