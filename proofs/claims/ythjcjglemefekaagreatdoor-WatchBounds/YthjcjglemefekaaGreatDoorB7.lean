/- watch.Of, Count, Each, of a history of nothing. -/
import Derived.Test.YthjcjglemefekaaGreatDoorB6
import Derived.Test.YthjcjglemefekaaGreatDoorM10
namespace Go.Proofs
open Go Go.Am
theorem F31 : EE.F 31 = afOf Tryz.f31 := by kernel_rfl
theorem call31 {H : AHeap} {f : AV} : CallOK EE Tryz.prog 31 [.slice none 0 0 0, f] H (· = .ret (.slice none 0 0 0) H) := by
  refine call_of EE_ok (a := ⟨22, [.tmp 4], _⟩) F31 rfl ?_
  refine seq_of EE_ok ?_
  -- region 0
  refine region_of EE_ok rfl ?_
  refine o_val (d := 4) rfl rfl rfl rfl ?_
  refine seq_of EE_ok ?_
  refine seq_of EE_ok ?_
  -- region 1
  refine region_of EE_ok rfl ?_
  refine o_val (d := 7) rfl rfl rfl rfl ?_
  refine o_val (d := 8) rfl rfl rfl (v_len rfl rfl rfl rfl (n := 8) (by kernel_rfl)) ?_
  refine o_val (d := 9) rfl rfl rfl rfl ?_
  refine block_of EE_ok ?_
  refine loop_in EE_ok ?_
  refine loop_of ?_
  refine seq_of EE_ok ?_
  -- region 2
  refine region_of EE_ok rfl ?_
  refine o_val (d := 10) rfl rfl rfl (v_lss (r := false) rfl rfl rfl) ?_
  refine seq_of EE_ok ?_
  refine cond_f EE_ok rfl ?_
  refine exit_run EE_ok ?_
  refine seq_of EE_ok ?_
  -- region 7
  refine region_of EE_ok rfl ?_
  refine o_val (d := 21) rfl rfl rfl rfl ?_
  refine o_val (d := 4) rfl rfl rfl rfl ?_
  refine ret_run EE_ok ?_
  exact ⟨rfl, _, (res_tmp rfl res_nil), rfl⟩
theorem F15 : EE.F 15 = afOf Tryz.f15 := by kernel_rfl
theorem call15 {H : AHeap} {e : Int} : CallOK EE Tryz.prog 15 [.int .i64 e] H (· = .ret (.int .i64 e) H) := by
  refine call_of EE_ok (a := ⟨4, [.tmp 2], _⟩) F15 rfl ?_
  refine seq_of EE_ok ?_
  -- region 0
  refine region_of EE_ok rfl ?_
  refine o_val (d := 2) rfl rfl rfl rfl ?_
  refine seq_of EE_ok ?_
  -- region 1
  refine region_of EE_ok rfl ?_
  refine o_val (d := 3) rfl rfl rfl rfl ?_
  refine o_val (d := 2) rfl rfl rfl rfl ?_
  refine ret_run EE_ok ?_
  exact ⟨rfl, _, (res_tmp rfl res_nil), rfl⟩
theorem F12 : EE.F 12 = afOf Tryz.f12 := by kernel_rfl
theorem call12 {H : AHeap} {bl br n : Nat} {cl cr : List AV} (h : Hist H bl br n cl cr) (hn : 1 ≤ n) (hm : n ≤ 4096) : CallOK EE Tryz.prog 12 [.slice (some (bl, 0)) n n 0, .slice (some (br, 0)) n n 0, .agg [.int .i64 0, .int .i64 1]] H (· = .ret (.tuple [.slice none 0 0 0, .int .i64 0]) H) := by
  refine CallOK.still rfl fun H0 hget hnext hlow => ?_
  have gl := h.gl
  have gr := h.gr
  have hll := h.ll
  have hlr := h.lr
  rw [← hget] at gl gr
  refine call_of EE_ok (a := ⟨20, [.tmp 6, .tmp 7], _⟩) F12 rfl ?_
  refine seq_of EE_ok ?_
  -- region 0
  refine region_of EE_ok rfl ?_
  refine o_eff (d := 5) rfl rfl rfl rfl (e_box rfl rfl) ?_
  refine o_val (d := 6) rfl rfl rfl rfl ?_
  refine o_val (d := 7) rfl rfl rfl rfl ?_
  refine seq_of EE_ok ?_
  -- region 1
  refine region_of EE_ok rfl ?_
  refine o_val (d := 11) rfl rfl rfl rfl ?_
  refine o_val (d := 12) rfl rfl rfl rfl ?_
  refine o_call1 (d := 13) rfl rfl rfl rfl rfl rfl rfl (all_ok ⟨((gp_ne (by first | omega | (simp only [AHeap.next_push, AHeap.next_upd]; omega))).trans gl), ((gp_ne (by first | omega | (simp only [AHeap.next_push, AHeap.next_upd]; omega))).trans gr), (by first | omega | (simp only [AHeap.next_push, AHeap.next_upd]; omega)), (by first | omega | (simp only [AHeap.next_push, AHeap.next_upd]; omega)), h.hl, h.hr⟩ hn hm) ?_
  refine o_val (d := 10) rfl rfl rfl rfl ?_
  refine o_val (d := 14) rfl rfl rfl rfl ?_
  refine o_val (d := 15) rfl rfl rfl rfl ?_
  refine o_val (d := 8) rfl rfl rfl rfl ?_
  refine o_val (d := 9) rfl rfl rfl rfl ?_
  refine seq_of EE_ok ?_
  -- region 2
  refine region_of EE_ok rfl ?_
  refine o_val (d := 16) rfl rfl rfl rfl ?_
  refine o_val (d := 17) rfl rfl rfl rfl ?_
  refine o_call1 (d := 18) rfl rfl rfl rfl rfl rfl rfl call31 ?_
  refine o_val (d := 19) rfl rfl rfl rfl ?_
  refine o_val (d := 6) rfl rfl rfl rfl ?_
  refine o_val (d := 7) rfl rfl rfl rfl ?_
  refine ret_run EE_ok ?_
  exact ⟨rfl, _, (res_tmp rfl (res_tmp rfl res_nil)), _, rfl, (by first | omega | (simp only [AHeap.low_push, AHeap.low_upd, AHeap.next_push, AHeap.next_upd]; omega))⟩
theorem F33 : EE.F 33 = afOf Tryz.f33 := by kernel_rfl
theorem call33 {H : AHeap} {y : AV} {c : Nat} (gc : H.get c = some (.cells [.slice none 0 0 0])) : CallOK EE Tryz.prog 33 [y, .ptr (some (c, 0))] H (· = .ret (.tuple []) H) := by
  refine call_of EE_ok (a := ⟨18, [], _⟩) F33 rfl ?_
  refine scope_of EE_ok ?_
  refine seq_of EE_ok ?_
  refine label_of EE_ok ?_
  refine seq_of EE_ok ?_
  -- region 0
  refine region_of EE_ok rfl ?_
  refine o_val (d := 5) rfl rfl rfl (v_load1 rfl (by kernel_rfl) gc rfl) ?_
  refine o_val (d := 6) rfl rfl rfl (v_len rfl rfl rfl rfl (n := 8) (by kernel_rfl)) ?_
  refine o_val (d := 7) rfl rfl rfl rfl ?_
  refine block_of EE_ok ?_
  refine loop_in EE_ok ?_
  refine loop_of ?_
  refine seq_of EE_ok ?_
  -- region 1
  refine region_of EE_ok rfl ?_
  refine o_val (d := 8) rfl rfl rfl (v_lss (r := false) rfl rfl rfl) ?_
  refine seq_of EE_ok ?_
  refine cond_f EE_ok rfl ?_
  refine exit_run EE_ok ?_
  exact ⟨rfl, _, res_nil, rfl⟩
theorem F14 : EE.F 14 = afOf Tryz.f14 := by kernel_rfl
theorem call14 {H : AHeap} {bl br n : Nat} {cl cr : List AV} (h : Hist H bl br n cl cr) (hn : 1 ≤ n) (hm : n ≤ 4096) : CallOK EE Tryz.prog 14 [.slice (some (bl, 0)) n n 0, .slice (some (br, 0)) n n 0] H fun q => ∃ c H', q = .ret (.func (.func 33) [] [.ptr (some (c, 0))]) H' ∧ Kept H H' ∧ H'.get c = some (.cells [.slice none 0 0 0]) ∧ c = H.next ∧ H'.next = H.next + 1 := by
  have hll := h.ll
  have hlr := h.lr
  refine call_of EE_ok (a := ⟨14, [.tmp 4], _⟩) F14 rfl ?_
  refine seq_of EE_ok ?_
  -- region 0
  refine region_of EE_ok rfl ?_
  refine o_val (d := 4) rfl rfl rfl rfl ?_
  refine seq_of EE_ok ?_
  -- region 1
  refine region_of EE_ok rfl ?_
  refine o_val (d := 8) rfl rfl rfl rfl ?_
  refine o_val (d := 9) rfl rfl rfl rfl ?_
  refine o_call1 (d := 10) rfl rfl rfl rfl rfl rfl rfl (all_ok ⟨h.gl, h.gr, (by first | omega | (simp only [AHeap.next_push, AHeap.next_upd]; omega)), (by first | omega | (simp only [AHeap.next_push, AHeap.next_upd]; omega)), h.hl, h.hr⟩ hn hm) ?_
  refine o_val (d := 7) rfl rfl rfl rfl ?_
  refine o_val (d := 11) rfl rfl rfl rfl ?_
  refine o_val (d := 12) rfl rfl rfl rfl ?_
  refine o_eff (d := 5) rfl rfl rfl rfl (e_alloc (z := [.slice none 0 0 0]) (by kernel_rfl)) ?_
  refine o_eff0 rfl rfl rfl (e_store (n := 1) (c' := [_]) rfl rfl (by kernel_rfl) (gp_eq rfl) rfl (Nat.le_of_ble_eq_true rfl) rfl rfl) ?_
  refine o_val (d := 6) rfl rfl rfl rfl ?_
  refine seq_of EE_ok ?_
  -- region 2
  refine region_of EE_ok rfl ?_
  refine o_val (d := 13) rfl rfl rfl rfl ?_
  refine o_val (d := 4) rfl rfl rfl rfl ?_
  refine ret_run EE_ok ?_
  refine ⟨rfl, _, (res_tmp rfl res_nil), _, _, rfl, ⟨fun b hb => ((gu_ne (by first | omega | (simp only [AHeap.next_push, AHeap.next_upd]; omega))).trans ((gp_ne (by first | omega | (simp only [AHeap.next_push, AHeap.next_upd]; omega))).trans rfl)), (by first | omega | (simp only [AHeap.next_push, AHeap.next_upd]; omega)), (by first | omega | (simp only [AHeap.low_push, AHeap.low_upd, AHeap.next_push, AHeap.next_upd]; omega))⟩, gu_eq, rfl, by simp only [AHeap.next_push, AHeap.next_upd]⟩
theorem F13 : EE.F 13 = afOf Tryz.f13 := by kernel_rfl
theorem call13 {H : AHeap} {bl br n : Nat} {cl cr : List AV} (h : Hist H bl br n cl cr) (hn : 1 ≤ n) (hm : n ≤ 4096) : CallOK EE Tryz.prog 13 [.slice (some (bl, 0)) n n 0, .slice (some (br, 0)) n n 0] H fun q => ∃ m H', q = .ret (.tuple [.map (some m), .int .i64 0]) H' ∧ Kept H H' ∧ H'.get m = some (.map [] 0) ∧ H.next ≤ m ∧ m < H'.next := by
  have hll := h.ll
  have hlr := h.lr
  refine call_ofD EE_ok (a := ⟨32, [.tmp 4, .tmp 5], _⟩) F13 rfl ?_
  refine seq_of EE_ok ?_
  -- region 0
  refine region_of EE_ok rfl ?_
  refine o_val (d := 4) rfl rfl rfl rfl ?_
  refine o_val (d := 5) rfl rfl rfl rfl ?_
  refine seq_of EE_ok ?_
  refine seq_of EE_ok ?_
  -- region 1
  refine region_of EE_ok rfl ?_
  refine o_val (d := 12) rfl rfl rfl rfl ?_
  refine o_val (d := 13) rfl rfl rfl rfl ?_
  refine o_call1 (d := 14) rfl rfl rfl rfl rfl rfl rfl (all_ok ⟨h.gl, h.gr, (by first | omega | (simp only [AHeap.next_push, AHeap.next_upd]; omega)), (by first | omega | (simp only [AHeap.next_push, AHeap.next_upd]; omega)), h.hl, h.hr⟩ hn hm) ?_
  refine o_val (d := 11) rfl rfl rfl rfl ?_
  refine o_val (d := 15) rfl rfl rfl rfl ?_
  refine o_val (d := 16) rfl rfl rfl rfl ?_
  refine o_val (d := 6) rfl rfl rfl rfl ?_
  refine o_val (d := 7) rfl rfl rfl rfl ?_
  refine seq_of EE_ok ?_
  -- region 2
  refine region_of EE_ok rfl ?_
  refine o_val (d := 17) rfl rfl rfl rfl ?_
  refine o_val (d := 18) rfl rfl rfl (v_neq (r := false) rfl rfl rfl) ?_
  refine cond_f EE_ok rfl ?_
  refine skip_run EE_ok ?_
  refine seq_of EE_ok ?_
  -- region 4
  refine region_of EE_ok rfl ?_
  refine o_eff (d := 20) rfl rfl rfl rfl e_makeMap ?_
  refine o_eff (d := 8) rfl rfl rfl rfl (e_alloc (z := [.map none]) (by kernel_rfl)) ?_
  refine o_eff0 rfl rfl rfl (e_store (n := 1) (c' := [_]) rfl rfl (by kernel_rfl) (gp_eq rfl) rfl (Nat.le_of_ble_eq_true rfl) rfl rfl) ?_
  refine seq_of EE_ok ?_
  refine seq_of EE_ok ?_
  -- region 5
  refine region_of EE_ok rfl ?_
  refine o_val (d := 21) rfl rfl rfl rfl ?_
  refine o_val (d := 22) rfl rfl rfl rfl ?_
  refine o_callq (d := 23) rfl rfl rfl rfl rfl rfl rfl (call14 ⟨((gu_ne (by first | omega | (simp only [AHeap.next_push, AHeap.next_upd]; omega))).trans ((gp_ne (by first | omega | (simp only [AHeap.next_push, AHeap.next_upd]; omega))).trans ((gp_ne (by first | omega | (simp only [AHeap.next_push, AHeap.next_upd]; omega))).trans h.gl))), ((gu_ne (by first | omega | (simp only [AHeap.next_push, AHeap.next_upd]; omega))).trans ((gp_ne (by first | omega | (simp only [AHeap.next_push, AHeap.next_upd]; omega))).trans ((gp_ne (by first | omega | (simp only [AHeap.next_push, AHeap.next_upd]; omega))).trans h.gr))), (by first | omega | (simp only [AHeap.next_push, AHeap.next_upd]; omega)), (by first | omega | (simp only [AHeap.next_push, AHeap.next_upd]; omega)), h.hl, h.hr⟩ hn hm) ?_
  rintro r ⟨c, H1, rfl, k1, g1, hc, x1⟩
  refine ⟨_, H1, rfl, ?_⟩
  have kl1 := k1.low
  simp only [AHeap.low_push, AHeap.low_upd, AHeap.next_push, AHeap.next_upd] at kl1 x1 hc
  refine block_of EE_ok ?_
  refine range_none EE_ok rfl rfl (v := .tuple []) (fun H' e => ?_) (fun l l' => ?_)
  · subst e
    exact (call33 ((gp_ne (by first | omega | (simp only [AHeap.next_push, AHeap.next_upd]; omega))).trans ((gp_ne (by first | omega | (simp only [AHeap.next_push, AHeap.next_upd]; omega))).trans g1)))
  refine seq_of EE_ok ?_
  -- region 8
  refine region_of EE_ok rfl ?_
  refine o_val (d := 31) rfl rfl rfl (v_load1 rfl (by kernel_rfl) ((gu_ne (by first | omega | (simp only [AHeap.next_push, AHeap.next_upd]; omega))).trans ((gp_ne (by first | omega | (simp only [AHeap.next_push, AHeap.next_upd]; omega))).trans ((gp_ne (by first | omega | (simp only [AHeap.next_push, AHeap.next_upd]; omega))).trans ((k1.get _ (by first | omega | (simp only [AHeap.next_push, AHeap.next_upd]; omega))).trans gu_eq)))) rfl) ?_
  refine o_val (d := 4) rfl rfl rfl rfl ?_
  refine o_val (d := 5) rfl rfl rfl rfl ?_
  refine ret_run EE_ok ?_
  refine ⟨((gu_ne (by first | omega | (simp only [AHeap.next_push, AHeap.next_upd]; omega))).trans ((gp_ne (by first | omega | (simp only [AHeap.next_push, AHeap.next_upd]; omega))).trans (gp_eq rfl))), ?_⟩
  refine ⟨_, (res_tmp rfl (res_tmp rfl res_nil)), _, _, rfl, ⟨fun b hb => ((gu_ne (by first | omega | (simp only [AHeap.next_push, AHeap.next_upd]; omega))).trans ((gu_ne (by first | omega | (simp only [AHeap.next_push, AHeap.next_upd]; omega))).trans ((gp_ne (by first | omega | (simp only [AHeap.next_push, AHeap.next_upd]; omega))).trans ((gp_ne (by first | omega | (simp only [AHeap.next_push, AHeap.next_upd]; omega))).trans ((k1.get _ (by first | omega | (simp only [AHeap.next_push, AHeap.next_upd]; omega))).trans ((gu_ne (by first | omega | (simp only [AHeap.next_push, AHeap.next_upd]; omega))).trans ((gp_ne (by first | omega | (simp only [AHeap.next_push, AHeap.next_upd]; omega))).trans ((gp_ne (by first | omega | (simp only [AHeap.next_push, AHeap.next_upd]; omega))).trans rfl)))))))), (by first | omega | (simp only [AHeap.next_push, AHeap.next_upd]; omega)), (by first | omega | (simp only [AHeap.low_push, AHeap.low_upd, AHeap.next_push, AHeap.next_upd]; omega))⟩, ((gu_ne (by first | omega | (simp only [AHeap.next_push, AHeap.next_upd]; omega))).trans ((gu_ne (by first | omega | (simp only [AHeap.next_push, AHeap.next_upd]; omega))).trans ((gp_ne (by first | omega | (simp only [AHeap.next_push, AHeap.next_upd]; omega))).trans ((gp_ne (by first | omega | (simp only [AHeap.next_push, AHeap.next_upd]; omega))).trans ((k1.get _ (by first | omega | (simp only [AHeap.next_push, AHeap.next_upd]; omega))).trans ((gu_ne (by first | omega | (simp only [AHeap.next_push, AHeap.next_upd]; omega))).trans ((gp_ne (by first | omega | (simp only [AHeap.next_push, AHeap.next_upd]; omega))).trans (gp_eq rfl)))))))), (by first | omega | (simp only [AHeap.next_push, AHeap.next_upd]; omega)), (by first | omega | (simp only [AHeap.next_push, AHeap.next_upd]; omega))⟩
end Go.Proofs
