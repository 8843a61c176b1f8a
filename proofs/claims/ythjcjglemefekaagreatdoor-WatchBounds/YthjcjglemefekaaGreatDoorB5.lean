/- judge.Without, of a history of nothing. -/
import Derived.Test.YthjcjglemefekaaGreatDoorB4
namespace Go.Proofs
open Go Go.Am
theorem F26 : EE.F 26 = afOf Tryz.f26 := by kernel_rfl
theorem without_ok {H : AHeap} {bl br n : Nat} {cl cr : List AV} (h : Hist H bl br n cl cr) (hn : 1 ≤ n) (hm : n ≤ 4096) : CallOK EE Tryz.prog 26 [.slice (some (bl, 0)) n n 0, .slice (some (br, 0)) n n 0, .int .i64 0] H fun q =>
    ∃ s H', q = .ret (.tuple [s, .int .i64 0]) H' ∧ Kept H H' := by
  refine call_of EE_ok (a := ⟨62, [.tmp 6, .tmp 7], _⟩) F26 rfl ?_
  refine seq_of EE_ok ?_
  -- region 0
  refine region_of EE_ok rfl ?_
  refine o_val (d := 6) rfl rfl rfl rfl ?_
  refine o_val (d := 7) rfl rfl rfl rfl ?_
  refine seq_of EE_ok ?_
  -- region 1
  refine region_of EE_ok rfl ?_
  refine o_val (d := 14) rfl rfl rfl rfl ?_
  refine o_val (d := 15) rfl rfl rfl rfl ?_
  refine o_callq (d := 16) rfl rfl rfl rfl rfl rfl rfl (read_ok h hn hm) ?_
  rintro r ⟨ob, cs, H1, rfl, k1, hob, hob2, gob, hrows⟩
  refine ⟨_, H1, rfl, ?_⟩
  have kl1 := k1.low
  have kn1 := k1.next
  refine o_val (d := 13) rfl rfl rfl rfl ?_
  refine o_val (d := 17) rfl rfl rfl rfl ?_
  refine o_val (d := 18) rfl rfl rfl rfl ?_
  refine o_val (d := 8) rfl rfl rfl rfl ?_
  refine o_val (d := 7) rfl rfl rfl rfl ?_
  refine seq_of EE_ok ?_
  refine seq_of EE_ok ?_
  -- region 2
  refine region_of EE_ok rfl ?_
  refine o_val (d := 19) rfl rfl rfl rfl ?_
  refine o_val (d := 20) rfl rfl rfl (v_len rfl rfl rfl rfl (n := 26) (by kernel_rfl)) ?_
  refine o_val (d := 21) rfl rfl rfl rfl ?_
  refine block_of EE_ok ?_
  refine loop_in EE_ok ?_
  refine loop_ind (fun k T H' => ∃ i s cs', k + i = n ∧ Has T [(19, .slice (some (ob, 0)) n n 26), (20, .int .i64 (.ofNat n)), (21, .int .i64 (.ofNat i)), (6, s), (7, .int .i64 0)] ∧
      (∀ b, b < H1.next → H'.get b = H1.get b) ∧ H1.next ≤ H'.next ∧ min H1.low H1.next ≤ H'.low ∧ Out H' H1.next H'.next s i 1 cs') ?_ (k := n) ?_
  rotate_left
  · exact ⟨0, _, [], by omega, ⟨rfl, rfl, rfl, rfl, rfl, trivial⟩, fun b hb => rfl, Nat.le_refl _, by omega, .inl ⟨rfl, rfl, rfl⟩⟩
  rintro k T H2 ⟨i, s, cs', hk, hT, hget, hnx, hlow, ho⟩
  refine RunOK.less hT.less ?_
  by_cases hi : i < n
  · obtain ⟨m, hw, hg, hm1⟩ := hrows i hi
    refine seq_of EE_ok ?_
    -- region 3
    refine region_of EE_ok rfl ?_
    refine o_val (d := 22) rfl rfl rfl (v_lss (r := true) rfl rfl (ilt_nat hi)) ?_
    refine seq_of EE_ok ?_
    refine cond_t EE_ok rfl ?_
    refine skip_run EE_ok ?_
    refine seq_of EE_ok ?_
    refine block_of EE_ok ?_
    refine seq_of EE_ok ?_
    -- region 4
    refine region_of EE_ok rfl ?_
    refine o_val (d := 23) rfl rfl rfl (v_index0 rfl rfl (n := 26) (by kernel_rfl) hi) ?_
    refine o_val (d := 24) rfl rfl rfl (v_loadA rfl (n := 26) (by kernel_rfl) ((hget _ hob).trans gob) hw.len hw.eq) ?_
    refine o_eff (d := 10) rfl rfl rfl rfl (e_alloc (z := [.int .i64 0, .int .i64 0, .int .i64 0, .int .i64 0, .int .i64 0, .int .i64 0, .int .i64 0, .int .u32 0, .int .u64 0, .int .u64 0, .int .u64 0, .slice none 0 0 0, .slice none 0 0 0, .int .i64 0, .int .i64 0, .int .i64 0, .int .i64 0, .int .i64 0, .int .i64 0, .bool false, .int .i64 0, .int .u32 0, .int .i64 0, .slice none 0 0 0, .int .i64 0, .map none]) (by kernel_rfl)) ?_
    refine o_eff0 rfl rfl rfl (e_store (n := 26) (c' := [_, _, _, _, _, _, _, _, _, _, _, _, _, _, _, _, _, _, _, _, _, _, _, _, _, _]) rfl rfl (by kernel_rfl) (gp_eq rfl) rfl (Nat.le_of_ble_eq_true rfl) rfl rfl) ?_
    refine seq_of EE_ok ?_
    -- region 5
    refine region_of EE_ok rfl ?_
    refine o_val (d := 26) rfl rfl rfl (v_field rfl (k := 25) (by kernel_rfl)) ?_
    refine o_val (d := 27) rfl rfl rfl (v_load1 rfl (by kernel_rfl) gu_eq rfl) ?_
    refine o_val (d := 28) rfl rfl rfl (v_field rfl (k := 0) (by kernel_rfl)) ?_
    refine o_val (d := 29) rfl rfl rfl (v_field rfl (k := 3) (by kernel_rfl)) ?_
    refine o_val (d := 30) rfl rfl rfl (v_load1 rfl (by kernel_rfl) gu_eq rfl) ?_
    refine o_val (d := 31) rfl rfl rfl (v_lookup (kt := 3) (et := 24) (r := .tuple [.agg [.int .i64 0, .int .i64 0], .bool false]) rfl rfl (by kernel_rfl) (by kernel_rfl) (by kernel_rfl) ((gu_ne (by first | omega | (simp only [AHeap.next_push, AHeap.next_upd]; omega))).trans ((gp_ne (by first | omega | (simp only [AHeap.next_push, AHeap.next_upd]; omega))).trans ((hget _ hm1).trans hg))) (by kernel_rfl)) ?_
    refine o_val (d := 25) rfl rfl rfl rfl ?_
    refine o_val (d := 32) rfl rfl rfl rfl ?_
    refine o_val (d := 33) rfl rfl rfl rfl ?_
    refine o_eff (d := 11) rfl rfl rfl rfl (e_alloc (z := [.int .i64 0, .int .i64 0]) (by kernel_rfl)) ?_
    refine o_eff0 rfl rfl rfl (e_store (n := 2) (c' := [_, _]) rfl rfl (by kernel_rfl) (gp_eq rfl) rfl (Nat.le_of_ble_eq_true rfl) rfl rfl) ?_
    refine o_val (d := 12) rfl rfl rfl rfl ?_
    refine seq_of EE_ok ?_
    -- region 6
    refine region_of EE_ok rfl ?_
    refine o_val (d := 34) rfl rfl rfl (v_field rfl (k := 0) (by kernel_rfl)) ?_
    refine o_val (d := 35) rfl rfl rfl (v_field rfl (k := 0) (by kernel_rfl)) ?_
    refine o_val (d := 36) rfl rfl rfl (v_load1 rfl (by kernel_rfl) ((gu_ne (by first | omega | (simp only [AHeap.next_push, AHeap.next_upd]; omega))).trans ((gp_ne (by first | omega | (simp only [AHeap.next_push, AHeap.next_upd]; omega))).trans gu_eq)) rfl) ?_
    refine o_val (d := 37) rfl rfl rfl (v_neq (r := true) rfl rfl rfl) ?_
    refine o_val (d := 38) rfl rfl rfl rfl ?_
    refine o_val (d := 39) rfl rfl rfl (v_field rfl (k := 0) (by kernel_rfl)) ?_
    refine o_val (d := 40) rfl rfl rfl (v_field rfl (k := 0) (by kernel_rfl)) ?_
    refine o_val (d := 41) rfl rfl rfl (v_load1 rfl (by kernel_rfl) ((gu_ne (by first | omega | (simp only [AHeap.next_push, AHeap.next_upd]; omega))).trans ((gp_ne (by first | omega | (simp only [AHeap.next_push, AHeap.next_upd]; omega))).trans gu_eq)) rfl) ?_
    refine o_val (d := 42) rfl rfl rfl (v_neq (r := true) rfl rfl rfl) ?_
    refine o_val (d := 43) rfl rfl rfl rfl ?_
    refine o_val (d := 44) rfl rfl rfl rfl ?_
    refine o_not (d := 45) rfl rfl rfl ?_
    refine o_not (d := 46) rfl rfl rfl ?_
    refine o_val (d := 47) rfl rfl rfl rfl ?_
    refine o_val (d := 48) rfl rfl rfl rfl ?_
    refine o_not (d := 49) rfl rfl rfl ?_
    refine o_not (d := 50) rfl rfl rfl ?_
    refine o_not (d := 51) rfl rfl rfl ?_
    refine o_not (d := 52) rfl rfl rfl ?_
    refine o_val (d := 53) rfl rfl rfl rfl ?_
    refine cond_t EE_ok rfl ?_
    -- region 7
    refine region_of EE_ok rfl ?_
    refine o_val (d := 54) rfl rfl rfl rfl ?_
    refine o_val (d := 55) rfl rfl rfl (v_field rfl (k := 24) (by kernel_rfl)) ?_
    refine o_val (d := 56) rfl rfl rfl (v_load1 rfl (by kernel_rfl) ((gu_ne (by first | omega | (simp only [AHeap.next_push, AHeap.next_upd]; omega))).trans ((gp_ne (by first | omega | (simp only [AHeap.next_push, AHeap.next_upd]; omega))).trans gu_eq)) rfl) ?_
    refine o_eff (d := 57) rfl rfl rfl rfl (e_buildSlice (l := [_]) (sz := 1) (z := [.int .i64 0]) rfl (by kernel_rfl) rfl rfl) ?_
    refine o_append (d := 58) (N := H1.next) (M := H2.next) (n := i) (cs := cs') rfl rfl rfl rfl rfl rfl rfl rfl rfl (sz := 1) (by_ := 8) (by kernel_rfl) (ho.mono fun b hb1 hb2 => ((gp_ne (by first | omega | (simp only [AHeap.next_push, AHeap.next_upd]; omega))).trans ((gu_ne (by first | omega | (simp only [AHeap.next_push, AHeap.next_upd]; omega))).trans ((gp_ne (by first | omega | (simp only [AHeap.next_push, AHeap.next_upd]; omega))).trans ((gu_ne (by first | omega | (simp only [AHeap.next_push, AHeap.next_upd]; omega))).trans ((gp_ne (by first | omega | (simp only [AHeap.next_push, AHeap.next_upd]; omega))).trans rfl)))))) (gp_eq rfl) rfl (by omega) (by omega) (by first | omega | (simp only [AHeap.next_push, AHeap.next_upd]; omega)) (by first | omega | (simp only [AHeap.next_push, AHeap.next_upd]; omega)) rfl ?_
    intro s7 H7 ho7 hx7 hlow7 hs7 hm7
    have hx7 : H7.next = H2.next + 4 := hx7
    simp only [AHeap.low_push, AHeap.low_upd, AHeap.next_push, AHeap.next_upd] at hlow7
    refine o_val (d := 6) rfl rfl rfl rfl ?_
    -- region 8
    refine region_of EE_ok rfl ?_
    refine o_val (d := 59) rfl rfl rfl (v_add rfl rfl (fwrap_succ (by omega))) ?_
    refine o_val (d := 21) rfl rfl rfl rfl ?_
    exact ⟨rfl, rfl, k - 1, by omega, i + 1, s7, _, by omega, ⟨rfl, rfl, rfl, rfl, rfl, trivial⟩, fun b hb => ((hs7 _ (by first | omega | (simp only [AHeap.next_push, AHeap.next_upd]; omega)) (by first | omega | (simp only [AHeap.next_push, AHeap.next_upd]; omega))).trans ((gp_ne (by first | omega | (simp only [AHeap.next_push, AHeap.next_upd]; omega))).trans ((gu_ne (by first | omega | (simp only [AHeap.next_push, AHeap.next_upd]; omega))).trans ((gp_ne (by first | omega | (simp only [AHeap.next_push, AHeap.next_upd]; omega))).trans ((gu_ne (by first | omega | (simp only [AHeap.next_push, AHeap.next_upd]; omega))).trans ((gp_ne (by first | omega | (simp only [AHeap.next_push, AHeap.next_upd]; omega))).trans ((hget b hb)))))))), by omega, by omega, ho7⟩
  · -- behind the loop
    refine seq_of EE_ok ?_
    -- region 3
    refine region_of EE_ok rfl ?_
    refine o_val (d := 22) rfl rfl rfl (v_lss (r := false) rfl rfl (ilt_nat_f hi)) ?_
    refine seq_of EE_ok ?_
    refine cond_f EE_ok rfl ?_
    refine exit_run EE_ok ?_
    refine seq_of EE_ok ?_
    -- region 9
    refine region_of EE_ok rfl ?_
    refine o_val (d := 60) rfl rfl rfl rfl ?_
    refine o_val (d := 61) rfl rfl rfl rfl ?_
    refine o_val (d := 6) rfl rfl rfl rfl ?_
    refine o_val (d := 7) rfl rfl rfl rfl ?_
    refine ret_run EE_ok ?_
    exact ⟨rfl, _, (res_tmp rfl (res_tmp rfl res_nil)), _, _, rfl, ⟨fun b hb => (hget b (by omega)).trans (k1.get b hb), by omega, by omega⟩⟩
end Go.Proofs
