/- judge.read, of a history of nothing. -/
import Derived.Test.YthjcjglemefekaaGreatDoorB2
import Derived.Test.YthjcjglemefekaaGreatDoorB3
namespace Go.Proofs
open Go Go.Am
structure Hist (H : AHeap) (bl br n : Nat) (cl cr : List AV) : Prop where
  gl : H.get bl = some (.cells cl)
  gr : H.get br = some (.cells cr)
  ll : bl < H.next
  lr : br < H.next
  hl : ∀ i, i < n → Win cl (i * 13) 13 zt
  hr : ∀ i, i < n → Win cr (i * 11) 11 zr
def row0 (j m : Nat) : List AV := [.int .i64 0, .int .i64 0, .int .i64 0, .int .i64 0, .int .i64 0, .int .i64 0, .int .i64 0, .int .u32 0, .int .u64 0, .int .u64 0, .int .u64 0, .slice none 0 0 0, .slice none 0 0 0, .int .i64 0, .int .i64 0, .int .i64 0, .int .i64 0, .int .i64 0, .int .i64 0, .bool false, .int .i64 0, .int .u32 0, .int .i64 0, .slice none 0 0 0, .int .i64 (.ofNat j), .map (some m)]
def Rows0 (H : AHeap) (cs : List AV) (i : Nat) : Prop := ∀ j, j < i → ∃ m, Win cs (j * 26) 26 (row0 j m) ∧ H.get m = some (.map [] 0) ∧ m < H.next
theorem F40 : EE.F 40 = afOf Tryz.f40 := by kernel_rfl
theorem read_ok {H : AHeap} {bl br n : Nat} {cl cr : List AV} (h : Hist H bl br n cl cr) (hn : 1 ≤ n) (hm : n ≤ 4096) : CallOK EE Tryz.prog 40 [.slice (some (bl, 0)) n n 0, .slice (some (br, 0)) n n 0] H fun q =>
    ∃ ob cs H', q = .ret (.tuple [.slice (some (ob, 0)) n n 26, .int .i64 0]) H' ∧ Kept H H' ∧ ob < H'.next ∧ H.next ≤ ob ∧ H'.get ob = some (.cells cs) ∧ Rows0 H' cs n := by
  have hbig : ilt 4096 (.ofNat n) = false := by rw [ilt_eq]; simp; omega
  have hll := h.ll
  have hlr := h.lr
  refine call_of EE_ok (a := ⟨89, [.tmp 4, .tmp 5], _⟩) F40 rfl ?_
  refine seq_of EE_ok ?_
  -- region 0
  refine region_of EE_ok rfl ?_
  refine o_val (d := 4) rfl rfl rfl rfl ?_
  refine o_val (d := 5) rfl rfl rfl rfl ?_
  refine scope_of EE_ok ?_
  refine seq_of EE_ok ?_
  -- region 1
  refine region_of EE_ok rfl ?_
  refine o_eff (d := 14) rfl rfl rfl rfl e_makeMap ?_
  refine o_val (d := 6) rfl rfl rfl rfl ?_
  refine seq_of EE_ok ?_
  -- region 2
  refine region_of EE_ok rfl ?_
  refine o_callq (d := 15) rfl rfl rfl rfl rfl rfl rfl (call62 _) ?_
  rintro r ⟨H1, rfl, k1, x1, g1⟩
  refine ⟨_, H1, rfl, ?_⟩
  have x1 : H1.next = H.next + 2 := x1
  have kl1 := k1.low
  simp only [AHeap.low_push, AHeap.low_upd, AHeap.next_push, AHeap.next_upd] at kl1
  refine o_val (d := 7) rfl rfl rfl rfl ?_
  refine seq_of EE_ok ?_
  refine seq_of EE_ok ?_
  -- region 3
  refine region_of EE_ok rfl ?_
  refine o_val (d := 5) rfl rfl rfl rfl ?_
  refine seq_of EE_ok ?_
  -- region 4
  refine region_of EE_ok rfl ?_
  refine o_val (d := 16) rfl rfl rfl rfl ?_
  refine o_val (d := 17) rfl rfl rfl (v_len rfl rfl rfl rfl (n := 13) (by kernel_rfl)) ?_
  refine o_val (d := 18) rfl rfl rfl rfl ?_
  refine o_val (d := 19) rfl rfl rfl (v_len rfl rfl rfl rfl (n := 11) (by kernel_rfl)) ?_
  refine o_val (d := 20) rfl rfl rfl (v_neq (r := false) rfl rfl (by rw [(ieq_self _)]; rfl)) ?_
  refine cond_f EE_ok rfl ?_
  refine skip_run EE_ok ?_
  refine seq_of EE_ok ?_
  refine seq_of EE_ok ?_
  -- region 5
  refine region_of EE_ok rfl ?_
  refine o_val (d := 5) rfl rfl rfl rfl ?_
  refine seq_of EE_ok ?_
  -- region 6
  refine region_of EE_ok rfl ?_
  refine o_val (d := 21) rfl rfl rfl rfl ?_
  refine o_val (d := 22) rfl rfl rfl (v_len rfl rfl rfl rfl (n := 13) (by kernel_rfl)) ?_
  refine o_val (d := 23) rfl rfl rfl (v_gtr (r := false) rfl rfl hbig) ?_
  refine cond_f EE_ok rfl ?_
  refine skip_run EE_ok ?_
  refine seq_of EE_ok ?_
  refine seq_of EE_ok ?_
  -- region 7
  refine region_of EE_ok rfl ?_
  refine o_val (d := 24) rfl rfl rfl rfl ?_
  refine o_val (d := 25) rfl rfl rfl (v_len rfl rfl rfl rfl (n := 13) (by kernel_rfl)) ?_
  refine o_val (d := 26) rfl rfl rfl rfl ?_
  refine block_of EE_ok ?_
  refine loop_in EE_ok ?_
  have b1 : H.next < H1.next := by omega
  refine loop_ind (fun k T H' => ∃ i s cs, k + i = n ∧ Has T [(0, .slice (some (bl, 0)) n n 0), (1, .slice (some (br, 0)) n n 0), (25, .int .i64 (.ofNat n)), (26, .int .i64 (.ofNat i)), (6, .map (some H.next)), (7, .map (some (H.next + 1))), (4, s)] ∧
      (∀ b, b < H.next → H'.get b = H.get b) ∧ H'.get H.next = some (.map [] 0) ∧ H'.get (H.next + 1) = some (.map es62 3) ∧ H.next + 2 ≤ H'.next ∧ min H.low H.next ≤ H'.low ∧ Out H' (H.next + 2) H'.next s i 26 cs ∧ Rows0 H' cs i) ?_ (k := n) ?_
  rotate_left
  · exact ⟨0, _, [], by omega, ⟨rfl, rfl, rfl, rfl, rfl, rfl, rfl, trivial⟩, fun b hb => ((k1.get _ (by first | omega | (simp only [AHeap.next_push, AHeap.next_upd]; omega))).trans ((gp_ne (by first | omega | (simp only [AHeap.next_push, AHeap.next_upd]; omega))).trans rfl)), ((k1.get _ (by first | omega | (simp only [AHeap.next_push, AHeap.next_upd]; omega))).trans (gp_eq rfl)), g1, by omega, (by first | omega | (simp only [AHeap.next_push, AHeap.next_upd]; omega)), .inl ⟨rfl, rfl, rfl⟩, fun j hj => absurd hj (Nat.not_lt_zero _)⟩
  rintro k T H2 ⟨i, s, cs, hk, hT, hget, gn, gd, hnx, hlow, ho, hrows⟩
  refine RunOK.less hT.less ?_
  by_cases hi : i < n
  · have hll := h.ll
    have hlr := h.lr
    refine seq_of EE_ok ?_
    -- region 8
    refine region_of EE_ok rfl ?_
    refine o_val (d := 27) rfl rfl rfl (v_lss (r := true) rfl rfl (ilt_nat hi)) ?_
    refine seq_of EE_ok ?_
    refine cond_t EE_ok rfl ?_
    refine skip_run EE_ok ?_
    refine seq_of EE_ok ?_
    refine block_of EE_ok ?_
    refine seq_of EE_ok ?_
    -- region 9
    refine region_of EE_ok rfl ?_
    refine o_val (d := 28) rfl rfl rfl rfl ?_
    refine o_val (d := 8) rfl rfl rfl rfl ?_
    refine seq_of EE_ok ?_
    -- region 10
    refine draw_of EE_ok rfl (first := [0, 1, 2, 3, 4, 5, 6, 7, 8, 9, 10, 11]) (steps := [⟨12, [], []⟩]) (by kernel_rfl) ?_
    refine g_val (d := 29) rfl rfl rfl rfl rfl ?_
    refine g_val (d := 30) rfl rfl rfl rfl rfl ?_
    refine g_val (d := 31) rfl rfl rfl rfl (v_index0 rfl rfl (n := 13) (by kernel_rfl) hi) ?_
    refine g_val (d := 32) rfl rfl rfl rfl (v_loadA rfl (n := 13) (by kernel_rfl) ((hget _ h.ll).trans h.gl) (h.hl i hi).len (h.hl i hi).eq) ?_
    refine g_val (d := 33) rfl rfl rfl rfl rfl ?_
    refine g_val (d := 34) rfl rfl rfl rfl rfl ?_
    refine g_val (d := 35) rfl rfl rfl rfl (v_index0 rfl rfl (n := 11) (by kernel_rfl) hi) ?_
    refine g_val (d := 36) rfl rfl rfl rfl (v_loadA rfl (n := 11) (by kernel_rfl) ((hget _ h.lr).trans h.gr) (h.hr i hi).len (h.hr i hi).eq) ?_
    refine g_val (d := 37) rfl rfl rfl rfl rfl ?_
    refine g_new (d := 38) rfl rfl rfl rfl rfl rfl rfl ?_
    refine g_val (d := 39) rfl rfl rfl rfl (v_build (l := [_, _, _, _, _, _, _, _, _, _, _, _, _, _, _, _, _, _, _, _, _, _, _, _, _, _]) (pl := [(0, 13), (13, 11), (24, 1), (25, 1)]) (z := [.int .i64 0, .int .i64 0, .int .i64 0, .int .i64 0, .int .i64 0, .int .i64 0, .int .i64 0, .int .u32 0, .int .u64 0, .int .u64 0, .int .u64 0, .slice none 0 0 0, .slice none 0 0 0, .int .i64 0, .int .i64 0, .int .i64 0, .int .i64 0, .int .i64 0, .int .i64 0, .bool false, .int .i64 0, .int .u32 0, .int .i64 0, .slice none 0 0 0, .int .i64 0, .map none]) rfl (by kernel_rfl) rfl) ?_
    refine g_new (d := 9) rfl rfl rfl rfl rfl (n_alloc (z := [.int .i64 0, .int .i64 0, .int .i64 0, .int .i64 0, .int .i64 0, .int .i64 0, .int .i64 0, .int .u32 0, .int .u64 0, .int .u64 0, .int .u64 0, .slice none 0 0 0, .slice none 0 0 0, .int .i64 0, .int .i64 0, .int .i64 0, .int .i64 0, .int .i64 0, .int .i64 0, .bool false, .int .i64 0, .int .u32 0, .int .i64 0, .slice none 0 0 0, .int .i64 0, .map none]) (by kernel_rfl)) rfl ?_
    show runSteps _ _ _ _ _ _ _ _ _ _
    refine s_eff0 rfl rfl rfl rfl (e_store (n := 26) (c' := [_, _, _, _, _, _, _, _, _, _, _, _, _, _, _, _, _, _, _, _, _, _, _, _, _, _]) rfl rfl (by kernel_rfl) (gp_eq rfl) rfl (Nat.le_of_ble_eq_true rfl) rfl rfl) rfl ?_
    refine seq_of EE_ok ?_
    refine seq_of EE_ok ?_
    -- region 11
    refine region_of EE_ok rfl ?_
    refine o_val (d := 40) rfl rfl rfl rfl ?_
    refine o_eff (d := 41) rfl rfl rfl rfl (e_range (kt := 3) (et := 24) rfl (by kernel_rfl) ((gu_ne (by first | omega | (simp only [AHeap.next_push, AHeap.next_upd]; omega))).trans ((gp_ne (by first | omega | (simp only [AHeap.next_push, AHeap.next_upd]; omega))).trans ((gp_ne (by first | omega | (simp only [AHeap.next_push, AHeap.next_upd]; omega))).trans gn)))) ?_
    refine block_of EE_ok ?_
    refine loop_in EE_ok ?_
    refine loop_of ?_
    refine seq_of EE_ok ?_
    -- region 12
    refine region_of EE_ok rfl ?_
    refine o_next0 (d := 42) rfl rfl rfl rfl rfl (gp_eq rfl) ((gp_ne (by first | omega | (simp only [AHeap.next_push, AHeap.next_upd]; omega))).trans ((gu_ne (by first | omega | (simp only [AHeap.next_push, AHeap.next_upd]; omega))).trans ((gp_ne (by first | omega | (simp only [AHeap.next_push, AHeap.next_upd]; omega))).trans ((gp_ne (by first | omega | (simp only [AHeap.next_push, AHeap.next_upd]; omega))).trans gn)))) (Nat.ble_self_eq_true _) ?_
    refine o_val (d := 43) rfl rfl rfl rfl ?_
    refine seq_of EE_ok ?_
    refine cond_f EE_ok rfl ?_
    refine exit_run EE_ok ?_
    refine seq_of EE_ok ?_
    -- region 15
    refine region_of EE_ok rfl ?_
    refine o_val (d := 51) rfl rfl rfl rfl ?_
    refine o_val (d := 52) rfl rfl rfl (v_loadA (l := [_, _, _, _, _, _, _, _, _, _, _, _, _, _, _, _, _, _, _, _, _, _, _, _, _, _]) rfl (n := 26) (by kernel_rfl) ((gp_ne (by first | omega | (simp only [AHeap.next_push, AHeap.next_upd]; omega))).trans gu_eq) (Nat.le_of_ble_eq_true rfl) rfl) ?_
    refine o_eff (d := 53) rfl rfl rfl rfl (e_buildSlice (l := [_, _, _, _, _, _, _, _, _, _, _, _, _, _, _, _, _, _, _, _, _, _, _, _, _, _]) (sz := 26) (z := [.int .i64 0, .int .i64 0, .int .i64 0, .int .i64 0, .int .i64 0, .int .i64 0, .int .i64 0, .int .u32 0, .int .u64 0, .int .u64 0, .int .u64 0, .slice none 0 0 0, .slice none 0 0 0, .int .i64 0, .int .i64 0, .int .i64 0, .int .i64 0, .int .i64 0, .int .i64 0, .bool false, .int .i64 0, .int .u32 0, .int .i64 0, .slice none 0 0 0, .int .i64 0, .map none]) rfl (by kernel_rfl) rfl rfl) ?_
    refine o_append (d := 54) (N := H.next + 2) (M := H2.next) (n := i) (cs := cs) rfl rfl rfl rfl rfl rfl rfl rfl rfl (sz := 26) (by_ := 256) (by kernel_rfl) (ho.mono fun b hb1 hb2 => ((gp_ne (by first | omega | (simp only [AHeap.next_push, AHeap.next_upd]; omega))).trans ((gp_ne (by first | omega | (simp only [AHeap.next_push, AHeap.next_upd]; omega))).trans ((gu_ne (by first | omega | (simp only [AHeap.next_push, AHeap.next_upd]; omega))).trans ((gp_ne (by first | omega | (simp only [AHeap.next_push, AHeap.next_upd]; omega))).trans ((gp_ne (by first | omega | (simp only [AHeap.next_push, AHeap.next_upd]; omega))).trans rfl)))))) (gp_eq rfl) rfl (by omega) (by omega) (by first | omega | (simp only [AHeap.next_push, AHeap.next_upd]; omega)) (by first | omega | (simp only [AHeap.next_push, AHeap.next_upd]; omega)) rfl ?_
    intro s7 H7 ho7 hx7 hlow7 hs7 hm7
    have hx7 : H7.next = H2.next + 5 := hx7
    simp only [AHeap.low_push, AHeap.low_upd, AHeap.next_push, AHeap.next_upd] at hlow7
    refine o_val (d := 4) rfl rfl rfl rfl ?_
    refine seq_of EE_ok ?_
    -- region 16
    refine region_of EE_ok rfl ?_
    refine o_val (d := 56) rfl rfl rfl rfl ?_
    refine o_val (d := 57) rfl rfl rfl (v_field rfl (k := 0) (by kernel_rfl)) ?_
    refine o_val (d := 58) rfl rfl rfl (v_field rfl (k := 0) (by kernel_rfl)) ?_
    refine o_val (d := 59) rfl rfl rfl (v_load1 rfl (by kernel_rfl) ((hs7 _ (by first | omega | (simp only [AHeap.next_push, AHeap.next_upd]; omega)) (by first | omega | (simp only [AHeap.next_push, AHeap.next_upd]; omega))).trans ((gp_ne (by first | omega | (simp only [AHeap.next_push, AHeap.next_upd]; omega))).trans ((gp_ne (by first | omega | (simp only [AHeap.next_push, AHeap.next_upd]; omega))).trans gu_eq))) rfl) ?_
    refine o_val (d := 60) rfl rfl rfl (v_lookup (kt := 63) (et := 147) (r := .tuple [.nilFunc, .bool false]) rfl rfl (by kernel_rfl) (by kernel_rfl) (by kernel_rfl) ((hs7 _ (by first | omega | (simp only [AHeap.next_push, AHeap.next_upd]; omega)) (by first | omega | (simp only [AHeap.next_push, AHeap.next_upd]; omega))).trans ((gp_ne (by first | omega | (simp only [AHeap.next_push, AHeap.next_upd]; omega))).trans ((gp_ne (by first | omega | (simp only [AHeap.next_push, AHeap.next_upd]; omega))).trans ((gu_ne (by first | omega | (simp only [AHeap.next_push, AHeap.next_upd]; omega))).trans ((gp_ne (by first | omega | (simp only [AHeap.next_push, AHeap.next_upd]; omega))).trans ((gp_ne (by first | omega | (simp only [AHeap.next_push, AHeap.next_upd]; omega))).trans gd)))))) (by kernel_rfl)) ?_
    refine o_val (d := 55) rfl rfl rfl rfl ?_
    refine o_val (d := 61) rfl rfl rfl rfl ?_
    refine o_val (d := 62) rfl rfl rfl rfl ?_
    refine o_val (d := 12) rfl rfl rfl rfl ?_
    refine o_val (d := 13) rfl rfl rfl rfl ?_
    refine seq_of EE_ok ?_
    -- region 17
    refine region_of EE_ok rfl ?_
    refine o_val (d := 63) rfl rfl rfl rfl ?_
    refine o_val (d := 64) rfl rfl rfl rfl ?_
    refine o_not (d := 65) rfl rfl rfl ?_
    refine o_not (d := 66) rfl rfl rfl ?_
    refine o_not (d := 67) rfl rfl rfl ?_
    refine o_not (d := 68) rfl rfl rfl ?_
    refine o_val (d := 69) rfl rfl rfl rfl ?_
    refine o_val (d := 70) rfl rfl rfl rfl ?_
    refine o_not (d := 71) rfl rfl rfl ?_
    refine o_not (d := 72) rfl rfl rfl ?_
    refine o_not (d := 73) rfl rfl rfl ?_
    refine o_not (d := 74) rfl rfl rfl ?_
    refine o_not (d := 75) rfl rfl rfl ?_
    refine o_not (d := 76) rfl rfl rfl ?_
    refine o_not (d := 77) rfl rfl rfl ?_
    refine o_not (d := 78) rfl rfl rfl ?_
    refine o_not (d := 79) rfl rfl rfl ?_
    refine o_not (d := 80) rfl rfl rfl ?_
    refine o_val (d := 81) rfl rfl rfl rfl ?_
    refine cond_f EE_ok rfl ?_
    refine skip_run EE_ok ?_
    -- region 19
    refine region_of EE_ok rfl ?_
    refine o_val (d := 86) rfl rfl rfl (v_add rfl rfl (fwrap_succ (by omega))) ?_
    refine o_val (d := 26) rfl rfl rfl rfl ?_
    refine ⟨rfl, rfl, k - 1, by omega, i + 1, s7, _, by omega, ⟨rfl, rfl, rfl, rfl, rfl, rfl, rfl, trivial⟩, fun b hb => ?_, ?_, ?_, by omega, ?_, ho7, ?_⟩
    · exact ((hs7 _ (by first | omega | (simp only [AHeap.next_push, AHeap.next_upd]; omega)) (by first | omega | (simp only [AHeap.next_push, AHeap.next_upd]; omega))).trans ((gp_ne (by first | omega | (simp only [AHeap.next_push, AHeap.next_upd]; omega))).trans ((gp_ne (by first | omega | (simp only [AHeap.next_push, AHeap.next_upd]; omega))).trans ((gu_ne (by first | omega | (simp only [AHeap.next_push, AHeap.next_upd]; omega))).trans ((gp_ne (by first | omega | (simp only [AHeap.next_push, AHeap.next_upd]; omega))).trans ((gp_ne (by first | omega | (simp only [AHeap.next_push, AHeap.next_upd]; omega))).trans ((hget b hb))))))))
    · exact ((hs7 _ (by first | omega | (simp only [AHeap.next_push, AHeap.next_upd]; omega)) (by first | omega | (simp only [AHeap.next_push, AHeap.next_upd]; omega))).trans ((gp_ne (by first | omega | (simp only [AHeap.next_push, AHeap.next_upd]; omega))).trans ((gp_ne (by first | omega | (simp only [AHeap.next_push, AHeap.next_upd]; omega))).trans ((gu_ne (by first | omega | (simp only [AHeap.next_push, AHeap.next_upd]; omega))).trans ((gp_ne (by first | omega | (simp only [AHeap.next_push, AHeap.next_upd]; omega))).trans ((gp_ne (by first | omega | (simp only [AHeap.next_push, AHeap.next_upd]; omega))).trans gn))))))
    · exact ((hs7 _ (by first | omega | (simp only [AHeap.next_push, AHeap.next_upd]; omega)) (by first | omega | (simp only [AHeap.next_push, AHeap.next_upd]; omega))).trans ((gp_ne (by first | omega | (simp only [AHeap.next_push, AHeap.next_upd]; omega))).trans ((gp_ne (by first | omega | (simp only [AHeap.next_push, AHeap.next_upd]; omega))).trans ((gu_ne (by first | omega | (simp only [AHeap.next_push, AHeap.next_upd]; omega))).trans ((gp_ne (by first | omega | (simp only [AHeap.next_push, AHeap.next_upd]; omega))).trans ((gp_ne (by first | omega | (simp only [AHeap.next_push, AHeap.next_upd]; omega))).trans gd))))))
    · omega
    · intro j hj
      by_cases hji : j < i
      · obtain ⟨m, hw, hg, hm⟩ := hrows j hji
        exact ⟨m, hw.left, hm7 m [] 0 (((gp_ne (by first | omega | (simp only [AHeap.next_push, AHeap.next_upd]; omega))).trans ((gp_ne (by first | omega | (simp only [AHeap.next_push, AHeap.next_upd]; omega))).trans ((gu_ne (by first | omega | (simp only [AHeap.next_push, AHeap.next_upd]; omega))).trans ((gp_ne (by first | omega | (simp only [AHeap.next_push, AHeap.next_upd]; omega))).trans ((gp_ne (by first | omega | (simp only [AHeap.next_push, AHeap.next_upd]; omega))).trans hg)))))) (by omega), by omega⟩
      · have e : j = i := by omega
        subst e
        exact ⟨_, Win.right ho.length.symm rfl, ((hs7 _ (by first | omega | (simp only [AHeap.next_push, AHeap.next_upd]; omega)) (by first | omega | (simp only [AHeap.next_push, AHeap.next_upd]; omega))).trans ((gp_ne (by first | omega | (simp only [AHeap.next_push, AHeap.next_upd]; omega))).trans ((gp_ne (by first | omega | (simp only [AHeap.next_push, AHeap.next_upd]; omega))).trans ((gu_ne (by first | omega | (simp only [AHeap.next_push, AHeap.next_upd]; omega))).trans ((gp_ne (by first | omega | (simp only [AHeap.next_push, AHeap.next_upd]; omega))).trans (gp_eq rfl)))))), (by first | omega | (simp only [AHeap.next_push, AHeap.next_upd]; omega))⟩
  · -- behind the loop
    refine seq_of EE_ok ?_
    -- region 8
    refine region_of EE_ok rfl ?_
    refine o_val (d := 27) rfl rfl rfl (v_lss (r := false) rfl rfl (ilt_nat_f hi)) ?_
    refine seq_of EE_ok ?_
    refine cond_f EE_ok rfl ?_
    refine exit_run EE_ok ?_
    refine seq_of EE_ok ?_
    refine seq_of EE_ok ?_
    -- region 20
    refine region_of EE_ok rfl ?_
    refine o_val (d := 87) rfl rfl rfl rfl ?_
    refine o_val (d := 4) rfl rfl rfl rfl ?_
    refine o_val (d := 5) rfl rfl rfl rfl ?_
    refine ret_run EE_ok ?_
    obtain ⟨rfl⟩ : i = n := by omega
    rcases ho with ⟨_, e, _⟩ | ⟨ob, h1, h2, rfl, h4, h5⟩
    · omega
    · exact ⟨rfl, _, (res_tmp rfl (res_tmp rfl res_nil)), ob, cs, _, rfl, ⟨hget, by omega, hlow⟩, h2, by omega, h4, hrows⟩
end Go.Proofs
