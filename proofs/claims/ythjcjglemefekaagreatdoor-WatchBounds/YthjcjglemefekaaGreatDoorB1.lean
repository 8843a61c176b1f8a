/- watch.history.fine. -/
import Derived.Test.YthjcjglemefekaaGreatDoorEnv
import Derived.Test.YthjcjglemefekaaGreatDoorM10
namespace Go.Proofs
open Go Go.Am
theorem F30 : EE.F 30 = afOf Tryz.f30 := by kernel_rfl

theorem fine_ok {H : AHeap} {sl : AV} {br n cap m i : Nat} {c : List AV} {e : Int} (h1 : sl.one = true) (hi : i < n) (hb : br < H.next) (hg : H.get br = some (.cells c)) (he : c[i * 11]? = some (.int .i64 e)) :
    CallOK EE Tryz.prog 30 [.agg [sl, .slice (some (br, 0)) n cap m], .int .i64 (.ofNat i)] H (· = .ret (.bool (ieq e 0)) H) := by
  refine CallOK.pure rfl ?_
  refine call_of EE_ok (a := ⟨12, [.tmp 4], _⟩) F30 rfl ?_
  refine seq_of EE_ok (region_of EE_ok rfl ?_)
  refine o_eff (d := 2) rfl rfl rfl rfl (e_box rfl rfl) ?_
  refine o_val (d := 4) rfl rfl rfl rfl ?_
  refine seq_of EE_ok (region_of EE_ok rfl ?_)
  have hne : br ≠ H.next := by omega
  refine o_val (d := 5) rfl rfl rfl (v_field rfl (k := 1) (by kernel_rfl)) ?_
  refine o_val (d := 6) rfl rfl rfl (v_load1 rfl (by kernel_rfl) (AHeap.get_push _ _ _ |>.trans (if_pos rfl)) rfl) ?_
  refine o_val (d := 7) rfl rfl rfl rfl ?_
  refine o_val (d := 8) rfl rfl rfl (v_index rfl rfl (n := 11) (by kernel_rfl) hi) ?_
  refine o_val (d := 9) rfl rfl rfl (v_field rfl (k := 0) (by kernel_rfl)) ?_
  refine o_val (d := 10) rfl rfl rfl (v_load1 rfl (by kernel_rfl) ((AHeap.get_push _ _ _).trans ((if_neg hne).trans hg)) (by simpa using he)) ?_
  refine o_val (d := 11) rfl rfl rfl rfl ?_
  refine o_val (d := 4) rfl rfl rfl rfl ?_
  exact ret_run EE_ok ⟨rfl, _, rfl, _, rfl, Nat.le_refl _⟩
end Go.Proofs
