/- WatchBounds: whatever two numbers come in, the law answers true; the tied card, without condition. -/
import Derived.Test.YthjcjglemefekaaGreatDoorC2
import Derived.Test.YthjcjglemefekaaGreatDoorFa4
import Derived.Test.YthjcjglemefekaaGreatDoorFb
import Derived.Test.YthjcjglemefekaaGreatDoorFc4
import Derived.Test.YthjcjglemefekaaGreatDoorFd
import Derived.SevenTiedAt
import Derived.LaidSub
namespace Go.Proofs.YthjcjglemefekaaGreatDoor
open Go Go.ChangeShapes Go.WideShapes Go.ChangeAt Go.RowKit Go.Am
set_option maxRecDepth 100000

theorem closed : joinedFacts Tryz.prog 4 Tryz.f4 Rows.watchBoundsSpec Rows.watchBoundsRow = true := by
  unfold joinedFacts
  exact andT (andT (andT (andT (andT (andT (andT (andT (andT (andT (andT (andT (andT (andT (andT (andT (andT (andT (andT (andT (andT (andT (andT (andT (andT (andT (andT (andT (andT (andT (andT k01 k02) k03) k04) k05) k06) k07) k08) k09) k10) k11) k12) k13) k14) k15) k16) k17) k18) k19) k20) k21) k22) k23) k24) k25) k26) k27) k28) k29) k30) k31) k32
theorem holds : Rows.WatchBoundsSaid :=
  OpenClaim.holds_of_wide 4 Tryz.f4 rfl rfl rfl rfl rfl rfl rfl ⟨rfl, rfl, rfl, rfl, rfl⟩ rfl rfl rfl rfl rfl named4 Tryz.func4 closed
    (of_decide_eq_true (by kernel_rfl)) (by unfold Func.isWrapper; first | (rw [if_pos (by decide +kernel)]; kernel_rfl) | (rw [if_neg (by decide +kernel)]; exact ⟨rfl, rfl⟩))
    (fun os started H enc _ => lifted os started H enc)

theorem pin_first : Tryz.pinned.checked.prog.pinnedFits "unicode/utf8.first" = true := by kernel_rfl
theorem noOwnUnsafe' : Tryz.pinned.checked.prog.headLifts.contains "ownunsafe" = false := by kernel_rfl
theorem fits' : Tryz.pinned.checked.prog.listedFits [("math/bits.deBruijn32tab", Rows.laid_math_bits_deBruijn32tab), ("math/bits.deBruijn64tab", Rows.laid_math_bits_deBruijn64tab), ("internal/strconv.uint64pow10", Rows.laid_internal_strconv_uint64pow10), ("unicode/utf8.acceptRanges", Rows.laid_unicode_utf8_acceptRanges), ("unicode/utf8.first", Rows.laid_unicode_utf8_first)] = true := by
  unfold Program.listedFits
  rw [noOwnUnsafe']
  kernel_rfl
theorem row_tie : Rows.watchBoundsRow.laidByTextAt .later Tryz.pinned [.data, .data, .data, .data, .pinned] true :=
  OpenClaim.laidByTextAt_pinned rfl rfl tie1 rfl rfl rfl rfl (fun y hy _e => by
    simp only [Rows.watchBoundsRow, List.zip_cons_cons, List.zip_nil_right, List.mem_cons, List.mem_nil_iff, or_false] at hy
    rcases hy with rfl | rfl | rfl | rfl | rfl
    · cases _e
    · cases _e
    · cases _e
    · cases _e
    · exact ⟨pin_first, by kernel_rfl⟩) fits'
theorem goesFrom4 : Tryz.prog.goesFrom Rows.watchBoundsRow.func = false := by
  unfold Program.goesFrom
  rw [named4, Option.any_some]
  exact goes4
theorem goesAt4 (start : Start) (h : start = .entering) : Tryz.prog.goesAt start Rows.watchBoundsRow.func = false := by
  subst h
  unfold Program.goesAt
  rw [goesFrom4, Bool.false_or]
theorem goes_row : false = Rows.watchBoundsRow.goesBy Tryz.prog := by
  unfold OpenClaim.goesBy
  exact (goesAt4 _ rfl).symm
theorem looks4 : true = Tryz.prog.looks [] := by kernel_rfl
theorem card_holds : Rows.WatchBoundsCardSaid :=
  Claim7.holds_tied_plain_at .later [] [.data, .data, .data, .data, .pinned] true (true, "27f9fd8d4088cc492f5042b5f4a25992130eba9ab5007193f24173a9b895dff8") true holds (fun _ h => by cases h) (by kernel_rfl) (fun _ h => by cases h) row_tie rfl ⟨rfl, rfl⟩ (by kernel_rfl) rfl
    (fun f fn hf hfn => by
      obtain rfl : f = 4 := Option.some.inj (named4.symm.trans hf) |>.symm
      obtain rfl : fn = Tryz.f4 := (Option.some.inj (Tryz.func4.symm.trans hfn)).symm
      exact ⟨looks4, fun j t ht => by
        rw [Tryz.params4] at ht
        have hm : t ∈ [3, 3] := by simpa using Array.mem_of_getElem? ht
        have hall : ([3, 3].all fun u => !Tryz.prog.wantsStandIn u) = true := by kernel_rfl
        exact (show Tryz.prog.wantsStandIn t = false by simpa using List.all_eq_true.1 hall t hm)⟩)
    goes_row
#print axioms card_holds
end Go.Proofs.YthjcjglemefekaaGreatDoor
