/- WatchBounds: the short ways, run; all ways together. -/
import Derived.Test.YthjcjglemefekaaGreatDoorB8
namespace Go.Proofs
open Go Go.Am Go.RowKit
noncomputable def worksP (_ : FF) (args : List AV) (H : FHeap) (ret : AV → FHeap → Ans) : Ans := listK args (ret (.bool true) H) fun _ _ => Go.Am.bad
noncomputable def prs4 : PrimsK := fun f => match f with | 10 => some worksP | _ => none
theorem prs4_ok : PrimsKOK EE Tryz.prog prs4 := by
  intro F hF f p hp args H ret pan r h
  unfold prs4 at hp
  split at hp
  · rw [← Option.some.inj hp] at h
    rcases listK_s h with ⟨e, h⟩ | ⟨_, _, _, h⟩
    · subst e
      refine CallOK.mono ?_ (works_ok H.abs)
      rintro q rfl
      exact ⟨H, rfl, h⟩
    · cases h
  · cases hp
noncomputable def ev4 (a b : Int) : Ans := (ff EE prs4 100000).call 4 [.int .i64 a, .int .i64 b] (FHeap.empty 0) (fun v H => some (v, H)) (fun _ _ => none)
theorem light {a b : Int} (h : isT (ev4 a b) = true) (w : World) : Calls Tryz.prog 4 #[.int .i64 a, .int .i64 b] w fun e w' => e = .returned (.bool true) ∧ Below w.heap.size w w' := by
  obtain ⟨H, h⟩ := isT_s h
  have hg : Glob EE (fun _ => none) := ⟨fun g hg => absurd hg (Nat.not_lt_zero g), Ren.le.refl _⟩
  refine (calls_of_run (n := 99999) EE_ok prs4_ok rfl h (empty_rel w) hg («as» := [.int .i64 a, .int .i64 b]) ⟨_, _, rfl, rfl, _, _, rfl, rfl, rfl⟩).mono ?_
  rintro e w' ⟨v', ι', rfl, hv, _, he⟩
  simp only [VRel] at hv; subst hv
  refine ⟨rfl, he.below ?_⟩
  rintro b' ⟨b, o, s, _, hi⟩
  cases hi
theorem l1 : isT (ev4 (-1) 1) = true := by kernel_rfl
theorem l2 : isT (ev4 (-1) 2) = true := by kernel_rfl
theorem l3 : isT (ev4 0 1) = true := by kernel_rfl
theorem l4 : isT (ev4 0 2) = true := by kernel_rfl
theorem l5 : isT (ev4 1 0) = true := by kernel_rfl
theorem l6 : isT (ev4 1 1) = true := by kernel_rfl
theorem l7 : isT (ev4 1 2) = true := by kernel_rfl

theorem plain4 {a b : Int} (w : World) (h : runBody EE (Fsem EE Tryz.prog) 4 [.int .i64 a, .int .i64 b] .off (FHeap.abs (FHeap.empty 0)) fun _ r => ∃ H', r = .ret (.bool true) H') :
    Calls Tryz.prog 4 #[.int .i64 a, .int .i64 b] w fun e w' => e = .returned (.bool true) ∧ Below w.heap.size w w' :=
  calls_plain EE_ok rfl rfl (args := [.int .i64 a, .int .i64 b]) («as» := [.int .i64 a, .int .i64 b]) ⟨_, _, rfl, rfl, _, _, rfl, rfl, rfl⟩ h
theorem watchBounds_walk (a b : Int) (w : World) : Calls Tryz.prog 4 #[.int .i64 a, .int .i64 b] w fun e w' => e = .returned (.bool true) ∧ Below w.heap.size w w' := by
  cases f1 : ilt a (-1)
  case true => exact plain4 w (out4a f1)
  cases f2 : ilt 1 a
  case true => exact plain4 w (out4b f1 f2)
  cases f3 : ilt b 0
  case true => exact plain4 w (out4c f1 f2 f3)
  cases f4 : ilt 2 b
  case true => exact plain4 w (out4d f1 f2 f3 f4)
  have g1 := f1
  have g2 := f2
  have g3 := f3
  have g4 := f4
  rw [ilt_eq, decide_eq_false_iff_not] at g1 g2 g3 g4
  have ca : a = -1 ∨ a = 0 ∨ a = 1 := by omega
  have cb : b = 0 ∨ b = 1 ∨ b = 2 := by omega
  rcases ca with rfl | rfl | rfl <;> rcases cb with rfl | rfl | rfl
  · exact plain4 w (heavy4 (n := 4095) rfl rfl rfl rfl rfl (by omega) (by omega))
  · exact light l1 w
  · exact light l2 w
  · exact plain4 w (heavy4 (n := 4096) rfl rfl rfl rfl rfl (by omega) (by omega))
  · exact light l3 w
  · exact light l4 w
  · exact light l5 w
  · exact light l6 w
  · exact light l7 w
#print axioms watchBounds_walk
end Go.Proofs
