/- works() answers true, for every tape. -/
import Derived.Test.YthjcjglemefekaaGreatDoorEnv
import Derived.Test.YthjcjglemefekaaGreatDoorShelf
namespace Go.Proofs
open Go Go.Am Go.RowKit
noncomputable def prs : PrimsK := fun f => match f with | 360 => some (someP EE 320) | 218 => some (countP EE 381) | 161 => some cloneP | 34 => some joinP | _ => none

theorem joinLaw : JoinLaw Tryz.prog 34 :=
  ⟨fun args w => Enters.run (P := Tryz.prog) ⟨Tryz.f34, Tryz.func34, by kernel_rfl, by kernel_rfl⟩ args w, fun a c sep w => Tryz.strings_Join_none a c sep w,
    fun bk o c xs sep w h1 h2 h3 h4 h5 => Tryz.strings_Join bk o c xs sep w h1 h2 h3 h4 h5⟩
theorem prs_ok : PrimsKOK EE Tryz.prog prs := by
  intro F hF f p hp args H ret pan r h
  unfold prs at hp
  split at hp
  · rw [← Option.some.inj hp] at h; exact someP_s EE_ok hF shape360 h
  · rw [← Option.some.inj hp] at h; exact countP_s EE_ok hF shape218 h
  · rw [← Option.some.inj hp] at h; exact cloneP_s (fn := Tryz.f161) Tryz.func161 (by kernel_rfl) (by kernel_rfl) (by kernel_rfl) (by kernel_rfl) h
  · rw [← Option.some.inj hp] at h; exact joinP_s joinLaw h
  · cases hp

noncomputable def ans : Ans := (ff EE prs 100000).call 10 [] (FHeap.empty 0) (fun v H => some (v, H)) (fun _ _ => none)
noncomputable def isT (a : Ans) : Bool := match a with | some (.bool b, _) => b | _ => false
theorem isT_s {a : Ans} (h : isT a = true) : ∃ H, a = some (.bool true, H) := by
  unfold isT at h
  split at h
  · rename_i b H; subst h; exact ⟨H, rfl⟩
  · cases h
theorem works_run : isT ans = true := by kernel_rfl
theorem works_calls (w : World) : Calls Tryz.prog 10 #[] w fun e w' => e = .returned (.bool true) ∧ Below w.heap.size w w' := by
  obtain ⟨H, h⟩ := isT_s works_run
  exact calls_closed (n := 99999) EE_ok rfl rfl prs_ok rfl h w
#print axioms works_calls
end Go.Proofs
