/- The types lie as they should. -/
import Derived.Test.YthjcjglemefekaaGreatDoorM09
import Derived.Test.YthjcjglemefekaaGreatDoorProg
import Derived.KernelRfl
namespace Go.Proofs.YthjcjglemefekaaGreatDoor
open Go Go.Am
theorem fine0 : (List.range' 0 100).all (rowFine Tryz.prog) = true := by kernel_rfl
theorem fine1 : (List.range' 100 100).all (rowFine Tryz.prog) = true := by kernel_rfl
theorem fine2 : (List.range' 200 100).all (rowFine Tryz.prog) = true := by kernel_rfl
theorem fine3 : (List.range' 300 100).all (rowFine Tryz.prog) = true := by kernel_rfl
theorem fine4 : (List.range' 400 100).all (rowFine Tryz.prog) = true := by kernel_rfl
theorem fine5 : (List.range' 500 100).all (rowFine Tryz.prog) = true := by kernel_rfl
theorem fine6 : (List.range' 600 100).all (rowFine Tryz.prog) = true := by kernel_rfl
theorem fine7 : (List.range' 700 100).all (rowFine Tryz.prog) = true := by kernel_rfl
theorem fine8 : (List.range' 800 44).all (rowFine Tryz.prog) = true := by kernel_rfl
theorem fineAll : (List.range Tryz.prog.types.size).all (rowFine Tryz.prog) = true := by
  rw [show Tryz.prog.types.size = 844 by kernel_rfl]
  refine range_all [(0, 100), (100, 100), (200, 100), (300, 100), (400, 100), (500, 100), (600, 100), (700, 100), (800, 44)] ?_ ?_
  · intro q hq
    simp only [List.mem_cons, List.mem_nil_iff, or_false] at hq
    rcases hq with rfl | rfl | rfl | rfl | rfl | rfl | rfl | rfl | rfl
    · exact fine0
    · exact fine1
    · exact fine2
    · exact fine3
    · exact fine4
    · exact fine5
    · exact fine6
    · exact fine7
    · exact fine8
  · intro t ht
    have : (List.range 844).all (fun t => [(0, 100), (100, 100), (200, 100), (300, 100), (400, 100), (500, 100), (600, 100), (700, 100), (800, 44)].any (fun q : Nat × Nat => Nat.ble q.1 t && Nat.blt t (q.1 + q.2))) = true := by kernel_rfl
    rw [List.all_eq_true] at this
    exact this t (by simpa using ht)
theorem k02 : laidOutB Tryz.prog = true := laidOut_of fineAll (by kernel_rfl) (by kernel_rfl)
end Go.Proofs.YthjcjglemefekaaGreatDoor
