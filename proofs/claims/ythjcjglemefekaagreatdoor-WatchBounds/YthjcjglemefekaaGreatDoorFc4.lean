/- Closed facts on the program and on the row of WatchBounds. -/
import Derived.Test.YthjcjglemefekaaGreatDoorM09
import Derived.Test.YthjcjglemefekaaGreatDoorCards
import Derived.KernelRfl
namespace Go.Proofs.YthjcjglemefekaaGreatDoor
open Go Go.Am
set_option maxRecDepth 100000
theorem k03p0 : (List.range' 0 200).all (fun t => match Tryz.prog.underlying t with | some (.map _ e) => decide (e < Tryz.prog.types.size) | _ => true) = true := by kernel_rfl
theorem k03p1 : (List.range' 200 200).all (fun t => match Tryz.prog.underlying t with | some (.map _ e) => decide (e < Tryz.prog.types.size) | _ => true) = true := by kernel_rfl
theorem k03p2 : (List.range' 400 200).all (fun t => match Tryz.prog.underlying t with | some (.map _ e) => decide (e < Tryz.prog.types.size) | _ => true) = true := by kernel_rfl
theorem k03p3 : (List.range' 600 200).all (fun t => match Tryz.prog.underlying t with | some (.map _ e) => decide (e < Tryz.prog.types.size) | _ => true) = true := by kernel_rfl
theorem k03p4 : (List.range' 800 44).all (fun t => match Tryz.prog.underlying t with | some (.map _ e) => decide (e < Tryz.prog.types.size) | _ => true) = true := by kernel_rfl
theorem k03 : mapsRowed Tryz.prog = true := by
  show (List.range Tryz.prog.types.size).all (fun t => match Tryz.prog.underlying t with | some (.map _ e) => decide (e < Tryz.prog.types.size) | _ => true) = true
  rw [show Tryz.prog.types.size = 844 by kernel_rfl]
  refine range_all [(0, 200), (200, 200), (400, 200), (600, 200), (800, 44)] ?_ ?_
  · intro q hq
    simp only [List.mem_cons, List.mem_nil_iff, or_false] at hq
    rcases hq with rfl | rfl | rfl | rfl | rfl
    · exact k03p0
    · exact k03p1
    · exact k03p2
    · exact k03p3
    · exact k03p4
  · intro t ht
    have : (List.range 844).all (fun t => [(0, 200), (200, 200), (400, 200), (600, 200), (800, 44)].any (fun q : Nat × Nat => Nat.ble q.1 t && Nat.blt t (q.1 + q.2))) = true := by kernel_rfl
    rw [List.all_eq_true] at this
    exact this t (by simpa using ht)
theorem plainp0 : (List.range' 0 200).all (fun t => match Tryz.prog.underlying t with | some (.map k _) => (match Tryz.prog.underlying k with | some (.array _ _) | some (.struct _) => false | _ => true) | _ => true) = true := by kernel_rfl
theorem plainp1 : (List.range' 200 200).all (fun t => match Tryz.prog.underlying t with | some (.map k _) => (match Tryz.prog.underlying k with | some (.array _ _) | some (.struct _) => false | _ => true) | _ => true) = true := by kernel_rfl
theorem plainp2 : (List.range' 400 200).all (fun t => match Tryz.prog.underlying t with | some (.map k _) => (match Tryz.prog.underlying k with | some (.array _ _) | some (.struct _) => false | _ => true) | _ => true) = true := by kernel_rfl
theorem plainp3 : (List.range' 600 200).all (fun t => match Tryz.prog.underlying t with | some (.map k _) => (match Tryz.prog.underlying k with | some (.array _ _) | some (.struct _) => false | _ => true) | _ => true) = true := by kernel_rfl
theorem plainp4 : (List.range' 800 44).all (fun t => match Tryz.prog.underlying t with | some (.map k _) => (match Tryz.prog.underlying k with | some (.array _ _) | some (.struct _) => false | _ => true) | _ => true) = true := by kernel_rfl
theorem plain : Tryz.prog.plainKeys = true := by
  show (List.range Tryz.prog.types.size).all (fun t => match Tryz.prog.underlying t with | some (.map k _) => (match Tryz.prog.underlying k with | some (.array _ _) | some (.struct _) => false | _ => true) | _ => true) = true
  rw [show Tryz.prog.types.size = 844 by kernel_rfl]
  refine range_all [(0, 200), (200, 200), (400, 200), (600, 200), (800, 44)] ?_ ?_
  · intro q hq
    simp only [List.mem_cons, List.mem_nil_iff, or_false] at hq
    rcases hq with rfl | rfl | rfl | rfl | rfl
    · exact plainp0
    · exact plainp1
    · exact plainp2
    · exact plainp3
    · exact plainp4
  · intro t ht
    have : (List.range 844).all (fun t => [(0, 200), (200, 200), (400, 200), (600, 200), (800, 44)].any (fun q : Nat × Nat => Nat.ble q.1 t && Nat.blt t (q.1 + q.2))) = true := by kernel_rfl
    rw [List.all_eq_true] at this
    exact this t (by simpa using ht)
theorem k23 : (Rows.watchBoundsRow.plainKeys == Tryz.prog.plainKeys) = true := by
  rw [plain]; rfl
theorem k25 : Tryz.prog.stopsHeard = true := stopsHeard_of (by kernel_rfl)
theorem k26 : Tryz.prog.mayEnter = true := by kernel_rfl
theorem named4 : Tryz.prog.funcNamed Rows.watchBoundsRow.func = some 4 := funcNamed_of (by kernel_rfl) (by kernel_rfl) (by kernel_rfl)
theorem k01 : Rows.watchBoundsRow.wf (OpenSpec.ofChange Rows.watchBoundsSpec) = true := by kernel_rfl
theorem k04 : Tryz.f4.params.all (Tryz.prog.readableRec ·) = true := by kernel_rfl
theorem k05 : namedTie Tryz.prog Rows.watchBoundsRow.named Rows.watchBoundsSpec.vars = true := by kernel_rfl
theorem k06 : (Rows.watchBoundsRow.stops == []) = true := by kernel_rfl
theorem k07 : (Tryz.prog.stops == []) = true := by kernel_rfl
theorem k08 : (Rows.watchBoundsRow.knobs == []) = true := by kernel_rfl
theorem k09 : (Tryz.prog.stopKnobs == []) = true := by kernel_rfl
theorem k14 : (Rows.watchBoundsRow.maps == (Tryz.f4.params.toList ++ Rows.watchBoundsSpec.plain.varTypes Tryz.prog).any (Tryz.prog.mapsRec ·)) = true := by kernel_rfl
theorem k15 : (Rows.watchBoundsRow.ifaces == (Tryz.f4.params.toList ++ Rows.watchBoundsSpec.plain.varTypes Tryz.prog).any (Tryz.prog.ifacesRec ·)) = true := by kernel_rfl
theorem k16 : (Rows.watchBoundsRow.mapsOut == Tryz.prog.mapsAmong Tryz.f4.resultTypes.toList) = true := by kernel_rfl
theorem k17 : (Rows.watchBoundsRow.loops == (Tryz.f4.params.toList ++ Rows.watchBoundsSpec.plain.varTypes Tryz.prog).any (Tryz.prog.loopsFrom ·)) = true := by kernel_rfl
theorem k18 : (Rows.watchBoundsRow.wideKeys == (Tryz.f4.params.toList ++ Rows.watchBoundsSpec.plain.varTypes Tryz.prog ++ Tryz.f4.resultTypes.toList).any (Tryz.prog.wideKeysFrom ·)) = true := by kernel_rfl
theorem k19 : Rows.watchBoundsSpec.vars.all (Tryz.prog.varReadable ·) = true := by kernel_rfl
theorem k20 : Tryz.f4.resultTypes.all (fun t => Tryz.prog.readableRec t && decide (t < Tryz.prog.types.size)) = true := by kernel_rfl
theorem k21 : (Rows.watchBoundsRow.ifacesOut == Tryz.f4.resultTypes.toList.any (Tryz.prog.ifacesRec ·)) = true := by kernel_rfl
theorem k22 : (Rows.watchBoundsRow.loopsOut == Tryz.f4.resultTypes.toList.any (Tryz.prog.loopsFrom ·)) = true := by kernel_rfl
theorem k24 : Rows.watchBoundsRow.shortTexts.isNone = true := by kernel_rfl
theorem k27 : (Rows.watchBoundsRow.lifted == Tryz.prog.liftsFinal) = true := by kernel_rfl
theorem k28 : (Tryz.prog.make == some Rows.watchBoundsRow.make) = true := by kernel_rfl
theorem k29 : (Rows.watchBoundsRow.kinds == (if Rows.watchBoundsRow.domain.isEmpty then [] else Tryz.f4.params.toList.map fun t => match Tryz.prog.underlying t with | some (.int k) => some k | _ => none)) = true := by kernel_rfl
theorem k30 : (Rows.watchBoundsRow.pinned == Rows.watchBoundsRow.pinnedBy) = true := by kernel_rfl
theorem k31 : (Rows.watchBoundsRow.veiled == (Tryz.f4.params.toList ++ Rows.watchBoundsSpec.plain.varTypes Tryz.prog ++ Tryz.f4.resultTypes.toList).any (Tryz.prog.veiledRec ·)) = true := by kernel_rfl
theorem k32 : Rows.watchBoundsRow.veiledFits Tryz.prog Tryz.f4.params.toList (Tryz.f4.params.toList ++ Rows.watchBoundsSpec.plain.varTypes Tryz.prog ++ Tryz.f4.resultTypes.toList) = true := by kernel_rfl
end Go.Proofs.YthjcjglemefekaaGreatDoor
