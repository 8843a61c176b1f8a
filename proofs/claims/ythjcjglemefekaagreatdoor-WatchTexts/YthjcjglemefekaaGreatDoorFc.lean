/- Closed facts on the program and on the row of WatchTexts. -/
import Derived.Test.YthjcjglemefekaaGreatDoorM09
import Derived.Test.YthjcjglemefekaaGreatDoorCards
import Derived.KernelRfl
namespace Go.Proofs.YthjcjglemefekaaGreatDoor
open Go Go.Am
set_option maxRecDepth 100000
theorem k03p0 : (List.range' 0 200).all (fun t => match Tryz.prog.underlying t with | some (.map _ e) => decide (e < Tryz.prog.types.size) | _ => true) = true := by kernel_rfl
theorem k03p1 : (List.range' 200 200).all (fun t => match Tryz.prog.underlying t with | some (.map _ e) => decide (e < Tryz.prog.types.size) | _ => true) = true := by kernel_rfl
theorem k03p2 : (List.range' 400 200).all (fun t => match Tryz.prog.underlying t with | some (.map _ e) => decide (e < Tryz.prog.types.size) | _ => true) = true := by kernel_rfl
theorem k03p3 : (List.range' 600 200).all (fun t => match Tryz.prog.underlying t with | some (.map _ e) => decide (e < Tryz.prog.types.size) | _ => true) = true := by kernel_rfl
theorem k03p4 : (List.range' 800 44).all (fun t => match Tryz.prog.underlying t with | some (.map _ e) => decide (e < Tryz.prog.types.size) | _ => true) = true := by kernel_rfl
theorem k03 : mapsRowed Tryz.prog = true := by
  show (List.range Tryz.prog.types.size).all (fun t => match Tryz.prog.underlying t with | some (.map _ e) => decide (e < Tryz.prog.types.size) | _ => true) = true
  rw [show Tryz.prog.types.size = 844 by kernel_rfl]
  refine range_all [(0, 200), (200, 200), (400, 200), (600, 200), (800, 44)] ?_ ?_
  · intro q hq
    simp only [List.mem_cons, List.mem_nil_iff, or_false] at hq
    rcases hq with rfl | rfl | rfl | rfl | rfl
    · exact k03p0
    · exact k03p1
    · exact k03p2
    · exact k03p3
    · exact k03p4
  · intro t ht
    have : (List.range 844).all (fun t => [(0, 200), (200, 200), (400, 200), (600, 200), (800, 44)].any (fun q : Nat × Nat => Nat.ble q.1 t && Nat.blt t (q.1 + q.2))) = true := by kernel_rfl
    rw [List.all_eq_true] at this
    exact this t (by simpa using ht)
theorem plainp0 : (List.range' 0 200).all (fun t => match Tryz.prog.underlying t with | some (.map k _) => (match Tryz.prog.underlying k with | some (.array _ _) | some (.struct _) => false | _ => true) | _ => true) = true := by kernel_rfl
theorem plainp1 : (List.range' 200 200).all (fun t => match Tryz.prog.underlying t with | some (.map k _) => (match Tryz.prog.underlying k with | some (.array _ _) | some (.struct _) => false | _ => true) | _ => true) = true := by kernel_rfl
theorem plainp2 : (List.range' 400 200).all (fun t => match Tryz.prog.underlying t with | some (.map k _) => (match Tryz.prog.underlying k with | some (.array _ _) | some (.struct _) => false | _ => true) | _ => true) = true := by kernel_rfl
theorem plainp3 : (List.range' 600 200).all (fun t => match Tryz.prog.underlying t with | some (.map k _) => (match Tryz.prog.underlying k with | some (.array _ _) | some (.struct _) => false | _ => true) | _ => true) = true := by kernel_rfl
theorem plainp4 : (List.range' 800 44).all (fun t => match Tryz.prog.underlying t with | some (.map k _) => (match Tryz.prog.underlying k with | some (.array _ _) | some (.struct _) => false | _ => true) | _ => true) = true := by kernel_rfl
theorem plain : Tryz.prog.plainKeys = true := by
  show (List.range Tryz.prog.types.size).all (fun t => match Tryz.prog.underlying t with | some (.map k _) => (match Tryz.prog.underlying k with | some (.array _ _) | some (.struct _) => false | _ => true) | _ => true) = true
  rw [show Tryz.prog.types.size = 844 by kernel_rfl]
  refine range_all [(0, 200), (200, 200), (400, 200), (600, 200), (800, 44)] ?_ ?_
  · intro q hq
    simp only [List.mem_cons, List.mem_nil_iff, or_false] at hq
    rcases hq with rfl | rfl | rfl | rfl | rfl
    · exact plainp0
    · exact plainp1
    · exact plainp2
    · exact plainp3
    · exact plainp4
  · intro t ht
    have : (List.range 844).all (fun t => [(0, 200), (200, 200), (400, 200), (600, 200), (800, 44)].any (fun q : Nat × Nat => Nat.ble q.1 t && Nat.blt t (q.1 + q.2))) = true := by kernel_rfl
    rw [List.all_eq_true] at this
    exact this t (by simpa using ht)
theorem k23 : (Rows.watchTextsRow.plainKeys == Tryz.prog.plainKeys) = true := by
  rw [plain]; rfl
theorem k25 : Tryz.prog.stopsHeard = true := stopsHeard_of (by kernel_rfl)
theorem k26 : Tryz.prog.mayEnter = true := by kernel_rfl
theorem named3 : Tryz.prog.funcNamed Rows.watchTextsRow.func = some 3 := funcNamed_of (by kernel_rfl) (by kernel_rfl) (by kernel_rfl)
theorem k01 : Rows.watchTextsRow.wf (OpenSpec.ofChange Rows.watchTextsSpec) = true := by kernel_rfl
theorem k04 : Tryz.f3.params.all (Tryz.prog.readableRec ·) = true := by kernel_rfl
theorem k05 : namedTie Tryz.prog Rows.watchTextsRow.named Rows.watchTextsSpec.vars = true := by kernel_rfl
theorem k06 : (Rows.watchTextsRow.stops == []) = true := by kernel_rfl
theorem k07 : (Tryz.prog.stops == []) = true := by kernel_rfl
theorem k08 : (Rows.watchTextsRow.knobs == []) = true := by kernel_rfl
theorem k09 : (Tryz.prog.stopKnobs == []) = true := by kernel_rfl
theorem k14 : (Rows.watchTextsRow.maps == (Tryz.f3.params.toList ++ Rows.watchTextsSpec.plain.varTypes Tryz.prog).any (Tryz.prog.mapsRec ·)) = true := by kernel_rfl
theorem k15 : (Rows.watchTextsRow.ifaces == (Tryz.f3.params.toList ++ Rows.watchTextsSpec.plain.varTypes Tryz.prog).any (Tryz.prog.ifacesRec ·)) = true := by kernel_rfl
theorem k16 : (Rows.watchTextsRow.mapsOut == Tryz.prog.mapsAmong Tryz.f3.resultTypes.toList) = true := by kernel_rfl
theorem k17 : (Rows.watchTextsRow.loops == (Tryz.f3.params.toList ++ Rows.watchTextsSpec.plain.varTypes Tryz.prog).any (Tryz.prog.loopsFrom ·)) = true := by kernel_rfl
theorem k18 : (Rows.watchTextsRow.wideKeys == (Tryz.f3.params.toList ++ Rows.watchTextsSpec.plain.varTypes Tryz.prog ++ Tryz.f3.resultTypes.toList).any (Tryz.prog.wideKeysFrom ·)) = true := by kernel_rfl
theorem k19 : Rows.watchTextsSpec.vars.all (Tryz.prog.varReadable ·) = true := by kernel_rfl
theorem k20 : Tryz.f3.resultTypes.all (fun t => Tryz.prog.readableRec t && decide (t < Tryz.prog.types.size)) = true := by kernel_rfl
theorem k21 : (Rows.watchTextsRow.ifacesOut == Tryz.f3.resultTypes.toList.any (Tryz.prog.ifacesRec ·)) = true := by kernel_rfl
theorem k22 : (Rows.watchTextsRow.loopsOut == Tryz.f3.resultTypes.toList.any (Tryz.prog.loopsFrom ·)) = true := by kernel_rfl
theorem k24 : Rows.watchTextsRow.shortTexts.isNone = true := by kernel_rfl
theorem k27 : (Rows.watchTextsRow.lifted == Tryz.prog.liftsFinal) = true := by kernel_rfl
theorem k28 : (Tryz.prog.make == some Rows.watchTextsRow.make) = true := by kernel_rfl
theorem k29 : (Rows.watchTextsRow.kinds == (if Rows.watchTextsRow.domain.isEmpty then [] else Tryz.f3.params.toList.map fun t => match Tryz.prog.underlying t with | some (.int k) => some k | _ => none)) = true := by kernel_rfl
theorem k30 : (Rows.watchTextsRow.pinned == Rows.watchTextsRow.pinnedBy) = true := by kernel_rfl
theorem k31 : (Rows.watchTextsRow.veiled == (Tryz.f3.params.toList ++ Rows.watchTextsSpec.plain.varTypes Tryz.prog ++ Tryz.f3.resultTypes.toList).any (Tryz.prog.veiledRec ·)) = true := by kernel_rfl
theorem k32 : Rows.watchTextsRow.veiledFits Tryz.prog Tryz.f3.params.toList (Tryz.f3.params.toList ++ Rows.watchTextsSpec.plain.varTypes Tryz.prog ++ Tryz.f3.resultTypes.toList) = true := by kernel_rfl
end Go.Proofs.YthjcjglemefekaaGreatDoor
