/- A machine that runs the program's code, right of the model for every tape; no condition. The fast machine's short cuts, right of the model: whether one of a map's values is such, how many are; the like of a map. What is taken by contract: maps.clone and strings.Join. From a run of the fast machine to what the walk's laws call a call; equality of structs of numbers. Closed facts on a great program, in ways that cost the kernel little: what a function comes to; looks over all functions and types. -/
import Derived.Test.YthjcjglemefekaaGreatDoorM08
import Derived.Below
import Derived.Laws.Externs
import Derived.Lib.Join
import Derived.Test.YthjcjglemefekaaGreatDoorM03
import Derived.JoinedOf
import GoSem.ClaimGoes
import GoSem.ClaimLaidByText
/-! FxJ -/
namespace Go.Am

section
variable {E : Env} {P : Program} {r : AV × FHeap}

/-- What a call answers, as a yes or no. -/
noncomputable def ansB (F : FF) (g : FuncId) (first cap : List AV) (H : FHeap) (e : AEntry) : Bool :=
  match F.call g (first ++ (e.val :: cap)) ⟨H.m, H.next, H.next⟩ (fun v H' => some (v, H')) (fun _ _ => bad) with
  | some (.bool b, _) => b
  | _ => false

theorem pureB_s {F : FF} {g : FuncId} {args : List AV} {H : FHeap} {k : Bool → Ans} (h : pureB F g args H k = some r) :
    ∃ b H', F.call g args ⟨H.m, H.next, H.next⟩ (fun v H' => some (v, H')) (fun _ _ => bad) = some (.bool b, H') ∧ H.next ≤ H'.low ∧ k b = some r := by
  obtain ⟨⟨v, H'⟩, hc, h⟩ := oK_s h
  obtain ⟨hl, h⟩ := bK_t (show bK (Nat.ble H.next H'.low) (v.asBool k bad) bad = some r from h)
  obtain ⟨b, e0, h⟩ := asBool_b h
  subst e0
  exact ⟨b, H', hc, Nat.le_of_ble_eq_true hl, by assumption⟩

theorem askK_s {F : FF} {g : FuncId} {first cap : List AV} {H : FHeap} : ∀ {es : List AEntry} {n : Nat} {k : Nat → Ans}, askK F g first cap H es n k = some r →
    (∀ e ∈ es, ∃ H', F.call g (first ++ (e.val :: cap)) ⟨H.m, H.next, H.next⟩ (fun v H' => some (v, H')) (fun _ _ => bad) = some (.bool (ansB F g first cap H e), H') ∧ H.next ≤ H'.low) ∧
    k (n + es.countP (ansB F g first cap H)) = some r
  | [], n, k, h => ⟨fun _ he => (by cases he), h⟩
  | e :: es, n, k, h => by
    obtain ⟨b, H', hc, hl, h⟩ := pureB_s (show pureB F g (first ++ (e.val :: cap)) H (fun b => bK b (askK F g first cap H es (n + 1) k) (askK F g first cap H es n k)) = some r from h)
    have hb : ansB F g first cap H e = b := by unfold ansB; rw [hc]
    rcases bK_s h with ⟨e1, h⟩ | ⟨e1, h⟩
    · obtain ⟨h1, h2⟩ := askK_s h
      refine ⟨?_, ?_⟩
      · intro x hx
        rcases List.mem_cons.1 hx with rfl | hx
        · exact ⟨H', by rw [hb]; exact hc, hl⟩
        · exact h1 x hx
      · rw [List.countP_cons, hb, e1, if_pos rfl]
        rw [show n + (es.countP (ansB F g first cap H) + 1) = n + 1 + es.countP (ansB F g first cap H) by omega]
        exact h2
    · obtain ⟨h1, h2⟩ := askK_s h
      refine ⟨?_, ?_⟩
      · intro x hx
        rcases List.mem_cons.1 hx with rfl | hx
        · exact ⟨H', by rw [hb]; exact hc, hl⟩
        · exact h1 x hx
      · rw [List.countP_cons, hb, e1, if_neg (by decide)]
        exact h2

theorem askOK_s {size clock : Nat} : ∀ {es : List AEntry} {lo : Nat}, (List.rec (motive := fun _ => Nat → Bool) (fun lo => Nat.ble lo clock)
    (fun e _ ih lo => Bool.rec (motive := fun _ => Bool) false (Bool.rec (motive := fun _ => Bool) false (ih (Nat.succ e.born)) (match e.val with | .agg cs => lenIs cs size | _ => false)) (Nat.ble lo e.born)) es : Nat → Bool) lo = true →
    lo ≤ clock ∧ (∀ e ∈ es, lo ≤ e.born ∧ e.born < clock ∧ ∃ cs, e.val = .agg cs ∧ cs.length = size) ∧ (es.map (·.born)).Nodup
  | [], lo, h => ⟨Nat.le_of_ble_eq_true h, (fun _ he => by cases he), List.nodup_nil⟩
  | e :: es, lo, h => by
    have h : Bool.rec (motive := fun _ => Bool) false (Bool.rec (motive := fun _ => Bool) false ((List.rec (motive := fun _ => Nat → Bool) (fun lo => Nat.ble lo clock)
      (fun e _ ih lo => Bool.rec (motive := fun _ => Bool) false (Bool.rec (motive := fun _ => Bool) false (ih (Nat.succ e.born)) (match e.val with | .agg cs => lenIs cs size | _ => false)) (Nat.ble lo e.born)) es : Nat → Bool) (e.born + 1)) (match e.val with | .agg cs => lenIs cs size | _ => false)) (Nat.ble lo e.born) = true := h
    cases h1 : Nat.ble lo e.born with
    | false => rw [h1] at h; cases h
    | true =>
      rw [h1] at h
      cases h2 : (match e.val with | .agg cs => lenIs cs size | _ => false) with
      | false => rw [h2] at h; cases h
      | true =>
        rw [h2] at h
        obtain ⟨g1, g2, g3⟩ := askOK_s (es := es) (lo := e.born + 1) h
        have h1 := Nat.le_of_ble_eq_true h1
        have hv : ∃ cs, e.val = .agg cs ∧ cs.length = size := by
          split at h2
          · rename_i cs hcs; exact ⟨cs, hcs, lenIs_eq h2⟩
          · cases h2
        refine ⟨by omega, ?_, ?_⟩
        · intro x hx
          rcases List.mem_cons.1 hx with rfl | hx
          · exact ⟨h1, by omega, hv⟩
          · obtain ⟨q1, q2, q3⟩ := g2 x hx
            exact ⟨by omega, q2, q3⟩
        · rw [List.map_cons, List.nodup_cons]
          refine ⟨?_, g3⟩
          intro hm
          obtain ⟨x, hx, he⟩ := List.mem_map.1 hm
          have := (g2 x hx).1
          omega

theorem askSize_s {vt : TypeId} {size : Nat} (h : askSize E vt = some size) : ∃ i z, E.T vt = some i ∧ i.zero = some z ∧ z.nt = true ∧ z.cells.length = i.size ∧ isAggD i.desc = true ∧ size = i.size := by
  unfold askSize at h
  split at h
  · rename_i i hi
    split at h
    · rename_i z hz
      cases hc : (z.nt && (Nat.beq z.cells.length i.size && isAggD i.desc)) with
      | false => rw [hc] at h; cases h
      | true =>
        rw [hc] at h
        cases h
        simp only [Bool.and_eq_true, Nat.beq_eq] at hc
        exact ⟨i, z, hi, hz, hc.1, hc.2.1, hc.2.2, rfl⟩
    · cases h
  · cases h

theorem mem_rel {ι : Ren} {es : List AEntry} {es' : List MapEntry} (h : AllRel (EntRel ι) es es') {e : AEntry} (he : e ∈ es) : ∃ u, VRel ι e.val u := by
  induction h with
  | nil => cases he
  | cons q1 _ ih =>
    rcases List.mem_cons.1 he with h1 | h1
    · subst h1; exact ⟨_, q1.2.1⟩
    · exact ih h1

/-- What 'askP' has seen. -/
theorem askP_s {vt : TypeId} {F : FF} (hF : FFOK E P F) {args : List AV} {H : FHeap} {k : Nat → Ans} (h : askP E vt F args H k = some r) :
    ∃ m g first cap es since, ∃ p : AEntry → Bool, args = [.map (some m), .func (.func g) first cap] ∧ es.length < 9223372036854775807 ∧ k (es.countP p) = some r ∧
      ∀ {ι0 : Ren} {w0 : World} {as0 : List Value}, HRel ι0 H.abs w0 → Glob E ι0 → VRels ι0 args as0 → AskSetup E P H.abs m since es vt g first cap p ι0 := by
  obtain ⟨size, hsz, h⟩ := oK_s h
  rcases listK_s h with ⟨_, h⟩ | ⟨a1, l1, e1, h⟩
  · cases h
  rcases listK_s h with ⟨_, h⟩ | ⟨a2, l2, e2, h⟩
  · cases h
  rcases listK_s h with ⟨e3, h⟩ | ⟨_, _, _, h⟩
  case inr => cases h
  obtain ⟨q, e4, h1⟩ := asMap_s h
  obtain ⟨m, e5, h2⟩ := oK_s h1
  obtain ⟨fn, first, cap, e6, h3⟩ := asFunc_s h2
  rcases elimK_s h3 with ⟨g, e7, h4⟩ | ⟨_, _, h4⟩
  case inr => cases h4
  obtain ⟨o, ho, h5⟩ := objK_s h4
  obtain ⟨es, since, e8, h6⟩ := asMapO_s h5
  obtain ⟨hok, h7⟩ := bK_t h6
  obtain ⟨hlt, h8⟩ := bK_t h7
  simp only [Bool.and_eq_true] at hlt
  obtain ⟨hpure, h9⟩ := askK_s h8
  subst e2; subst e3; subst e4; subst e5; subst e6; subst e7; subst e8
  subst e1
  have ho : H.abs.get m = some (.map es since) := ho
  obtain ⟨i, z, s1, s2, s3, s4, s5, s6⟩ := askSize_s hsz
  obtain ⟨_, g2, g3⟩ := askOK_s hok
  refine ⟨m, g, first, cap, es, since, ansB F g first cap H, rfl, Nat.le_of_ble_eq_true hlt.2, by rw [Nat.zero_add] at h9; exact h9, ?_⟩
  intro ι0 w0 as0 hr hg ha
  refine ⟨ho, Nat.le_of_ble_eq_true hlt.1, fun e he => (g2 e he).2.1, g3, ⟨i, z, s1, s2, s3, s4, s5, fun e he => ?_⟩, ?_⟩
  · obtain ⟨cs, hcs, hl⟩ := (g2 e he).2.2
    exact ⟨cs, hcs, by rw [hl, s6]⟩
  · intro e he H' hsub hnext
    obtain ⟨H1, hc, hlow⟩ := hpure e he
    have hcall := hF.call hc
    have hp : PureOK E P g (first ++ [e.val] ++ cap) H.abs (.bool (ansB F g first cap H e)) := by
      refine ⟨rfl, ?_⟩
      have e9 : first ++ [e.val] ++ cap = first ++ (e.val :: cap) := by simp
      rw [e9]
      refine CallOK.mono ?_ hcall
      intro q hq
      cases q with
      | ret v H2 =>
        obtain ⟨H3, rfl, hq⟩ := hq
        simp only [Option.some.injEq, Prod.mk.injEq] at hq
        obtain ⟨rfl, rfl⟩ := hq
        exact ⟨_, rfl, hlow⟩
      | pan v H2 =>
        obtain ⟨H3, rfl, hq⟩ := hq
        cases hq
    -- the values that the call is handed, as they are there
    obtain ⟨v, vs, rfl, hv1, v2, vs2, rfl, hv2, hv3⟩ := ha
    obtain ⟨r', hr', hr''⟩ := hv1
    have hobj := hr.obj m _ _ _ ho hr'
    obtain ⟨b', s, o', hb, hw, hor⟩ := hobj
    obtain ⟨_, es', _, hall⟩ := hor
    obtain ⟨f', a', c', hf1, hf2, hf3, _⟩ := hv2
    have hval : ∃ u, VRel ι0 e.val u := mem_rel hall he
    obtain ⟨u, hu⟩ := hval
    have hargs : VRels ι0 (first ++ [e.val] ++ cap) (a' ++ [u] ++ c') := (hf2.append (.cons hu .nil)).append hf3
    exact hp.lift hr hg hargs hsub

/-- The shapes of the two functions. -/
structure SomeShape (E : Env) (f : FuncId) (vt : TypeId) : Prop where
  ok : ∃ (i0 i1 i2 i3 i4 i5 i6 : Nat) (o00 o10 o11 o20 o21 o30 o31 o32 o33 o40 o41 o42 o50 o60 : Oper) (c : Call) (mt kt et : TypeId) (ti : TI) (n : Nat),
    AskHead mt (.bool false) o00 o10 o11 ∧ AskOps vt o20 o21 o30 o31 o32 o33 o40 o41 o42 c ∧ Is o50 (some 4) (.assign (.const (.bool true))) ∧ Is o60 (some 4) (.assign (.const (.bool false))) ∧
    E.T mt = some ti ∧ ti.desc = .map kt et ∧ 16 ≤ n ∧ E.F f = some ⟨n, [.tmp 4], askBody i0 i1 i2 i3 i4 i6 o00 o10 o11 o20 o21 o30 o31 o32 o33 o40 o41 o42 (.seq (.region i5 #[o50] false) .ret) #[o60]⟩
structure CountShape (E : Env) (f : FuncId) (vt : TypeId) : Prop where
  ok : ∃ (i0 i1 i2 i3 i4 i5 i6 : Nat) (o00 o10 o11 o20 o21 o30 o31 o32 o33 o40 o41 o42 o50 o51 o52 o60 o61 : Oper) (c : Call) (xt yt mt kt et : TypeId) (ti : TI) (n : Nat),
    AskHead mt (.int .i64 0) o00 o10 o11 ∧ AskOps vt o20 o21 o30 o31 o32 o33 o40 o41 o42 c ∧ Is o50 (some 16) (.move (.tmp 4)) ∧ Is o51 (some 17) (.binOp .add xt (.tmp 16) (.const (.int .i64 1)) yt) ∧ Is o52 (some 4) (.assign (.tmp 17)) ∧
    Is o60 (some 18) (.move (.tmp 4)) ∧ Is o61 (some 4) (.assign (.tmp 18)) ∧
    E.T mt = some ti ∧ ti.desc = .map kt et ∧ 19 ≤ n ∧ E.F f = some ⟨n, [.tmp 4], askBody i0 i1 i2 i3 i4 i6 o00 o10 o11 o20 o21 o30 o31 o32 o33 o40 o41 o42 (.region i5 #[o50, o51, o52] false) #[o60, o61]⟩

theorem ask_call {f : FuncId} {args : List AV} {H : FHeap} {v : AV} {ret pan : AV → FHeap → Ans} (hv : v.plain = true) (hret : ret v H = some r)
    (h : ∀ {ι0 : Ren} {w0 : World} {as0 : List Value}, HRel ι0 H.abs w0 → Glob E ι0 → VRels ι0 args as0 → CallOK (E.withBase ι0) P f args H.abs.fresh fun q => ∃ H1, q = .ret v H1 ∧ H.abs.next ≤ H1.low) :
    CallOK E P f args H.abs (RR ret pan r) := by
  intro ι0 w0 as0 hr hg ha
  have hg' : Glob (E.withBase ι0) ι0 := ⟨hg.1, .refl ι0⟩
  have hb := h hr hg ha ι0 w0 as0 hr.fresh hg' ha
  refine Begins.mono ?_ (Begins.lift hr hr (.refl ι0) (fun _ _ => rfl) hv hb)
  rintro q rfl
  exact ⟨H, rfl, hret⟩

theorem someP_s (hE : E.OK P) {F : FF} (hF : FFOK E P F) {f : FuncId} {vt : TypeId} (hs : SomeShape E f vt) {args : List AV} {H : FHeap} {ret pan : AV → FHeap → Ans} (h : someP E vt F args H ret = some r) :
    CallOK E P f args H.abs (RR ret pan r) := by
  obtain ⟨i0, i1, i2, i3, i4, i5, i6, o00, o10, o11, o20, o21, o30, o31, o32, o33, o40, o41, o42, o50, o60, c, mt, kt, et, ti, n, s1, s2, s3, s4, s5, s6, s7, s8⟩ := hs.ok
  obtain ⟨m, g, first, cap, es, since, p, e0, hlen, hk, hset⟩ := askP_s hF h
  subst e0
  have hret : ret (.bool (es.any p)) H = some r := by
    rcases bK_s hk with ⟨h0, hk⟩ | ⟨h0, hk⟩
    · rw [any_of_count (Nat.eq_of_beq_eq_true h0)]; exact hk
    · have : es.any p = true := by
        cases ha : es.any p with
        | true => rfl
        | false =>
          exfalso
          rw [List.any_eq_false] at ha
          have : es.countP p = 0 := List.countP_eq_zero.2 fun x hx => by simpa using ha x hx
          rw [this] at h0; cases h0
      rw [this]; exact hk
  exact ask_call rfl hret fun hr hg ha => some_ok hE (hset hr hg ha) s1 s2 s3 s4 s5 s6 s7 s8

theorem countP_s (hE : E.OK P) {F : FF} (hF : FFOK E P F) {f : FuncId} {vt : TypeId} (hs : CountShape E f vt) {args : List AV} {H : FHeap} {ret pan : AV → FHeap → Ans} (h : Go.Am.countP E vt F args H ret = some r) :
    CallOK E P f args H.abs (RR ret pan r) := by
  obtain ⟨i0, i1, i2, i3, i4, i5, i6, o00, o10, o11, o20, o21, o30, o31, o32, o33, o40, o41, o42, o50, o51, o52, o60, o61, c, xt, yt, mt, kt, et, ti, n, s1, s2, s3, s4, s5, s6, s7, s8, s9, s10, s11⟩ := hs.ok
  obtain ⟨m, g, first, cap, es, since, p, e0, hlen, hk, hset⟩ := askP_s hF h
  subst e0
  exact ask_call rfl hk fun hr hg ha => count_ok hE (hset hr hg ha) s1 s2 s3 s4 s5 s6 s7 s8 s9 hlen s10 s11
end
end Go.Am
/-! FxK -/
namespace Go.Am
open Go.RowKit

section
variable {E : Env} {P : Program} {ι : Ren} {H : AHeap} {w w' : World}

/-- What lay below stands. -/
theorem HRel.below (hr : HRel ι H w) (h : Below w.heap.size w w') : HRel ι H w' ∧ Ext ι H w ι H w' := by
  refine ⟨⟨?_, hr.inj, hr.dom, hr.lt, hr.one, fun b b' s hb => Nat.lt_of_lt_of_le (hr.ran b b' s hb) h.size⟩, ⟨.refl ι, Nat.le_refl _, h.size, fun _ _ h => h, fun b' hb _ => h.block b' hb, Nat.le_refl _, fun _ _ _ => rfl, fun _ _ h => ⟨h, rfl⟩, h.os, h.tape, h.output⟩⟩
  intro b o b' s hb hi
  obtain ⟨b1, s1, o', h1, h2, h3⟩ := hr.obj b o b' s hb hi
  exact ⟨b1, s1, o', h1, by rw [h.block b1 (hr.ran _ _ _ h1)]; exact h2, h3⟩

/-- A contract of the shelf, as the abstract machine wants it. -/
theorem Begins.of_calls {f : FuncId} {as : Array Value} {v : AV} {v' : Value} (hc : Calls P f as w fun e w' => e = .returned v' ∧ Below w.heap.size w w')
    (hent : (callFunc f as).run P w = .ok (.enter f as) w) (hr : HRel ι H w) (hv : VRel ι v v') : Begins P (callFunc f as) ι H w (· = .ret v H) := by
  refine .enter hent fun c cs => ⟨_, rfl, ?_⟩
  obtain ⟨e, w', fr, ⟨rfl, hb⟩, hcomes, _, hl⟩ := hc (c :: cs)
  obtain ⟨g1, g2⟩ := hr.below hb
  exact ⟨ι, v', w', g1, g2, hv, Steps.trans hcomes (.one (step_leave_returned hl))⟩

theorem run_clone {r : Nat} {es : Array MapEntry} {clock : Nat} (t : TypeId) (hb : w.heap[r]? = some (.map es clock)) :
    (Extern.MapsClone.clone #[.iface t (.map (some r))]).run P w = .ok (.iface t (.map (some w.heap.size))) { w with heap := w.heap.push (.map es clock) } := by
  have e : Extern.MapsClone.clone #[.iface t (.map (some r))] = (getObj r >>= fun o => match o with
      | .map entries clock => (newObj (.map entries clock) >>= fun n => pure (.iface t (.map (some n))))
      | _ => stuck "maps.clone: a map expected") := rfl
  have hget : (getObj r).run P w = .ok (.map es clock) w := by simp only [getObj, Sem.run, hb]
  rw [e]
  simp only [Sem.run_bind, hget, Result.andThen_ok, run_newObj, Sem.run_pure]

/-- maps.clone. -/
theorem cloneP_s {F : FF} {f : FuncId} {fn : Func} (hf : P.funcs[f]? = some fn) (hname : (fn.name == "runtime.NumGoroutine") = false)
    (hb : fn.body.isNone = true) (hn : Extern.findNext fn = none) (he : Extern.find fn = some Extern.MapsClone.clone)
    {args : List AV} {H : FHeap} {ret pan : AV → FHeap → Ans} {r : AV × FHeap} (h : cloneP F args H ret = some r) : CallOK E P f args H.abs (RR ret pan r) := by
  rcases listK_s h with ⟨_, h⟩ | ⟨x, l, e1, h⟩
  · cases h
  rcases listK_s h with ⟨e2, h3⟩ | ⟨_, _, _, h3⟩
  case inr => cases h3
  clear h
  subst e2
  subst e1
  split at h3
  case h_2 => cases h3
  rename_i t m
  have h := h3
  clear h3
  obtain ⟨o, ho, h⟩ := objK_s h
  obtain ⟨es, clock, rfl, h⟩ := asMapO_s h
  obtain ⟨H', hH, h⟩ := pushK_s h
  intro ι w as hr hg ha
  simp only [VRels] at ha
  obtain ⟨v, _, rfl, ⟨x', ⟨m', hm, rfl⟩, rfl⟩, rfl⟩ := ha
  have ho : H.abs.get m = some (.map es clock) := ho
  obtain ⟨b', s, o', hb', hw, h0, es', rfl, hall⟩ := hr.obj m _ _ _ ho hm
  rw [hm] at hb'; cases hb'
  have hrun := run_callFunc_extern (w := w) hf hname hb hn he #[.iface t (.map (some m'))]
  rw [show (#[Value.iface t (.map (some m'))] : Array Value) = ⟨[.iface t (.map (some m'))]⟩ from rfl, run_clone t hw] at hrun
  simp only [Result.andThen] at hrun
  have hle : ι.le (ι.add H.abs.next w.heap.size (0, 0)) := Ren.le_add (hr.none_next (Nat.le_refl _))
  obtain ⟨g1, g2⟩ := hr.push (o := .map es clock) (o' := .map ⟨es'⟩ clock) 0 ⟨rfl, es', rfl, hall.imp fun _ _ q => q.mono hle⟩
  have hH : H'.abs = H.abs.push (.map es clock) := hH
  refine .value hrun (ι' := ι.add H.abs.next w.heap.size (0, 0)) (v := .iface t (.map (some H.abs.next))) (H' := H'.abs) ⟨H', rfl, h⟩ ?_ ?_ ⟨_, ⟨w.heap.size, Ren.add_same _ _ _ _, rfl⟩, rfl⟩
  · rw [hH]; exact g1
  · rw [hH]; exact g2

theorem strsK_s : ∀ {l : List AV} {k : List (List UInt8) → Ans} {r : AV × FHeap}, strsK l k = some r → ∃ ss, l = ss.map AV.str ∧ k ss = some r
  | [], _, _, h => ⟨[], rfl, h⟩
  | a :: l, k, r, h => by
    cases a <;> first | (cases h; done) | skip
    rename_i s
    have h : strsK l (fun t => k (s :: t)) = some r := h
    obtain ⟨ss, e, h⟩ := strsK_s h
    exact ⟨s :: ss, by rw [e]; rfl, h⟩

theorem joinL_eq (sep : List UInt8) : ∀ l, joinL sep l = Lib.join l sep
  | [] => rfl
  | s :: t => by
    rw [Lib.join_cons]
    have : ∀ t : List (List UInt8), (List.rec (motive := fun _ => List UInt8) [] (fun u _ ih => sep ++ (u ++ ih)) t : List UInt8) = Lib.joinTail sep t := by
      intro t
      induction t with
      | nil => rfl
      | cons u t ih => simp only [Lib.joinTail, List.map_cons, List.flatten_cons] at ih ⊢; rw [← ih, List.append_assoc]
    show s ++ _ = s ++ _
    rw [this t]

/-- The contract of strings.Join, as the shelf has it. -/
structure JoinLaw (P : Program) (f : FuncId) : Prop where
  enter : ∀ args w, (callFunc f args).run P w = .ok (.enter f args) w
  nil : ∀ (a : Option Addr) (c : Nat) (sep : ByteArray) (w : World), Calls P f #[.slice a 0 c, .string sep] w fun e w' => e = .returned (.string ⟨#[]⟩) ∧ w' = w
  cons : ∀ (bk o c : Nat) (xs : List ByteArray) (sep : ByteArray) (w : World), (∀ (j : Nat) x, xs[j]? = some x → w.cell? ⟨bk, o + j, none⟩ = some (.string x)) →
    bk < w.heap.size → xs.length ≤ 140737488355328 → xs.length ≤ c → (Lib.join (xs.map (·.data.toList)) sep.data.toList).length ≤ 140737488355328 →
    Calls P f #[.slice (some ⟨bk, o, none⟩) xs.length c, .string sep] w fun e w' => e = .returned (.string ⟨(Lib.join (xs.map (·.data.toList)) sep.data.toList).toArray⟩) ∧ Below w.heap.size w w'

theorem joinP_s {F : FF} {f : FuncId} (hJ : JoinLaw P f)
    {args : List AV} {H : FHeap} {ret pan : AV → FHeap → Ans} {r : AV × FHeap} (h : joinP F args H ret = some r) : CallOK E P f args H.abs (RR ret pan r) := by
  rcases listK_s h with ⟨_, h⟩ | ⟨x, l, e1, h⟩
  · cases h
  rcases listK_s h with ⟨_, h⟩ | ⟨sep, l2, e2, h⟩
  · cases h
  rcases listK_s h with ⟨e3, h⟩ | ⟨_, _, _, h⟩
  case inr => cases h
  obtain ⟨p, n, cp, m, e4, h⟩ := asSlice_b h
  obtain ⟨q, e5, h⟩ := oK_s h
  subst e3; subst e2; subst e5; subst e4; subst e1
  obtain ⟨c, hc, h⟩ := cellsK_s h
  obtain ⟨hd1, h⟩ := dropK_s h
  obtain ⟨hd2, h⟩ := takeK_s h
  obtain ⟨ss, hss, h⟩ := strsK_s h
  have hsep : ∃ sp, sep = .str sp := by cases sep <;> first | exact ⟨_, rfl⟩ | (cases h; done)
  obtain ⟨sp, rfl⟩ := hsep
  obtain ⟨hlen, h⟩ := bK_t h
  simp only [Bool.and_eq_true] at hlen
  have hn := Nat.le_of_ble_eq_true hlen.1
  have hj := Nat.le_of_ble_eq_true hlen.2
  rw [joinL_eq] at hj h
  intro ι w as hr hg ha
  simp only [VRels] at ha
  obtain ⟨v, _, rfl, hv, v2, _, rfl, hv2, rfl⟩ := ha
  simp only [VRel] at hv2; subst hv2
  obtain ⟨a, c', rfl, hle1, hle2, _, _, hadr⟩ := hv
  have hl : ss.length = n := by
    have := congrArg List.length hss
    simp only [List.length_take, List.length_drop, List.length_map] at this hd2 ⊢
    omega
  have key : Begins P (callFunc f ⟨[.slice (some a) n c', .string ⟨⟨sp⟩⟩]⟩) ι H.abs w (· = .ret (.str (Lib.join ss sp)) H.abs) := by
    by_cases h0 : n = 0
    · subst h0
      have hs0 : ss = [] := List.length_eq_zero_iff.1 hl
      subst hs0
      refine Begins.of_calls (v' := .string ⟨#[]⟩) ?_ (hJ.enter _ _) hr rfl
      exact (hJ.nil (some a) c' ⟨⟨sp⟩⟩ w).mono fun e w' ⟨h1, h2⟩ => ⟨h1, h2 ▸ Below.refl _ _⟩
    · obtain ⟨b, s, hb, rfl⟩ : AddrRel ι q a := hadr.resolve_right (by omega)
      obtain ⟨b1, s1, o', hb1, hw, cc, t, fz, rfl, hcells, _⟩ := hr.obj _ _ _ _ hc hb
      rw [hb] at hb1; cases hb1
      have hmap : (ss.map fun s => (⟨⟨s⟩⟩ : ByteArray)).map (·.data.toList) = ss := by
        rw [List.map_map]; conv => rhs; rw [← List.map_id ss]
        rfl
      have hx := hJ.cons b (q.2 + s.1) c' (ss.map fun s => ⟨⟨s⟩⟩) ⟨⟨sp⟩⟩ w ?_ (hr.ran _ _ _ hb) (by rw [List.length_map]; omega) (by rw [List.length_map]; omega) (by rw [hmap]; show (Lib.join ss sp).length ≤ _; omega)
      · rw [hmap, List.length_map, hl] at hx
        exact Begins.of_calls hx (hJ.enter _ _) hr rfl
      · intro j x hx
        rw [List.getElem?_map] at hx
        obtain ⟨y, hy, rfl⟩ := Option.map_eq_some_iff.1 hx
        have hcj : c[q.2 + j]? = some (.str y) := by
          have : ((c.drop q.2).take n)[j]? = (ss.map AV.str)[j]? := by rw [hss]
          have hjn : j < n := by have := (List.getElem?_eq_some_iff.1 hy).1; omega
          rw [List.getElem?_take, if_pos hjn, List.getElem?_drop, List.getElem?_map, hy] at this
          exact this
        obtain ⟨_, u, hu, hur⟩ := hcells _ _ hcj
        simp only [VRel] at hur; subst hur
        show w.cell? ⟨b, q.2 + s.1 + j, none⟩ = _
        simp only [World.cell?, hw]
        rw [show q.2 + s.1 + j = q.2 + j + s.1 by omega, hu]; rfl
  refine Begins.mono ?_ key
  rintro q' rfl
  exact ⟨H, rfl, h⟩
end
end Go.Am
/-! FxL -/
namespace Go.Am
open Go.RowKit

section
variable {E : Env} {P : Program}

theorem info_of {t : Nat} {i : TypeInfo} (h : lk P.types.toList t = some i) : P.info? t = some i := by
  rw [lk_eq, Array.getElem?_toList] at h
  obtain ⟨hl, he⟩ := Array.getElem?_eq_some_iff.1 h
  simp [Tables.info?, hl, he]
theorem func_of {f : Nat} {fn : Func} (h : lk P.funcs.toList f = some fn) : P.funcs[f]? = some fn := by
  rw [lk_eq, Array.getElem?_toList] at h; exact h

/-! Operations by their places. -/
def regs : Code → List (List Oper)
  | .region _ ops _ => [ops.toList]
  | .seq a b => regs a ++ regs b
  | .cond _ a b => regs a ++ regs b
  | .block _ b | .loop b | .scope b => regs b
  | .rangeFunc _ _ a b => regs a ++ regs b
  | _ => []
noncomputable def opAt (E : Env) (f r k : Nat) : Oper := (((E.F f).elim [] fun a => regs a.body).getD r []).getD k ⟨none, .ready 0, 0, "", #[], none⟩
noncomputable def callAt (E : Env) (f r k : Nat) : Call := match (opAt E f r k).op with | .call c => c | _ => ⟨.value (.tmp 0), #[], #[]⟩
noncomputable def binAt (E : Env) (f r k : Nat) : TypeId × TypeId := match (opAt E f r k).op with | .binOp _ x _ _ y => (x, y) | _ => (0, 0)

/-- A call that runs to its end, as the walk's laws say it. -/
theorem calls_of_run (hE : E.OK P) {pr : PrimsK} (hp : PrimsKOK E P pr) {n : Nat} {f : FuncId} (hpf : pr f = none) {args : List AV} {H H' : FHeap} {v : AV} {w : World} {ι : Ren} {as : List Value}
    (h : (ff E pr (n + 1)).call f args H (fun v H => some (v, H)) (fun _ _ => none) = some (v, H')) (hr : HRel ι H.abs w) (hg : Glob E ι) (ha : VRels ι args as) :
    Calls P f ⟨as⟩ w fun e w' => ∃ v' ι', e = .returned v' ∧ VRel ι' v v' ∧ HRel ι' H'.abs w' ∧ Ext ι H.abs w ι' H'.abs w' := by
  intro cs
  have ih := ff_ok hE hp n
  have h : (gcAct E pr f).f (ff E pr n) args H (fun v H => some (v, H)) (fun _ _ => none) = some (v, H') := h
  unfold gcAct at h
  rw [hpf] at h
  have hb : runBody E (Fsem E P) f args .off H.abs (fun _ q => RR (fun v H => some (v, H)) (fun _ _ => none) (v, H') q) := by
    refine fAct_s ih hE ?_ h
    intro R q hq
    cases q <;> exact hq
  obtain ⟨_, R', r, ι', cs', w', fr, hq, hr', he', hcs, hs, hk, hfn, hl⟩ := body_ok hE (Fsem_ok E P) hb ι w as .normal cs hr hg ha trivial
  obtain ⟨rfl, rfl⟩ := hcs.off
  cases r with
  | ret u H2 =>
    obtain ⟨H3, rfl, hq⟩ := hq
    cases hq
    obtain ⟨hm, hd, fn, v', hf, hres, hvr⟩ := hl
    exact ⟨.returned v', w', fr, ⟨v', ι', rfl, hvr, hr', he'⟩, hs, hfn, hm, hd, hk, fn, hf, hres⟩
  | pan u H2 =>
    obtain ⟨H3, rfl, hq⟩ := hq
    cases hq

/-- Where nothing is known of what lies there, nothing of it is touched. -/
theorem Ext.below {ι κ : Ren} {H H' : AHeap} {w w' : World} (h : Ext ι H w κ H' w') (hno : ∀ b', ¬ Live ι H b') : Below w.heap.size w w' :=
  ⟨h.side.1, h.side.2.1, h.side.2.2, h.size, fun k hk => h.keep k hk (hno k)⟩

theorem empty_rel (w : World) : HRel (fun _ => none) (FHeap.abs (FHeap.empty 0)) w where
  obj := fun b o b' s _ h => by cases h
  inj := fun b c o p b' s s' _ _ h => by cases h
  dom := fun b h => by cases h
  lt := fun b o h => by
    exfalso
    have : FHeap.look (FHeap.empty 0).m b = some o := h
    unfold FHeap.look at this
    split at this
    · simp [FHeap.empty, Sq.get_all] at this
    · cases this
  one := fun b o h => by
    exfalso
    have : FHeap.look (FHeap.empty 0).m b = some o := h
    unfold FHeap.look at this
    split at this
    · simp [FHeap.empty, Sq.get_all] at this
    · cases this
  ran := fun b b' s h => by cases h

/-- A closed call without arguments. -/
theorem calls_closed (hE : E.OK P) (hn : E.nglob = 0) (hbase : E.base = fun _ => none) {pr : PrimsK} (hp : PrimsKOK E P pr) {n : Nat} {f : FuncId} (hpf : pr f = none) {H' : FHeap} {b : Bool}
    (h : (ff E pr (n + 1)).call f [] (FHeap.empty 0) (fun v H => some (v, H)) (fun _ _ => none) = some (.bool b, H')) (w : World) :
    Calls P f #[] w fun e w' => e = .returned (.bool b) ∧ Below w.heap.size w w' := by
  have hg : Glob E (fun _ => none) := ⟨fun g hg => by rw [hn] at hg; omega, by rw [hbase]; exact Ren.le.refl _⟩
  refine (calls_of_run hE hp hpf h (empty_rel w) hg VRels.nil).mono ?_
  rintro e w' ⟨v', ι', rfl, hv, _, he⟩
  simp only [VRel] at hv; subst hv
  refine ⟨rfl, he.below ?_⟩
  rintro b' ⟨b, o, s, _, hi⟩
  cases hi
end
end Go.Am
/-! FxM -/
namespace Go.Am

section
variable {P : Program}

noncomputable def natO {α : Type} (n : Nat) (k : Nat → Option α) : Option α := Nat.rec (motive := fun _ => Option α) none (fun m _ => k m) (Nat.succ n)
noncomputable def appO {α : Type} (l m : List Nat) (k : List Nat → Option α) : Option α :=
  List.rec (motive := fun _ => (List Nat → Option α) → Option α) (fun k => k m) (fun a _ ih k => ih fun r => k (a :: r)) l k
theorem appO_eq {α : Type} (l m : List Nat) (k : List Nat → Option α) : appO l m k = k (l ++ m) := by
  induction l generalizing k with
  | nil => rfl
  | cons a l ih => exact ih fun r => k (a :: r)

/-- What a function comes to: the functions seen as the bits of a number; 'none' where the fuel does not do. -/
noncomputable def clos (fs : List Func) (L : Func → List Nat) : Nat → List Nat → Nat → List Nat → Option (List Nat) :=
  Nat.rec (motive := fun _ => List Nat → Nat → List Nat → Option (List Nat)) (fun _ _ _ => none)
    (fun _ ih todo mask acc => List.rec (motive := fun _ => Option (List Nat)) (some acc.reverse)
      (fun f rest _ => Bool.rec (motive := fun _ => Option (List Nat)) (natO (Nat.lor mask (Nat.shiftLeft 1 f)) fun mask => appO ((lk fs f).elim [] L) rest fun todo => ih todo mask (f :: acc)) (ih rest mask acc) (Nat.testBit mask f)) todo)

theorem lk_func (f : Nat) : lk P.funcs.toList f = P.funcs[f]? := by rw [lk_eq, Array.getElem?_toList]

theorem testBit_add {m f : Nat} (g : Nat) : (Nat.lor m (Nat.shiftLeft 1 f)).testBit g = (m.testBit g || decide (g = f)) := by
  show (m ||| (1 <<< f)).testBit g = _
  rw [Nat.testBit_or, Nat.testBit_shiftLeft]
  by_cases h : g = f
  · subst h; simp
  · by_cases h2 : g ≥ f
    · obtain ⟨k, hk⟩ : ∃ k, g - f = k + 1 := ⟨g - f - 1, by omega⟩
      simp [h, h2, hk, Nat.testBit_succ]
    · simp [h, h2]

theorem clos_cons {fs : List Func} {L : Func → List Nat} {n f : Nat} {rest acc : List Nat} {mask : Nat} : clos fs L (n + 1) (f :: rest) mask acc =
    Bool.rec (motive := fun _ => Option (List Nat)) (appO ((lk fs f).elim [] L) rest fun todo => clos fs L n todo (Nat.lor mask (Nat.shiftLeft 1 f)) (f :: acc)) (clos fs L n rest mask acc) (Nat.testBit mask f) := rfl
theorem clos_ok : ∀ (n : Nat) (todo : List Nat) (mask : Nat) (acc r : List Nat), (∀ g, mask.testBit g = acc.contains g) → clos P.funcs.toList P.leadsTo n todo mask acc = some r →
    ∀ N, n ≤ N → P.closureVia N todo acc = r
  | 0, _, _, _, _, _, h, _, _ => by cases h
  | n + 1, [], mask, acc, r, _, h, N, hN => by
    have h : some acc.reverse = some r := h
    cases h
    cases N with
    | zero => omega
    | succ N => rfl
  | n + 1, f :: rest, mask, acc, r, hm, h, N, hN => by
    cases N with
    | zero => omega
    | succ N =>
      rw [clos_cons] at h
      show (if acc.contains f then P.closureVia N rest acc else P.closureVia N ((P.funcs[f]?).elim [] P.leadsTo ++ rest) (f :: acc)) = r
      cases hb : mask.testBit f with
      | true =>
        rw [hb] at h
        have h : clos P.funcs.toList P.leadsTo n rest mask acc = some r := h
        rw [if_pos (by rw [← hm f]; exact hb)]
        exact clos_ok n rest mask acc r hm h N (by omega)
      | false =>
        rw [hb] at h
        have h : appO ((lk P.funcs.toList f).elim [] P.leadsTo) rest (fun todo => clos P.funcs.toList P.leadsTo n todo (Nat.lor mask (Nat.shiftLeft 1 f)) (f :: acc)) = some r := h
        rw [appO_eq] at h
        rw [if_neg (by rw [← hm f, hb]; decide)]
        rw [← lk_func]
        refine clos_ok n _ _ _ r ?_ h N (by omega)
        intro g
        rw [testBit_add, hm g, List.contains_cons, Bool.or_comm]
        congr 1

/-- The fuel of the form's closure, over lists. -/
noncomputable def closFuel (fs : List Func) (L : Func → List Nat) : Nat := List.rec (motive := fun _ => Nat) 1 (fun g _ ih => Nat.succ (Nat.add (List.rec (motive := fun _ => Nat) 0 (fun _ _ i => Nat.succ i) (L g)) ih)) fs
theorem len_rec {α : Type} (l : List α) : (List.rec (motive := fun _ => Nat) 0 (fun _ _ i => Nat.succ i) l : Nat) = l.length := by
  induction l with
  | nil => rfl
  | cons _ _ ih => simp only [List.length_cons]; rw [← ih]
theorem closFuel_eq (fs : List Func) (L : Func → List Nat) : closFuel fs L = 1 + (fs.map fun g => (L g).length + 1).sum := by
  induction fs with
  | nil => rfl
  | cons g fs ih =>
    have : closFuel (g :: fs) L = Nat.succ (Nat.add (List.rec (motive := fun _ => Nat) 0 (fun _ _ i => Nat.succ i) (L g)) (closFuel fs L)) := rfl
    rw [this, len_rec, ih]
    simp only [List.map_cons, List.sum_cons]
    show ((L g).length + (1 + _)) + 1 = _
    omega

/-- The form's closure, by a run that is known. -/
theorem closure_of {f n : Nat} {r : List Nat} (h : clos P.funcs.toList P.leadsTo n [f] 0 [] = some r) (hf : Nat.ble n (closFuel P.funcs.toList P.leadsTo) = true) : P.closure f = r := by
  unfold Program.closure
  refine clos_ok n [f] 0 [] r (fun g => by simp) h _ ?_
  rw [← closFuel_eq]
  exact Nat.le_of_ble_eq_true hf

theorem inPlace_of {f : Nat} {r : List Nat} (h : P.closure f = r) : P.inPlace f = r.filterMap fun g => (lk P.funcs.toList g).bind fun fn => if fn.ours || fn.body.isNone || fn.name == "runtime.NumGoroutine" then some fn.name else none := by
  unfold Program.inPlace
  rw [h]
  congr 1
  funext g
  rw [lk_func]
theorem unfollowed_of {f : Nat} {r : List Nat} (h : P.closure f = r) {g : Nat} (hg : r.contains g = true) (hu : (match lk P.funcs.toList g with | some fn => (match fn.body with | some c => c.unfollowed | none => entryCalls fn) | none => false) = true) : P.unfollowed f = true := by
  unfold Program.unfollowed
  rw [h, List.any_eq_true]
  refine ⟨g, by simpa using hg, ?_⟩
  rw [← lk_func]
  cases hx : lk P.funcs.toList g with
  | none => rw [hx] at hu; cases hu
  | some fn =>
    rw [hx] at hu
    exact hu
theorem recurses_of {f : Nat} (h : P.unfollowed f = true) : P.recurses f = true := by
  unfold Program.recurses
  rw [h]; rfl
theorem varsNamed_of {f : Nat} {r : List Nat} (h : P.closure f = r) : P.varsNamed f =
    (((r.flatMap fun g => ((lk P.funcs.toList g).bind (·.body)).elim [] Code.globalsNamed).eraseDups).filterMap (fun g => (P.globals[g]?).map (·.name)) ++
     r.filterMap fun g => (lk P.funcs.toList g).bind fun fn => if fn.body.isNone then entryReads.lookup fn.name else none).eraseDups := by
  unfold Program.varsNamed
  rw [h]
  simp only [lk_func]
theorem goes_of {f : Nat} (h : (P.funcs.toList.any Func.goes) = false) : P.goes f = false := by
  have h' : P.funcs.any Func.goes = false := by rw [← Array.any_toList]; exact h
  unfold Program.goes
  rw [h', Bool.and_false, Bool.or_false, List.any_eq_false]
  intro g _ hg
  cases hx : P.funcs[g]? with
  | none => rw [hx] at hg; cases hg
  | some fn =>
    rw [hx] at hg
    have hm : fn ∈ P.funcs.toList := by
      have := Array.mem_of_getElem? hx
      simpa using this
    rw [List.any_eq_false] at h
    exact h fn hm hg

theorem worded_of {w : String} {b : Bool} (h : (P.funcs.toList.any fun fn => fn.body.isNone && fn.name == w) = b) : P.worded w = b := by
  unfold Program.worded
  rw [← Array.any_toList]; exact h
theorem laidOut_of (h1 : (List.range P.types.size).all (rowFine P) = true) (h2 : (P.globals.toList.all fun g => decide (g.type < P.types.size)) = true) (h3 : (P.funcs.toList.all fun f => f.params.toList.all fun t => decide (t < P.types.size)) = true) : laidOutB P = true := by
  unfold laidOutB
  rw [h1, ← Array.all_toList, h2, ← Array.all_toList]
  simp only [Bool.true_and]
  rw [List.all_eq_true] at h3 ⊢
  intro f hf
  rw [← Array.all_toList]
  exact h3 f hf
theorem stopsHeard_of (h : (P.funcs.toList.all fun fn => (Stop.rowOf fn).isNone || !fn.norace) = true) : P.stopsHeard = true := by
  unfold Program.stopsHeard
  rw [← Array.all_toList]; exact h
theorem filter_one {p : Nat → Bool} {f : Nat} : ∀ (l : List Nat), l.Nodup → f ∈ l → (∀ i ∈ l, p i = true ↔ i = f) → l.filter p = [f]
  | [], _, h, _ => by cases h
  | a :: l, hn, hm, hp => by
    rw [List.nodup_cons] at hn
    by_cases e : a = f
    · subst e
      rw [List.filter_cons, if_pos ((hp a (by simp)).2 rfl)]
      congr 1
      rw [List.filter_eq_nil_iff]
      intro i hi h
      have := (hp i (by simp [hi])).1 h
      subst this
      exact hn.1 hi
    · rw [List.filter_cons, if_neg (fun h => e ((hp a (by simp)).1 h))]
      refine filter_one l hn.2 ?_ fun i hi => hp i (by simp [hi])
      rcases List.mem_cons.1 hm with h | h
      · exact absurd h.symm e
      · exact h
theorem funcNamed_of {name : String} {f : Nat} (hf : Nat.blt f P.funcs.size = true) (hp : (lk P.funcs.toList f).any (·.name == name) = true)
    (h : (List.range P.funcs.size).all (fun i => Nat.beq i f || !(lk P.funcs.toList i).any (·.name == name)) = true) : P.funcNamed name = some f := by
  unfold Program.funcNamed
  have hlt : f < P.funcs.size := Nat.le_of_ble_eq_true hf
  rw [filter_one (f := f) (List.range P.funcs.size) List.nodup_range (by simpa using hlt)]
  intro i hi
  rw [List.all_eq_true] at h
  have hi' := h i hi
  rw [← lk_func]
  constructor
  · intro hx
    rw [hx] at hi'
    simpa using hi'
  · rintro rfl
    exact hp
theorem andT {a b : Bool} (ha : a = true) (hb : b = true) : (a && b) = true := by rw [ha, hb]; rfl

/-- A look over all types, by parts. -/
theorem range_all {f : Nat → Bool} {n : Nat} (parts : List (Nat × Nat)) (h : ∀ q ∈ parts, (List.range' q.1 q.2).all f = true) (hc : ∀ t, t < n → parts.any (fun q => Nat.ble q.1 t && Nat.blt t (q.1 + q.2)) = true) : (List.range n).all f = true := by
  rw [List.all_eq_true]
  intro t ht
  have := hc t (by simpa using ht)
  rw [List.any_eq_true] at this
  obtain ⟨q, hq, hb⟩ := this
  simp only [Bool.and_eq_true] at hb
  have h1 := Nat.le_of_ble_eq_true hb.1
  have h2 : t < q.1 + q.2 := Nat.le_of_ble_eq_true hb.2
  have := h q hq
  rw [List.all_eq_true] at this
  exact this t (by rw [List.mem_range'_1]; omega)
end
end Go.Am
