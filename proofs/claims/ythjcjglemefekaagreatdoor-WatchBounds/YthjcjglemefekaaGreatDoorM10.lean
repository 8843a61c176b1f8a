/- A machine that runs the program's code, right of the model for every tape; no condition. Steps with symbols: what one operation does, by its kind; a call that leaves memory as it was. More steps with symbols: composites, maps, rows that grow, comparisons, orders that are drawn, loops. Ranges over functions, with symbols; calls that end with lists of deferred calls that were collected; new rows; from a walk to what the walk's laws call a call. -/
import Derived.Test.YthjcjglemefekaaGreatDoorM03
import Derived.Test.YthjcjglemefekaaGreatDoorM09
/-! AmSy -/
namespace Go.Am

/-! Values in which no memory is named. -/
mutual
def AV.flat : AV → Bool
  | .bool _ | .int _ _ | .str _ => true
  | .ptr none | .map none | .nilFunc | .nilIface => true
  | .slice none _ _ _ => true
  | .agg cs => AV.flats cs
  | .tuple cs => AV.flats cs
  | _ => false
def AV.flats : List AV → Bool
  | [] => true
  | a :: as => a.flat && AV.flats as
end

mutual
theorem VRel.flat {ι κ : Ren} : ∀ (a : AV) (v : Value), a.flat = true → VRel κ a v → VRel ι a v
  | .bool _, _, _, h | .int _ _, _, _, h | .str _, _, _, h | .ptr none, _, _, h | .map none, _, _, h | .nilFunc, _, _, h | .nilIface, _, _, h | .slice none _ _ _, _, _, h => h
  | .ptr (some _), _, hf, _ | .map (some _), _, hf, _ | .slice (some _) _ _ _, _, hf, _ | .func _ _ _, _, hf, _ | .iface _ _, _, hf, _ => by simp [AV.flat] at hf
  | .agg cs, _, hf, h => let ⟨h1, cs', hc, e⟩ := h; ⟨h1, cs', VRels.flat cs cs' (by simpa [AV.flat] using hf) hc, e⟩
  | .tuple cs, _, hf, h => let ⟨cs', hc, e⟩ := h; ⟨cs', VRels.flat cs cs' (by simpa [AV.flat] using hf) hc, e⟩
theorem VRels.flat {ι κ : Ren} : ∀ (as : List AV) (vs : List Value), AV.flats as = true → VRels κ as vs → VRels ι as vs
  | [], _, _, h => h
  | a :: as, _, hf, h => by
    simp only [AV.flats, Bool.and_eq_true] at hf
    obtain ⟨v, vs, e, h1, h2⟩ := h
    exact ⟨v, vs, e, VRel.flat a v hf.1 h1, VRels.flat as vs hf.2 h2⟩
end

section
variable {E : Env} {P : Program}

/-- A call that yields a value in which no memory is named, and writes nothing that there was. -/
theorem CallOK.pure {f : FuncId} {args : List AV} {H : AHeap} {v : AV} (hp : v.flat = true) (h : CallOK E P f args H.fresh fun q => ∃ H1, q = .ret v H1 ∧ H.next ≤ H1.low) :
    CallOK E P f args H (· = .ret v H) := by
  intro ι w as hr hg ha
  have ret : ∀ {m : Machine} {c : Frame} {cs : List Frame} {q : Res}, (∃ H1, q = .ret v H1 ∧ H.next ≤ H1.low) → RetOK P m ι H.fresh w c cs q → RetOK P m ι H w c cs (.ret v H) := by
    rintro m c cs q ⟨H1, rfl, hlow⟩ ⟨ι1, v', w1, h1, h2, h3, h4⟩
    obtain ⟨g1, g2⟩ := lift_core hr hr (.refl ι) (fun _ _ => rfl) hlow h1 h2
    exact ⟨ι, v', w1, g1, g2, VRel.flat v v' hp h3, h4⟩
  cases h ι w as hr.fresh hg ha with
  | enter h1 h2 => exact .enter h1 fun c cs => let ⟨q, hq, hret⟩ := h2 c cs; ⟨.ret v H, rfl, ret hq hret⟩
  | round h1 h2 => exact .round h1 fun c cs => let ⟨q, hq, hret⟩ := h2 c cs; ⟨.ret v H, rfl, ret hq hret⟩
  | value h1 h2 h3 h4 h5 =>
    obtain ⟨H1, e, hlow⟩ := h2
    cases e
    obtain ⟨g1, g2⟩ := lift_core hr hr (.refl ι) (fun _ _ => rfl) hlow h3 h4
    exact .value h1 rfl g1 g2 (VRel.flat v _ hp h5)

/-- Less may be known of a frame. -/
theorem RunOK.less {st : St} {c : Code} {T T' : Tr AV} {D : List ADef} {R : Rc} {H : AHeap} {Q : K} (hT : ∀ i a, T'.get i = some a → T.get i = some a) (h : RunOK E P st c T' D R H Q) : RunOK E P st c T D R H Q :=
  fun ι b t d k cs w hc => h ι b t d k cs w ⟨hc.hr, hc.glob, hc.sr, ⟨hc.T.1, fun i a hi => hc.T.2 i a (hT i a hi)⟩, hc.D, hc.rc⟩
theorem LoopOK.less {st : St} {c : Code} {T T' : Tr AV} {D : List ADef} {R : Rc} {H : AHeap} {Q : K} (hT : ∀ i a, T'.get i = some a → T.get i = some a) (h : LoopOK E P st c T' D R H Q) : LoopOK E P st c T D R H Q :=
  fun ι b t d k cs w hc => h ι b t d k cs w ⟨hc.hr, hc.glob, hc.sr, ⟨hc.T.1, fun i a hi => hc.T.2 i a (hT i a hi)⟩, hc.D, hc.rc⟩

/-- What a function's end asks for. -/
def EndOK (E : Env) (rs : List ResultVar) (Q : Res → Prop) : K := fun e T D _ H =>
  match e with
  | .normal | .ret => D = [] ∧ ∃ vs, aResults E rs T H = some vs ∧ Q (.ret (oneOf vs) H)
  | _ => False

/-- A call, by its body. -/
theorem call_of (hE : E.OK P) {f : FuncId} {a : AFn} (hF : E.F f = some a) {args : List AV} {H : AHeap} {Q : Res → Prop} (hl : Nat.ble args.length a.ntmps = true)
    (h : RunOK E P ⟨f, a.ntmps, none⟩ a.body (params args 0 .leaf) [] .off H (EndOK E a.results Q)) : CallOK E P f args H Q := by
  refine call_ok hE (Fsem_ok E P) (pr := fun _ => none) (fun f p h => by cases h) ?_
  show runBody E (Fsem E P) f args .off H (fun _ => Q)
  unfold runBody
  simp only [hF, hl]
  refine RunOK.mono ?_ h
  intro e T D R H he
  have fin : ∀ {vs}, D = [] → aResults E a.results T H = some vs → Q (.ret (oneOf vs) H) → DefsOK E P D .ret H fun m H => match m with
      | .ret => match aResults E a.results T H with
        | some vs => Q (.ret (oneOf vs) H)
        | none => False
      | .pan _ => False := by
    intro vs hD hr hq
    subst hD
    refine defs_ok hE (Fsem_ok E P) ?_
    simp only [stepDefs, hr]
    exact hq
  cases e with
  | normal => obtain ⟨hD, vs, hr, hq⟩ := he; exact fin hD hr hq
  | ret => obtain ⟨hD, vs, hr, hq⟩ := he; exact fin hD hr hq
  | _ => exact he.elim

theorem cond_t (hE : E.OK P) {st : St} {c : Operand} {a b : Code} {T : Tr AV} {D : List ADef} {R : Rc} {H : AHeap} {Q : K} (hc : aEval E T c = some (.bool true)) (h : RunOK E P st a T D R H Q) : RunOK E P st (.cond c a b) T D R H Q := cond_run hE hc h
theorem cond_f (hE : E.OK P) {st : St} {c : Operand} {a b : Code} {T : Tr AV} {D : List ADef} {R : Rc} {H : AHeap} {Q : K} (hc : aEval E T c = some (.bool false)) (h : RunOK E P st b T D R H Q) : RunOK E P st (.cond c a b) T D R H Q := cond_run hE hc h

/-- What comes behind a part that ended well; else the end itself. -/
def ThenOK (E : Env) (P : Program) (st : St) (b : Code) (Q : K) : K := fun e T D R H =>
  match e with
  | .normal => RunOK E P st b T D R H Q
  | e => Q e T D R H
theorem seq_of (hE : E.OK P) {st : St} {a b : Code} {T : Tr AV} {D : List ADef} {R : Rc} {H : AHeap} {Q : K} (h : RunOK E P st a T D R H (ThenOK E P st b Q)) : RunOK E P st (.seq a b) T D R H Q := seq_run hE h
def BlockQ (id : Nat) (Q : K) : K := fun e T D R H =>
  match e with
  | .exit i => if i = id then Q .normal T D R H else Q (.exit i) T D R H
  | e => Q e T D R H
theorem block_of (hE : E.OK P) {st : St} {id : Nat} {a : Code} {T : Tr AV} {D : List ADef} {R : Rc} {H : AHeap} {Q : K} (h : RunOK E P st a T D R H (BlockQ id Q)) : RunOK E P st (.block id a) T D R H Q := block_run hE h
def LoopQ (E : Env) (P : Program) (st : St) (a : Code) (Q : K) : K := fun e T D R H =>
  match e with
  | .normal => LoopOK E P st a T D R H Q
  | e => Q e T D R H
theorem loop_of {st : St} {a : Code} {T : Tr AV} {D : List ADef} {R : Rc} {H : AHeap} {Q : K} (h : RunOK E P st a T D R H (LoopQ E P st a Q)) : LoopOK E P st a T D R H Q := loop_ok (Fsem_ok E P) h
theorem loop_in (hE : E.OK P) {st : St} {a : Code} {T : Tr AV} {D : List ADef} {R : Rc} {H : AHeap} {Q : K} (h : LoopOK E P st a T D R H Q) : RunOK E P st (.loop a) T D R H Q := run_ok hE (Fsem_ok E P) (c := .loop a) h
theorem region_of (hE : E.OK P) {st : St} {id : Nat} {ops : Array Oper} {l : List Oper} {T : Tr AV} {D : List ADef} {R : Rc} {H : AHeap} {Q : K} (hl : ops.toList = l) (h : runOps E (Fsem E P) st ops l T D R H Q) : RunOK E P st (.region id ops false) T D R H Q := by
  subst hl; exact region_run hE h
theorem goto_of (hE : E.OK P) {st : St} {l : Nat} {T : Tr AV} {D : List ADef} {R : Rc} {H : AHeap} {Q : K} (h : Q (.goto l) T D R H) : RunOK E P st (.goto l) T D R H Q := run_ok hE (Fsem_ok E P) (c := .goto l) h
theorem label_of (hE : E.OK P) {st : St} {l : Nat} {T : Tr AV} {D : List ADef} {R : Rc} {H : AHeap} {Q : K} (h : Q .normal T D R H) : RunOK E P st (.label l) T D R H Q := run_ok hE (Fsem_ok E P) (c := .label l) h
def ScopeQ (E : Env) (P : Program) (st : St) (body : Code) (Q : K) : K := fun e T D R H =>
  match e with
  | .goto l => match findLabel body l with
    | some rest => ScopeOK E P st body rest T D R H Q
    | none => Q (.goto l) T D R H
  | e => Q e T D R H
theorem scope_of (hE : E.OK P) {st : St} {a : Code} {T : Tr AV} {D : List ADef} {R : Rc} {H : AHeap} {Q : K} (h : RunOK E P st a T D R H (ScopeQ E P st a Q)) : RunOK E P st (.scope a) T D R H Q :=
  run_ok hE (Fsem_ok E P) (c := .scope a) (scope_ok (Fsem_ok E P) h)

section ops
variable {F : Fns} {st : St} {arr : Array Oper} {o : Oper} {rest : List Oper} {T : Tr AV} {D : List ADef} {R : Rc} {H : AHeap} {Q : K} {d : Tmp}

theorem o_val {v : AV} (hw : aWanted arr T o = some true) (hd : o.dst = some d) (hb : Nat.blt d st.n = true) (hv : aVal E T H o.op = some v) (h : runOps E F st arr rest (T.put d (some v)) D R H Q) :
    runOps E F st arr (o :: rest) T D R H Q := by
  simp only [runOps, hw, runOp, hv, setDst, hd, hb]
  exact h
theorem o_not (hw : aWanted arr T o = some false) (hd : o.dst = some d) (hb : Nat.blt d st.n = true) (h : runOps E F st arr rest (T.put d (some undefA)) D R H Q) :
    runOps E F st arr (o :: rest) T D R H Q := by
  simp only [runOps, hw, setDst, hd, hb]
  exact h
theorem o_eff {v : AV} {H' : AHeap} (hw : aWanted arr T o = some true) (hd : o.dst = some d) (hb : Nat.blt d st.n = true) (hn : aVal E T H o.op = none) (hv : aEff E T H o.op = some (v, H')) (h : runOps E F st arr rest (T.put d (some v)) D R H' Q) :
    runOps E F st arr (o :: rest) T D R H Q := by
  simp only [runOps, hw, runOp, hn, hv, setDst, hd, hb]
  exact h
theorem o_eff0 {v : AV} {H' : AHeap} (hw : aWanted arr T o = some true) (hd : o.dst = none) (hn : aVal E T H o.op = none) (hv : aEff E T H o.op = some (v, H')) (h : runOps E F st arr rest T D R H' Q) :
    runOps E F st arr (o :: rest) T D R H Q := by
  simp only [runOps, hw, runOp, hn, hv, setDst, hd]
  exact h
theorem o_call {c : Call} {f : Operand} {g : FuncId} {first cap as : List AV} (hw : aWanted arr T o = some true) (hop : o.op = .call c) (hc : c.callee = .value f)
    (hf : aEval E T f = some (.func (.func g) first cap)) (ha : aEvals E T c.args.toList = some as) {q : Res → Prop} (hk : CallOK E P g (first ++ as ++ cap) H q)
    (h : ∀ r, q r → ∃ v H', r = .ret v H' ∧ setDst st.n o.dst v T fun T => runOps E (Fsem E P) st arr rest T D R H' Q) :
    runOps E (Fsem E P) st arr (o :: rest) T D R H Q := by
  have e1 : aVal E T H o.op = none := by rw [hop]; simp only [aVal, hc]
  have e2 : aEff E T H o.op = none := by rw [hop]; simp only [aEff, hc]
  simp only [runOps, hw, runOp]
  simp only [e1]
  simp only [e2]
  simp only [hop, hc, hf, ha]
  refine CallOK.mono ?_ hk
  intro r hr
  obtain ⟨v, H', rfl, hh⟩ := h r hr
  exact hh
/-- A call whose answer is known to the last. -/
theorem o_call1 {c : Call} {f : Operand} {g : FuncId} {first cap as : List AV} {v : AV} {H' : AHeap} (hw : aWanted arr T o = some true) (hd : o.dst = some d) (hb : Nat.blt d st.n = true) (hop : o.op = .call c) (hc : c.callee = .value f)
    (hf : aEval E T f = some (.func (.func g) first cap)) (ha : aEvals E T c.args.toList = some as) (hk : CallOK E P g (first ++ as ++ cap) H (· = .ret v H'))
    (h : runOps E (Fsem E P) st arr rest (T.put d (some v)) D R H' Q) : runOps E (Fsem E P) st arr (o :: rest) T D R H Q := by
  refine o_call hw hop hc hf ha hk ?_
  rintro r rfl
  refine ⟨v, H', rfl, ?_⟩
  simp only [setDst, hd, hb]
  exact h
end ops

/-! Types, by what is asked of them. -/
noncomputable def fieldOff (E : Env) (t f : Nat) : Option Nat := match aFieldAddr E t (.ptr (some (0, 0))) f with | some (.ptr (some (_, k))) => some k | _ => none
noncomputable def oneT (E : Env) (t : Nat) : Bool := match E.T t with | some i => !isAggD i.desc | none => false
noncomputable def aggT (E : Env) (t : Nat) : Option Nat := match E.T t with | some i => if isAggD i.desc then some i.size else none | none => none
noncomputable def sizeT (E : Env) (t : Nat) : Option Nat := match E.T t with | some i => some i.size | none => none
noncomputable def zeroT (E : Env) (t : Nat) : Option (List AV) := match E.T t with | some i => (match i.zero with | some z => bif z.nt then some z.cells else none | none => none) | none => none
noncomputable def elemT (E : Env) (t : Nat) : Option Nat := match E.T t with | some i => (match i.desc with | .slice e => (match E.T e with | some j => some j.size | none => none) | _ => none) | none => none
noncomputable def mapT (E : Env) (t : Nat) : Option (Nat × Nat) := match E.T t with | some i => (match i.desc with | .map k e => some (k, e) | _ => none) | none => none

theorem fa_add {t f : Nat} {y : AV} (h : aFieldAddr E t (.ptr (some (0, 0))) f = some y) (b o : Nat) : ∃ k, y = .ptr (some (0, k)) ∧ aFieldAddr E t (.ptr (some (b, o))) f = some (.ptr (some (b, o + k))) := by
  unfold aFieldAddr at h
  split at h
  case h_2 => cases h
  rename_i i p hi e
  cases e
  split at h
  case h_2 => cases h
  rename_i fs hd
  split at h
  case h_2 => cases h
  rename_i fd hfd
  split at h
  case h_2 => cases h
  rename_i j hj
  cases hz : Nat.beq j.size 0
  · rw [hz] at h
    cases h
    refine ⟨fd.offset, by simp, ?_⟩
    unfold aFieldAddr
    simp only [hi, hd, hfd, hj, hz, cond_false]
  · rw [hz] at h; cases h
theorem fa_of {t f k : Nat} (h : fieldOff E t f = some k) (b o : Nat) : aFieldAddr E t (.ptr (some (b, o))) f = some (.ptr (some (b, o + k))) := by
  unfold fieldOff at h
  split at h
  · rename_i hh
    obtain ⟨k', e, h2⟩ := fa_add hh b o
    cases e; cases h; exact h2
  · cases h

theorem v_field {T : Tr AV} {H : AHeap} {t f k b o : Nat} {x : Operand} (hx : aEval E T x = some (.ptr (some (b, o)))) (h : fieldOff E t f = some k) : aVal E T H (.fieldAddr t x f) = some (.ptr (some (b, o + k))) := by
  simp only [aVal, hx]; exact fa_of h b o
theorem v_load1 {T : Tr AV} {H : AHeap} {t b o : Nat} {x : Operand} {c : List AV} {v : AV} (hx : aEval E T x = some (.ptr (some (b, o)))) (ht : oneT E t = true) (hg : H.get b = some (.cells c)) (hv : c[o]? = some v) : aVal E T H (.load t x) = some v := by
  simp only [aVal, hx, aLoad, hg]
  unfold oneT at ht
  cases hi : E.T t with
  | none => rw [hi] at ht; cases ht
  | some i =>
    rw [hi] at ht
    have ht : isAggD i.desc = false := by simpa using ht
    simp only [ht, Bool.false_eq_true, if_false]
    exact hv
theorem v_loadA {T : Tr AV} {H : AHeap} {t b o n : Nat} {x : Operand} {c l : List AV} (hx : aEval E T x = some (.ptr (some (b, o)))) (ht : aggT E t = some n) (hg : H.get b = some (.cells c)) (hl : o + n ≤ c.length) (hv : (c.drop o).take n = l) : aVal E T H (.load t x) = some (.agg l) := by
  simp only [aVal, hx, aLoad, hg]
  unfold aggT at ht
  cases hi : E.T t with
  | none => rw [hi] at ht; cases ht
  | some i =>
    rw [hi] at ht
    simp only at ht
    split at ht
    · rename_i h1
      cases ht
      simp only [h1, if_true, hl, hv]
    · cases ht
theorem v_index {T : Tr AV} {H : AHeap} {t b o n m len cap more : Nat} {k : IntKind} {x y : Operand} (hx : aEval E T x = some (.slice (some (b, o)) len cap more)) (hy : aEval E T y = some (.int k (.ofNat m))) (ht : elemT E t = some n) (hm : m < len) :
    aVal E T H (.indexAddr t x y) = some (.ptr (some (b, o + m * n))) := by
  simp only [aVal, hx, hy, aIndexAddr]
  unfold elemT at ht
  cases hi : E.T t with
  | none => rw [hi] at ht; cases ht
  | some i =>
    rw [hi] at ht
    simp only at ht
    split at ht
    · rename_i e hd
      split at ht
      · rename_i j hj
        cases ht
        have hb : Nat.blt m len = true := Nat.ble_eq_true_of_le hm
        simp only [hd, hj, aIx, hb, cond_true]
      · cases ht
    · cases ht
theorem v_len {T : Tr AV} {H : AHeap} {t n len cap more : Nat} {p : Option (Nat × Nat)} {c : Call} {x : Operand} (hc : c.callee = .builtin .len) (ha : c.args.toList = [x]) (hts : c.argTypes.toList = [t]) (hx : aEval E T x = some (.slice p len cap more)) (ht : elemT E t = some n) :
    aVal E T H (.call c) = some (.int .i64 (.ofNat len)) := by
  simp only [aVal, hc, ha, hts, aEvals, hx, aLen]
  unfold elemT at ht
  cases hi : E.T t with
  | none => rw [hi] at ht; cases ht
  | some i =>
    rw [hi] at ht
    simp only at ht
    split at ht
    · rename_i e hd; simp only [hd]
    · cases ht

theorem e_alloc {T : Tr AV} {H : AHeap} {t : Nat} {z : List AV} (h : zeroT E t = some z) : aEff E T H (.alloc t) = some (.ptr (some (H.next, 0)), H.push (.cells z)) := by
  simp only [aEff, aAlloc]
  unfold zeroT at h
  cases hi : E.T t with
  | none => rw [hi] at h; cases h
  | some i =>
    rw [hi] at h
    simp only at h ⊢
    cases hz : i.zero with
    | none => rw [hz] at h; cases h
    | some z0 =>
      rw [hz] at h
      simp only at h ⊢
      cases hn : z0.nt
      · rw [hn] at h; cases h
      · rw [hn] at h; cases h; simp only [aBox, hn, cond_true]
theorem e_box {T : Tr AV} {H : AHeap} {t : Nat} {x : Operand} {a : AV} (hx : aEval E T x = some a) (hn : a.nt = true) : aEff E T H (.box t x) = some (.ptr (some (H.next, 0)), H.push (.cells a.cells)) := by
  simp only [aEff, hx, aBox, hn, cond_true]
theorem e_makeMap {T : Tr AV} {H : AHeap} {t : Nat} : aEff E T H (.makeMap t none) = some (.map (some H.next), H.push (.map [] 0)) := rfl
theorem e_store {T : Tr AV} {H : AHeap} {t b o n : Nat} {x y : Operand} {c c' : List AV} {a : AV} (hx : aEval E T x = some (.ptr (some (b, o)))) (hy : aEval E T y = some a) (ht : sizeT E t = some n) (hg : H.get b = some (.cells c))
    (hl : a.cells.length = n) (hc : o + n ≤ c.length) (hn : a.nt = true) (hs : splice c o a.cells = c') : aEff E T H (.store t x y) = some (undefA, H.upd b (.cells c')) := by
  simp only [aEff, hx, hy, aStore, hg]
  unfold sizeT at ht
  cases hi : E.T t with
  | none => rw [hi] at ht; cases ht
  | some i =>
    rw [hi] at ht
    cases ht
    simp only
    rw [if_pos ⟨hl, by omega, hn⟩, hs]
end
end Go.Am
/-! AmSz -/
namespace Go.Am

section
variable {E : Env} {P : Program}

/-! Frames of which a few slots are known. -/
def Has (T : Tr AV) : List (Nat × AV) → Prop
  | [] => True
  | (n, a) :: l => T.get n = some a ∧ Has T l
def tr : List (Nat × AV) → Tr AV
  | [] => .leaf
  | (n, a) :: l => (tr l).put n (some a)
theorem Has.less : ∀ {l : List (Nat × AV)} {T : Tr AV}, Has T l → ∀ i a, (tr l).get i = some a → T.get i = some a
  | [], T, _, i, a, h => by cases h
  | (n, b) :: l, T, hh, i, a, h => by
    have h2 : (if i = n then some b else (tr l).get i) = some a := h
    by_cases e : i = n
    · rw [if_pos e] at h2; rw [e, ← h2]; exact hh.1
    · rw [if_neg e] at h2; exact Has.less hh.2 i a h2

/-- A loop's rounds. -/
def RoundQ (I : Nat → Tr AV → AHeap → Prop) (k : Nat) (Q : K) : K := fun e T D R H =>
  match e with
  | .normal => D = [] ∧ R = .off ∧ ∃ k', k' < k ∧ I k' T H
  | e => Q e T D R H
theorem loop_ind {st : St} {c : Code} {Q : K} (I : Nat → Tr AV → AHeap → Prop) (h : ∀ k T H, I k T H → RunOK E P st c T [] .off H (RoundQ I k Q)) {k : Nat} {T : Tr AV} {H : AHeap} (h0 : I k T H) : LoopOK E P st c T [] .off H Q := by
  induction k using Nat.strongRecOn generalizing T H with
  | ind k ih =>
    refine loop_of (RunOK.mono ?_ (h k T H h0))
    intro e T' D R H' he
    cases e with
    | normal =>
      obtain ⟨rfl, rfl, k', hlt, hI⟩ := he
      exact ih k' hlt hI
    | _ => exact he

/-! Memory, where it is looked at. -/
section get
variable {H : AHeap} {b c : Nat} {o : AObj}
theorem gp_eq (h : b = H.next) : (H.push o).get b = some o := by rw [AHeap.get_push, if_pos h]
theorem gp_ne (h : b ≠ H.next) : (H.push o).get b = H.get b := by rw [AHeap.get_push, if_neg h]
theorem gu_eq : (H.upd b o).get b = some o := by rw [AHeap.get_upd, if_pos rfl]
theorem gu_ne (h : b ≠ c) : (H.upd c o).get b = H.get b := by rw [AHeap.get_upd, if_neg h]
theorem gk_ne (h : b ≠ c) : (H.kill c).get b = H.get b := by rw [AHeap.get_kill, if_neg h]
end get

/-- A stretch of cells. -/
structure Win (c : List AV) (o n : Nat) (l : List AV) : Prop where
  len : o + n ≤ c.length
  eq : (c.drop o).take n = l
theorem Win.at {c : List AV} {o n j : Nat} {l : List AV} {v : AV} (h : Win c o n l) (hj : l[j]? = some v) : c[o + j]? = some v := by
  rw [← h.eq, List.getElem?_take] at hj
  split at hj
  · rwa [List.getElem?_drop] at hj
  · cases hj
theorem Win.sub {c : List AV} {o n j m : Nat} {l l' : List AV} (h : Win c o n l) (hj : (l.drop j).take m = l') (hm : Nat.ble (j + m) n = true) : Win c (o + j) m l' := by
  have hm := Nat.le_of_ble_eq_true hm
  refine ⟨by have := h.len; omega, ?_⟩
  rw [← hj, ← h.eq, List.drop_take, List.take_take, List.drop_drop, Nat.min_eq_left (by omega)]
theorem Win.whole {c : List AV} : Win c 0 c.length c := ⟨by omega, by simp⟩
theorem Win.left {c d : List AV} {o n : Nat} {l : List AV} (h : Win c o n l) : Win (c ++ d) o n l := by
  refine ⟨by have := h.len; simp; omega, ?_⟩
  have := h.len
  rw [List.drop_append_of_le_length (by omega), List.take_append_of_le_length (by simp; omega), h.eq]
theorem Win.right {c d : List AV} {o n : Nat} (ho : o = c.length) (hn : n = d.length) : Win (c ++ d) o n d := by
  subst ho; subst hn
  exact ⟨by simp, by simp⟩
theorem Win.rep {z : List AV} {k : Nat} (hk : z.length = k) : ∀ {n i : Nat}, i < n → Win (aRep z n) (i * k) k z
  | 0, _, h => by omega
  | n + 1, 0, _ => by
    refine ⟨by simp [aRep, hk], ?_⟩
    subst hk
    simp [aRep]
  | n + 1, i + 1, h => by
    obtain ⟨h1, h2⟩ := Win.rep hk (n := n) (i := i) (by omega)
    rw [Nat.succ_mul]
    refine ⟨by simp only [aRep, List.length_append, hk]; omega, ?_⟩
    rw [aRep, Nat.add_comm, ← List.drop_drop, ← hk, List.drop_left, hk, h2]

theorem v_index0 {T : Tr AV} {H : AHeap} {t b n m len cap more : Nat} {k : IntKind} {x y : Operand} (hx : aEval E T x = some (.slice (some (b, 0)) len cap more)) (hy : aEval E T y = some (.int k (.ofNat m))) (ht : elemT E t = some n) (hm : m < len) :
    aVal E T H (.indexAddr t x y) = some (.ptr (some (b, m * n))) := by rw [v_index hx hy ht hm, Nat.zero_add]

/-! Comparisons. -/
section cmp
variable {T : Tr AV} {H : AHeap} {x y : Operand} {k : IntKind} {a b : Int} {t u : Nat} {r : Bool}
theorem v_lss (hx : aEval E T x = some (.int k a)) (hy : aEval E T y = some (.int k b)) (h : ilt a b = r) : aVal E T H (.binOp .lss t x y u) = some (.bool r) := by
  subst h; simp only [aVal, hx, hy, aBin, if_true, aInt2]
theorem v_gtr (hx : aEval E T x = some (.int k a)) (hy : aEval E T y = some (.int k b)) (h : ilt b a = r) : aVal E T H (.binOp .gtr t x y u) = some (.bool r) := by
  subst h; simp only [aVal, hx, hy, aBin, if_true, aInt2]
theorem v_leq (hx : aEval E T x = some (.int k a)) (hy : aEval E T y = some (.int k b)) (h : ile a b = r) : aVal E T H (.binOp .leq t x y u) = some (.bool r) := by
  subst h; simp only [aVal, hx, hy, aBin, if_true, aInt2]
theorem v_geq (hx : aEval E T x = some (.int k a)) (hy : aEval E T y = some (.int k b)) (h : ile b a = r) : aVal E T H (.binOp .geq t x y u) = some (.bool r) := by
  subst h; simp only [aVal, hx, hy, aBin, if_true, aInt2]
theorem v_eql (hx : aEval E T x = some (.int k a)) (hy : aEval E T y = some (.int k b)) (h : ieq a b = r) : aVal E T H (.binOp .eql t x y u) = some (.bool r) := by
  subst h; simp only [aVal, hx, hy, aBin, if_true, aInt2]
theorem v_neq (hx : aEval E T x = some (.int k a)) (hy : aEval E T y = some (.int k b)) (h : (!ieq a b) = r) : aVal E T H (.binOp .neq t x y u) = some (.bool r) := by
  subst h; simp only [aVal, hx, hy, aBin, if_true, aInt2]
theorem v_add {c : Int} (hx : aEval E T x = some (.int k a)) (hy : aEval E T y = some (.int k b)) (h : fwrap k (a + b) = c) : aVal E T H (.binOp .add t x y u) = some (.int k c) := by
  subst h; simp only [aVal, hx, hy, aBin, if_true, aInt2]
end cmp
theorem ilt_nat {i n : Nat} (h : i < n) : ilt (.ofNat i) (.ofNat n) = true := by rw [ilt_eq]; simpa using h
theorem ilt_nat_f {i n : Nat} (h : ¬ i < n) : ilt (.ofNat i) (.ofNat n) = false := by rw [ilt_eq]; simpa using h
theorem fwrap_succ {i : Nat} (h : i + 1 ≤ 9223372036854775807) : fwrap .i64 (.ofNat i + 1) = .ofNat (i + 1) := by
  show (bif Nat.ble (i + 1) 9223372036854775807 then Int.ofNat (i + 1) else IntKind.i64.wrap (.ofNat (i + 1))) = _
  rw [Nat.ble_eq_true_of_le h]; rfl

/-! Composites. -/
noncomputable def buildT (E : Env) (t : Nat) : Option (List (Nat × Nat) × List AV) :=
  match E.T t with
  | some i => (match i.desc, i.zero with
    | .struct fs, some z => (match aPlaces E fs.toList with
      | some ps => bif z.nt && z.cells.all AV.one then some (ps, z.cells) else none
      | none => none)
    | _, _ => none)
  | none => none
theorem v_build {T : Tr AV} {H : AHeap} {t : Nat} {ps : Array (Nat × Operand)} {as : List (Nat × AV)} {pl : List (Nat × Nat)} {z l : List AV} (ha : aParts E T ps.toList = some as) (ht : buildT E t = some (pl, z)) (hf : aFill (pl[·]?) z as = some l) :
    aVal E T H (.build t ps) = some (.agg l) := by
  simp only [aVal, ha, aBuild]
  unfold buildT at ht
  cases hi : E.T t with
  | none => rw [hi] at ht; cases ht
  | some i =>
    rw [hi] at ht
    simp only at ht
    split at ht
    · rename_i fs z0 hd hz
      split at ht
      · rename_i ps' hp
        cases hb : z0.nt && z0.cells.all AV.one
        · rw [hb] at ht; cases ht
        · rw [hb] at ht
          cases ht
          simp only [hd, hz, hp, hb, cond_true, hf]
      · cases ht
    · cases ht

noncomputable def sliceT (E : Env) (t : Nat) : Option (Nat × List AV) :=
  match E.T t with
  | some i => (match i.desc with
    | .slice e => (match E.T e with
      | some ie => (match ie.zero with
        | some z => bif z.nt && (Nat.beq z.cells.length ie.size && Nat.ble 1 ie.size) then some (ie.size, z.cells) else none
        | none => none)
      | none => none)
    | _ => none)
  | none => none
theorem e_buildSlice {T : Tr AV} {H : AHeap} {t n sz : Nat} {ps : Array (Nat × Operand)} {as : List (Nat × AV)} {z l : List AV} (ha : aParts E T ps.toList = some as) (ht : sliceT E t = some (sz, z)) (hn : Nat.ble (n * sz) 1048576 = true)
    (hf : aFill (fun i => some (i * sz, sz)) (aRep z n) as = some l) : aEff E T H (.buildSlice t n ps) = some (.slice (some (H.next, 0)) n n 0, H.push (.cells l)) := by
  simp only [aEff, ha, aBuildSlice]
  unfold sliceT at ht
  cases hi : E.T t with
  | none => rw [hi] at ht; cases ht
  | some i =>
    rw [hi] at ht
    simp only at ht
    split at ht
    · rename_i e hd
      split at ht
      · rename_i ie hie
        split at ht
        · rename_i z0 hz
          cases hb : z0.nt && (Nat.beq z0.cells.length ie.size && Nat.ble 1 ie.size)
          · rw [hb] at ht; cases ht
          · rw [hb] at ht
            cases ht
            simp only [Bool.and_eq_true] at hb
            simp only [hd, hie, hz, hb.1, hb.2.1, hb.2.2, hn, Bool.and_true, cond_true, hf]
        · cases ht
      · cases ht
    · cases ht

/-- A row that grows: it is none yet, or fills its block. -/
def Out (H : AHeap) (N M : Nat) (s : AV) (n sz : Nat) (cs : List AV) : Prop :=
  (s = .slice none 0 0 0 ∧ n = 0 ∧ cs = []) ∨ ∃ b, N ≤ b ∧ b < M ∧ s = .slice (some (b, 0)) n n sz ∧ H.get b = some (.cells cs) ∧ cs.length = n * sz
theorem Out.mono {H H' : AHeap} {N M : Nat} {s : AV} {n sz : Nat} {cs : List AV} (h : Out H N M s n sz cs) (hs : ∀ b, N ≤ b → b < M → H'.get b = H.get b) : Out H' N M s n sz cs := by
  rcases h with h | ⟨b, h1, h2, h3, h4, h5⟩
  · exact .inl h
  · exact .inr ⟨b, h1, h2, h3, (hs b h1 h2).trans h4, h5⟩

theorem Out.length {H : AHeap} {N M : Nat} {s : AV} {n sz : Nat} {cs : List AV} (h : Out H N M s n sz cs) : cs.length = n * sz := by
  rcases h with ⟨_, rfl, rfl⟩ | ⟨b, _, _, _, _, h⟩
  · simp
  · exact h

noncomputable def appT (E : Env) (t x : Nat) : Option (Nat × Nat) :=
  match E.T t, E.T x with
  | some i, some j => (match i.desc, j.desc with
    | .slice e, .slice _ => (match E.T e with
      | some ie => (match ie.zero with
        | some z => bif z.nt && (Nat.beq z.cells.length ie.size && (Nat.ble 1 ie.size && (Nat.ble ie.bytes 1048576))) then some (ie.size, ie.bytes) else none
        | none => none)
      | none => none)
    | _, _ => none)
  | _, _ => none
theorem e_append {T : Tr AV} {H : AHeap} {t u n sz by_ N M bx cap more : Nat} {c : Call} {x y : Operand} {s : AV} {cs xs : List AV} (hc : c.callee = .builtin .append) (ha : c.args.toList = [x, y]) (hts : c.argTypes.toList = [t, u])
    (hx : aEval E T x = some s) (hy : aEval E T y = some (.slice (some (bx, 0)) 1 cap more)) (ht : appT E t u = some (sz, by_)) (ho : Out H N M s n sz cs) (hg : H.get bx = some (.cells xs)) (hl : xs.length = sz) (hn : (n + 1) * by_ ≤ 1099511627776) (hn2 : n + 1 ≤ 1099511627776) (hN : N ≤ H.next) (hM : M ≤ H.next) (hsz : 1 ≤ sz) :
    ∃ s' H', aEff E T H (.call c) = some (s', H') ∧ Out H' N (H.next + 1) s' (n + 1) sz (cs ++ xs) ∧ H'.next = H.next + 1 ∧ min H.low N ≤ H'.low ∧
      (∀ b, (b < N ∨ M ≤ b) → b < H.next → H'.get b = H.get b) ∧ (∀ b es k, H.get b = some (.map es k) → b < H.next → H'.get b = some (.map es k)) := by
  unfold appT at ht
  cases hi : E.T t with
  | none => rw [hi] at ht; cases ht
  | some i =>
  cases hj : E.T u with
  | none => rw [hi, hj] at ht; cases ht
  | some j =>
  rw [hi, hj] at ht
  simp only at ht
  split at ht
  case h_2 => cases ht
  rename_i e e' hd hd'
  split at ht
  case h_2 => cases ht
  rename_i ie hie
  split at ht
  case h_2 => cases ht
  rename_i z hz
  cases hb : z.nt && (Nat.beq z.cells.length ie.size && (Nat.ble 1 ie.size && (Nat.ble ie.bytes 1048576)))
  · rw [hb] at ht; cases ht
  rw [hb] at ht
  cases ht
  simp only [Bool.and_eq_true] at hb
  obtain ⟨g1, g2, g3, g4⟩ := hb
  have hfeed : aFeed H ie j.desc z (.slice (some (bx, 0)) 1 cap more) = some (1, xs) := by
    have h1 : Nat.ble (0 + 1 * ie.size) xs.length = true := Nat.ble_eq_true_of_le (by omega)
    simp only [aFeed, hd', srcKind, cond_true, aSource, hg, h1, List.drop_zero]
    rw [List.take_of_length_le (by omega)]
  have hb1 : (Nat.ble ((n + 1) * ie.bytes) 1099511627776 && Nat.ble (n + 1) 1099511627776) = true := by
    simp only [Bool.and_eq_true]; exact ⟨Nat.ble_eq_true_of_le hn, Nat.ble_eq_true_of_le hn2⟩
  rcases ho with ⟨rfl, rfl, rfl⟩ | ⟨b, h1, h2, rfl, h4, h5⟩
  · refine ⟨.slice (some (H.next, 0)) 1 1 ie.size, H.push (.cells xs), ?_, .inr ⟨H.next, hN, by omega, rfl, gp_eq rfl, by simp [hl]⟩, rfl, Nat.min_le_left _ _, fun b _ hlt => gp_ne (by omega), fun b es k hb hlt => (gp_ne (by omega)).trans hb⟩
    simp only [aEff, hc, ha, hts, aEvals, hx, hy, aAppend, hi, hj, hd, hie, g3, g4, Bool.and_true, Bool.not_true, cond_false, hz, g1, g2, hfeed]
    simp only [Nat.zero_add] at hb1 ⊢
    simp only [hb1, Bool.not_true, cond_false, aSource]
    rfl
  · refine ⟨.slice (some (H.next, 0)) (n + 1) (n + 1) ie.size, (H.kill b).push (.cells (cs ++ xs)), ?_, .inr ⟨H.next, hN, by omega, rfl, gp_eq rfl, ?_⟩, rfl, ?_, ?_, ?_⟩
    · simp only [aEff, hc, ha, hts, aEvals, hx, hy, aAppend, hi, hj, hd, hie, g3, g4, Bool.and_true, Bool.not_true, cond_false, hz, g1, g2, hfeed]
      have e1 : Nat.ble (n + 1) n = false := by
        cases q : Nat.ble (n + 1) n
        · rfl
        · have := Nat.le_of_ble_eq_true q; omega
      have e2 : Nat.beq ie.size 0 = false := by
        cases q : Nat.beq ie.size 0
        · rfl
        · have := Nat.eq_of_beq_eq_true q; omega
      have e3 : Nat.beq ie.size ie.size = true := Nat.beq_refl _
      have e4 : Nat.ble (0 + n * ie.size) cs.length = true := Nat.ble_eq_true_of_le (by omega)
      have e5 : Nat.beq 1 0 = false := rfl
      simp only [e5, e1, hb1, Bool.not_true, cond_false, aSource, h4, e4, cond_true, e2, e3, List.drop_zero]
      rw [List.take_of_length_le (by omega)]
    · simp only [List.length_append, h5, Nat.succ_mul]; omega
    · show _ ≤ min H.low b
      omega
    · intro c hc' hlt
      have : c ≠ (H.kill b).next := by show c ≠ H.next; omega
      exact (gp_ne this).trans (gk_ne (by omega))
    · intro c es k hc' hlt
      have : c ≠ (H.kill b).next := by show c ≠ H.next; omega
      have hcb : c ≠ b := by rintro rfl; rw [h4] at hc'; cases hc'
      exact ((gp_ne this).trans (gk_ne hcb)).trans hc'

/-! Maps. -/
theorem v_lookup {T : Tr AV} {H : AHeap} {t m kt et : Nat} {x y : Operand} {ok : Bool} {es : List AEntry} {clock : Nat} {k : IntKind} {a : Int} {r : AV} (hx : aEval E T x = some (.map (some m))) (hy : aEval E T y = some (.int k a)) (ht : mapT E t = some (kt, et))
    (hk : keyKind ((E.T kt).elim .bool TI.desc) (.int k a) = true) (he : (E.T et).isSome = true) (hg : H.get m = some (.map es clock))
    (hr : (match aFind (.int k a) es 0 with
      | none => none
      | some (some (_, v)) => some (bif ok then AV.tuple [v, .bool true] else v)
      | some none => match (E.T et).elim none TI.zero with
        | some z => some (bif ok then AV.tuple [z, .bool false] else z)
        | none => none) = some r) : aVal E T H (.lookup t x y ok) = some r := by
  simp only [aVal, hx, hy, aLookup]
  unfold mapT at ht
  cases hi : E.T t with
  | none => rw [hi] at ht; cases ht
  | some i =>
    rw [hi] at ht
    simp only at ht
    split at ht
    · rename_i k' e' hd
      cases ht
      cases hkt : E.T kt with
      | none => rw [hkt] at hk; cases hk
      | some ik =>
        cases het : E.T et with
        | none => rw [het] at he; cases he
        | some ie =>
          rw [hkt] at hk
          rw [het] at hr
          simp only [hd, hkt, het]
          have hk : keyKind ik.desc (.int k a) = true := hk
          simp only [hk, cond_true, hg]
          exact hr
    · cases ht
theorem e_insert {T : Tr AV} {H : AHeap} {t m kt et : Nat} {x y u : Operand} {es : List AEntry} {clock : Nat} {k : IntKind} {a : Int} {v : AV} {es' : List AEntry} {clock' : Nat} (hx : aEval E T x = some (.map (some m))) (hy : aEval E T y = some (.int k a)) (hv : aEval E T u = some v) (ht : mapT E t = some (kt, et))
    (hk : keyKind ((E.T kt).elim .bool TI.desc) (.int k a) = true) (hg : H.get m = some (.map es clock))
    (hr : (match aFind (.int k a) es 0 with
      | some (some (j, _)) => some (aMod es j v, clock)
      | some none => some (es ++ [⟨.int k a, v, clock⟩], clock + 1)
      | none => none) = some (es', clock')) : aEff E T H (.insert t x y u) = some (undefA, H.upd m (.map es' clock')) ∧ aEff E T H (.mapUpdate t x y u) = some (undefA, H.upd m (.map es' clock')) := by
  have key : aMapUpdate E H t (.map (some m)) (.int k a) v = some (H.upd m (.map es' clock')) := by
    unfold mapT at ht
    cases hi : E.T t with
    | none => rw [hi] at ht; cases ht
    | some i =>
      rw [hi] at ht
      simp only at ht
      split at ht
      · rename_i k' e' hd
        cases ht
        cases hkt : E.T kt with
        | none => rw [hkt] at hk; cases hk
        | some ik =>
          rw [hkt] at hk
          have hk : keyKind ik.desc (.int k a) = true := hk
          simp only [aMapUpdate, hi, hd, hg, hkt, hk, cond_true]
          split at hr
          · rename_i j _ hf; cases hr; rw [hf]
          · rename_i hf; cases hr; rw [hf]
          · cases hr
      · cases ht
  exact ⟨by simp only [aEff, hx, hy, hv, key], by simp only [aEff, hx, hy, hv, key]⟩
theorem e_range {T : Tr AV} {H : AHeap} {t m kt et : Nat} {x : Operand} {es : List AEntry} {clock : Nat} (hx : aEval E T x = some (.map (some m))) (ht : mapT E t = some (kt, et)) (hg : H.get m = some (.map es clock)) :
    aEff E T H (.range t x) = some (.ptr (some (H.next, 0)), H.push (.miter (some m) clock [] clock)) := by
  simp only [aEff, hx, aRange]
  unfold mapT at ht
  cases hi : E.T t with
  | none => rw [hi] at ht; cases ht
  | some i =>
    rw [hi] at ht
    simp only at ht
    split at ht
    · rename_i k' e' hd; simp only [hd, hg]
    · cases ht
/-- A range over a map that is empty. -/
theorem o_next0 {F : Fns} {st : St} {arr : Array Oper} {o : Oper} {rest : List Oper} {T : Tr AV} {D : List ADef} {R : Rc} {H : AHeap} {Q : K} {d : Tmp} {x : Operand} {it m since last clock : Nat} {seen : List Nat} (hw : aWanted arr T o = some true) (hd : o.dst = some d) (hb : Nat.blt d st.n = true) (hop : o.op = .next x false)
    (hx : aEval E T x = some (.ptr (some (it, 0)))) (hi : H.get it = some (.miter (some m) since seen last)) (hm : H.get m = some (.map [] clock)) (hs : Nat.ble since last = true) (h : runOps E F st arr rest (T.put d (some (.tuple [.bool false]))) D R H Q) :
    runOps E F st arr (o :: rest) T D R H Q := by
  have e1 : aVal E T H o.op = none := by rw [hop]; rfl
  have e2 : aEff E T H o.op = none := by rw [hop]; rfl
  have e3 : aNext H (.ptr (some (it, 0))) = some [(.tuple [.bool false], H)] := by simp only [aNext, hi, hm, List.all_nil, Bool.true_and, hs, cond_true, List.filter_nil]
  simp only [runOps, hw, runOp]
  simp only [e1]
  simp only [e2]
  simp only [hop, hx, e3, setDst, hd, hb]
  intro r hr
  rw [List.mem_singleton] at hr; subst hr
  exact h

/-! Orders that are drawn. -/
theorem draw_of (hE : E.OK P) {st : St} {id : Nat} {ops : Array Oper} {l : List Oper} {first : List Nat} {steps : List PStep} {T : Tr AV} {D : List ADef} {R : Rc} {H : AHeap} {Q : K} (hl : ops.toList = l) (hp : planOf l = some ⟨first, steps⟩)
    (h : runEager E st.n ops first T H fun T H => runSteps E (Fsem E P) st ops steps T D R H Q) : RunOK E P st (.region id ops true) T D R H Q := by
  refine run_ok hE (Fsem_ok E P) (c := .region id ops true) ?_
  show runDraw E (Fsem E P) st ops T D R H Q
  unfold runDraw
  rw [hl, hp]
  exact h
section draw
variable {F : Fns} {st : St} {n : Nat} {arr : Array Oper} {i d : Nat} {is : List Nat} {o : Oper} {T : Tr AV} {D : List ADef} {R : Rc} {H : AHeap} {Q : K} {k : Tr AV → AHeap → Prop}
theorem g_val {v : AV} (hi : arr.toList[i]? = some o) (hw : aWanted arr T o = some true) (hd : o.dst = some d) (hb : Nat.blt d n = true) (hv : aVal E T H o.op = some v) (h : runEager E n arr is (T.put d (some v)) H k) : runEager E n arr (i :: is) T H k := by
  simp only [runEager, eager1, hi, hd, hb, hw, hv]; exact h
theorem g_not (hi : arr.toList[i]? = some o) (hw : aWanted arr T o = some false) (hd : o.dst = some d) (hb : Nat.blt d n = true) (h : runEager E n arr is (T.put d (some undefA)) H k) : runEager E n arr (i :: is) T H k := by
  simp only [runEager, eager1, hi, hd, hb, hw]; exact h
theorem g_new {v : AV} {ob : AObj} (hi : arr.toList[i]? = some o) (hw : aWanted arr T o = some true) (hd : o.dst = some d) (hb : Nat.blt d n = true) (hn : aVal E T H o.op = none) (hv : aNew E T H.next o.op = some (v, ob)) (h1 : oneB ob = true)
    (h : runEager E n arr is (T.put d (some v)) (H.push ob) k) : runEager E n arr (i :: is) T H k := by
  simp only [runEager, eager1, hi, hd, hb, hw, hn, hv, h1, cond_true]; exact h
theorem n_alloc {b t : Nat} {z : List AV} (h : zeroT E t = some z) : aNew E T b (.alloc t) = some (.ptr (some (b, 0)), .cells z) := by
  simp only [aNew]
  unfold zeroT at h
  cases hi : E.T t with
  | none => rw [hi] at h; cases h
  | some i =>
    rw [hi] at h
    simp only at h ⊢
    cases hz : i.zero with
    | none => rw [hz] at h; cases h
    | some z0 =>
      rw [hz] at h
      simp only at h ⊢
      cases hn : z0.nt
      · rw [hn] at h; cases h
      · rw [hn] at h; cases h; simp only [cond_true]
theorem s_val {check eager : List Nat} {ss : List PStep} {v : AV} (hi : arr.toList[i]? = some o) (hw : aWanted arr T o = some true) (hd : o.dst = some d) (hb : Nat.blt d st.n = true) (hv : aVal E T H o.op = some v) (hc : allStill E arr (T.put d (some v)) H check = true)
    (h : runEager E st.n arr eager (T.put d (some v)) H fun T H => runSteps E F st arr ss T D R H Q) : runSteps E F st arr (⟨i, check, eager⟩ :: ss) T D R H Q := by
  simp only [runSteps, hi, hw, runOp, hv, setDst, hd, hb, hc]; exact h
theorem s_eff {check eager : List Nat} {ss : List PStep} {v : AV} {H' : AHeap} (hi : arr.toList[i]? = some o) (hw : aWanted arr T o = some true) (hd : o.dst = some d) (hb : Nat.blt d st.n = true) (hn : aVal E T H o.op = none) (hv : aEff E T H o.op = some (v, H')) (hc : allStill E arr (T.put d (some v)) H' check = true)
    (h : runEager E st.n arr eager (T.put d (some v)) H' fun T H => runSteps E F st arr ss T D R H Q) : runSteps E F st arr (⟨i, check, eager⟩ :: ss) T D R H Q := by
  simp only [runSteps, hi, hw, runOp, hn, hv, setDst, hd, hb, hc]; exact h
theorem s_eff0 {check eager : List Nat} {ss : List PStep} {v : AV} {H' : AHeap} (hi : arr.toList[i]? = some o) (hw : aWanted arr T o = some true) (hd : o.dst = none) (hn : aVal E T H o.op = none) (hv : aEff E T H o.op = some (v, H')) (hc : allStill E arr T H' check = true)
    (h : runEager E st.n arr eager T H' fun T H => runSteps E F st arr ss T D R H Q) : runSteps E F st arr (⟨i, check, eager⟩ :: ss) T D R H Q := by
  simp only [runSteps, hi, hw, runOp, hn, hv, setDst, hd, hc]; exact h
theorem s_not {check eager : List Nat} {ss : List PStep} (hi : arr.toList[i]? = some o) (hw : aWanted arr T o = some false) (hd : o.dst = some d) (hb : Nat.blt d st.n = true)
    (h : runEager E st.n arr eager (T.put d (some undefA)) H fun T H => runSteps E F st arr ss T D R H Q) : runSteps E F st arr (⟨i, check, eager⟩ :: ss) T D R H Q := by
  simp only [runSteps, hi, hw, setDst, hd, hb]; exact h
theorem s_call1 {check eager : List Nat} {ss : List PStep} {c : Call} {f : Operand} {g : FuncId} {first cap as : List AV} {v : AV} {H' : AHeap} (hi : arr.toList[i]? = some o) (hw : aWanted arr T o = some true) (hd : o.dst = some d) (hb : Nat.blt d st.n = true) (hop : o.op = .call c) (hcc : c.callee = .value f)
    (hf : aEval E T f = some (.func (.func g) first cap)) (ha : aEvals E T c.args.toList = some as) (hk : CallOK E P g (first ++ as ++ cap) H (· = .ret v H')) (hc : allStill E arr (T.put d (some v)) H' check = true)
    (h : runEager E st.n arr eager (T.put d (some v)) H' fun T H => runSteps E (Fsem E P) st arr ss T D R H Q) : runSteps E (Fsem E P) st arr (⟨i, check, eager⟩ :: ss) T D R H Q := by
  have e1 : aVal E T H o.op = none := by rw [hop]; simp only [aVal, hcc]
  have e2 : aEff E T H o.op = none := by rw [hop]; simp only [aEff, hcc]
  simp only [runSteps, hi, hw, runOp]
  simp only [e1]
  simp only [e2]
  simp only [hop, hcc, hf, ha]
  refine CallOK.mono ?_ hk
  rintro r rfl
  simp only [backCall, setDst, hd, hb, hc]
  exact h
end draw
end
end Go.Am
namespace Go.Am
/-! A value is the same as itself. -/
mutual
def AV.nofn : AV → Bool
  | .func _ _ _ => false
  | .iface _ v => v.nofn
  | .agg cs => AV.nofns cs
  | .tuple cs => AV.nofns cs
  | _ => true
def AV.nofns : List AV → Bool
  | [] => true
  | a :: as => a.nofn && AV.nofns as
end
theorem ieq_self (a : Int) : ieq a a = true := by rw [ieq_eq]; simp
mutual
theorem AV.beq_self : ∀ (a : AV), a.nofn = true → AV.beq a a = true
  | .bool b, _ => by cases b <;> rfl
  | .int k n, _ => by simp [AV.beq, ieq_self]
  | .str s, _ => by simp [AV.beq]
  | .ptr none, _ => rfl
  | .ptr (some (a, b)), _ => by simp [AV.beq]
  | .slice none l c m, _ => by simp [AV.beq]
  | .slice (some (a, b)) l c m, _ => by simp [AV.beq]
  | .map none, _ => rfl
  | .map (some a), _ => by simp [AV.beq]
  | .func _ _ _, h => by simp [AV.nofn] at h
  | .nilFunc, _ => rfl
  | .nilIface, _ => rfl
  | .iface t v, h => by
    simp only [AV.nofn] at h
    simp [AV.beq, AV.beq_self v h]
  | .agg cs, h => by
    simp only [AV.nofn] at h
    simp only [AV.beq, AV.beqs_self cs h]
  | .tuple cs, h => by
    simp only [AV.nofn] at h
    simp only [AV.beq, AV.beqs_self cs h]
theorem AV.beqs_self : ∀ (as : List AV), AV.nofns as = true → AV.beqs as as = true
  | [], _ => rfl
  | a :: as, h => by
    simp only [AV.nofns, Bool.and_eq_true] at h
    simp only [AV.beqs, AV.beq_self a h.1, AV.beqs_self as h.2, Bool.and_true]
end
section
variable {E : Env} {arr : Array Oper} {T : Tr AV} {H : AHeap} {i d : Nat} {is : List Nat} {o : Oper} {a : AV}
theorem still_cons (hi : arr.toList[i]? = some o) (hd : o.dst = some d) (hw : aWanted arr T o = some true) (hv : aVal E T H o.op = some a) (hT : T.get d = some a) (hn : a.nofn = true) (h : allStill E arr T H is = true) : allStill E arr T H (i :: is) = true := by
  have : still E arr T H i = true := by simp only [still, hi, hd, hw, hv, hT, AV.beq_self a hn]
  simp only [allStill, this]; exact h
end
end Go.Am
namespace Go.Am
section
variable {E : Env} {P : Program}
/-- A call that leaves memory as it was, on a heap of the same places. -/
theorem CallOK.still {f : FuncId} {args : List AV} {H : AHeap} {v : AV} (hp : v.flat = true) (h : ∀ H0 : AHeap, (∀ b, H0.get b = H.get b) → H0.next = H.next → H0.low = H.next → CallOK E P f args H0 fun q => ∃ H1, q = .ret v H1 ∧ H.next ≤ H1.low) :
    CallOK E P f args H (· = .ret v H) := CallOK.pure hp (h H.fresh (fun _ => rfl) rfl rfl)

section
variable {T : Tr AV} {H : AHeap} {t a : Nat} {rs : List ResultVar} {v : AV} {vs : List AV}
theorem res_nil : aResults E [] T H = some [] := rfl
theorem res_tmp (h : T.get t = some v) (hr : aResults E rs T H = some vs) : aResults E (.tmp t :: rs) T H = some (v :: vs) := by
  simp only [aResults, h, hr]
theorem res_cell (h : aVal E T H (.load t (.tmp a)) = some v) (hr : aResults E rs T H = some vs) : aResults E (.cell a t :: rs) T H = some (v :: vs) := by
  simp only [aVal, aEval] at h
  simp only [aResults]
  split at h
  · rename_i p hp; simp only [hp, h, hr]
  · cases h
end
end
end Go.Am
namespace Go.Am
section
variable {E : Env} {P : Program}
/-- What a call leaves of the heap that there was. -/
structure Kept (H H' : AHeap) : Prop where
  get : ∀ b, b < H.next → H'.get b = H.get b
  next : H.next ≤ H'.next
  low : min H.low H.next ≤ H'.low

section
variable {st : St} {arr : Array Oper} {i d : Nat} {o : Oper} {T : Tr AV} {D : List ADef} {R : Rc} {H : AHeap} {Q : K} {rest : List Oper}
theorem o_callq {c : Call} {f : Operand} {g : FuncId} {first cap as : List AV} {q : Res → Prop} (hw : aWanted arr T o = some true) (hd : o.dst = some d) (hb : Nat.blt d st.n = true) (hop : o.op = .call c) (hc : c.callee = .value f)
    (hf : aEval E T f = some (.func (.func g) first cap)) (ha : aEvals E T c.args.toList = some as) (hk : CallOK E P g (first ++ as ++ cap) H q)
    (h : ∀ r, q r → ∃ v H', r = .ret v H' ∧ runOps E (Fsem E P) st arr rest (T.put d (some v)) D R H' Q) : runOps E (Fsem E P) st arr (o :: rest) T D R H Q := by
  refine o_call hw hop hc hf ha hk ?_
  intro r hr
  obtain ⟨v, H', rfl, hh⟩ := h r hr
  refine ⟨v, H', rfl, ?_⟩
  simp only [setDst, hd, hb]
  exact hh
theorem s_callq {check eager : List Nat} {ss : List PStep} {c : Call} {f : Operand} {g : FuncId} {first cap as : List AV} {q : Res → Prop} (hi : arr.toList[i]? = some o) (hw : aWanted arr T o = some true) (hd : o.dst = some d) (hb : Nat.blt d st.n = true) (hop : o.op = .call c) (hcc : c.callee = .value f)
    (hf : aEval E T f = some (.func (.func g) first cap)) (ha : aEvals E T c.args.toList = some as) (hk : CallOK E P g (first ++ as ++ cap) H q)
    (h : ∀ r, q r → ∃ v H', r = .ret v H' ∧ allStill E arr (T.put d (some v)) H' check = true ∧ runEager E st.n arr eager (T.put d (some v)) H' fun T H => runSteps E (Fsem E P) st arr ss T D R H Q) : runSteps E (Fsem E P) st arr (⟨i, check, eager⟩ :: ss) T D R H Q := by
  have e1 : aVal E T H o.op = none := by rw [hop]; simp only [aVal, hcc]
  have e2 : aEff E T H o.op = none := by rw [hop]; simp only [aEff, hcc]
  simp only [runSteps, hi, hw, runOp]
  simp only [e1]
  simp only [e2]
  simp only [hop, hcc, hf, ha]
  refine CallOK.mono ?_ hk
  intro r hr
  obtain ⟨v, H', rfl, h1, h2⟩ := h r hr
  simp only [backCall, setDst, hd, hb, h1]
  exact h2
end
end
end Go.Am
namespace Go.Am
section
variable {E : Env} {F : Fns} {st : St} {arr : Array Oper} {d : Nat} {o : Oper} {T : Tr AV} {D : List ADef} {R : Rc} {H : AHeap} {Q : K} {rest : List Oper}
theorem o_append {t u n sz by_ N M bx cap more : Nat} {c : Call} {x y : Operand} {s : AV} {cs xs : List AV} (hw : aWanted arr T o = some true) (hd : o.dst = some d) (hb : Nat.blt d st.n = true) (hop : o.op = .call c)
    (hc : c.callee = .builtin .append) (ha : c.args.toList = [x, y]) (hts : c.argTypes.toList = [t, u])
    (hx : aEval E T x = some s) (hy : aEval E T y = some (.slice (some (bx, 0)) 1 cap more)) (ht : appT E t u = some (sz, by_)) (ho : Out H N M s n sz cs) (hg : H.get bx = some (.cells xs)) (hl : xs.length = sz) (hn : (n + 1) * by_ ≤ 1099511627776) (hn2 : n + 1 ≤ 1099511627776) (hN : N ≤ H.next) (hM : M ≤ H.next) (hsz : Nat.ble 1 sz = true)
    (h : ∀ s' H', Out H' N H'.next s' (n + 1) sz (cs ++ xs) → H'.next = H.next + 1 → min H.low N ≤ H'.low → (∀ b, (b < N ∨ M ≤ b) → b < H.next → H'.get b = H.get b) → (∀ b es k, H.get b = some (.map es k) → b < H.next → H'.get b = some (.map es k)) →
      runOps E F st arr rest (T.put d (some s')) D R H' Q) : runOps E F st arr (o :: rest) T D R H Q := by
  obtain ⟨s', H', h1, h2, h3, h4, h5, h6⟩ := e_append hc ha hts hx hy ht ho hg hl hn hn2 hN hM (Nat.le_of_ble_eq_true hsz)
  exact o_eff hw hd hb (by rw [hop]; simp only [aVal, hc]) (by rw [hop]; exact h1) (h s' H' (by rw [h3]; exact h2) h3 h4 h5 h6)
end
end Go.Am
/-! AmSr -/
namespace Go.Am
open Go.RowKit

section
variable {E : Env} {P : Program}

/-- Lists of deferred calls, with nothing in them. -/
def EndD : List ADef → AHeap → (AHeap → Prop) → Prop
  | [], H, k => k H
  | .collected r :: D, H, k => H.get r = some (.deferred (some [])) ∧ EndD D (H.upd r (.deferred none)) k
  | _ :: _, _, _ => False
def EndDOK (E : Env) (rs : List ResultVar) (Q : Res → Prop) : K := fun e T D _ H =>
  match e with
  | .normal | .ret => EndD D H fun H => ∃ vs, aResults E rs T H = some vs ∧ Q (.ret (oneOf vs) H)
  | _ => False

theorem endD (hE : E.OK P) {rs : List ResultVar} {T : Tr AV} {Q : Res → Prop} : ∀ {D : List ADef} {H : AHeap}, EndD D H (fun H => ∃ vs, aResults E rs T H = some vs ∧ Q (.ret (oneOf vs) H)) →
    DefsOK E P D .ret H fun m H => match m with
      | .ret => match aResults E rs T H with
        | some vs => Q (.ret (oneOf vs) H)
        | none => False
      | .pan _ => False
  | [], H, h => by
    refine defs_ok hE (Fsem_ok E P) ?_
    obtain ⟨vs, h1, h2⟩ := h
    simp only [stepDefs, h1]
    exact h2
  | .collected r :: D, H, h => by
    refine defs_ok hE (Fsem_ok E P) ?_
    obtain ⟨h1, h2⟩ := h
    simp only [stepDefs, h1]
    exact endD hE h2
  | .fn _ _ _ :: _, _, h => h.elim

theorem body_of (hE : E.OK P) {f : FuncId} {a : AFn} (hF : E.F f = some a) {args : List AV} {H : AHeap} {Q : Res → Prop} (hl : Nat.ble args.length a.ntmps = true)
    (h : RunOK E P ⟨f, a.ntmps, none⟩ a.body (params args 0 .leaf) [] .off H (EndDOK E a.results Q)) : runBody E (Fsem E P) f args .off H fun _ => Q := by
  unfold runBody
  simp only [hF, hl]
  refine RunOK.mono ?_ h
  intro e T D R H he
  cases e with
  | normal => exact endD hE he
  | ret => exact endD hE he
  | _ => exact he.elim
theorem call_ofD (hE : E.OK P) {f : FuncId} {a : AFn} (hF : E.F f = some a) {args : List AV} {H : AHeap} {Q : Res → Prop} (hl : Nat.ble args.length a.ntmps = true)
    (h : RunOK E P ⟨f, a.ntmps, none⟩ a.body (params args 0 .leaf) [] .off H (EndDOK E a.results Q)) : CallOK E P f args H Q :=
  call_ok hE (Fsem_ok E P) (pr := fun _ => none) (fun f p h => by cases h) (body_of hE hF hl h)

/-- A call, as the walk's laws say it. -/
theorem calls_of_walk (hE : E.OK P) {f : FuncId} {args : List AV} {H : AHeap} {v : AV} {w : World} {ι : Ren} {as : List Value} (hb : runBody E (Fsem E P) f args .off H fun _ r => ∃ H', r = .ret v H') (hr : HRel ι H w) (hg : Glob E ι) (ha : VRels ι args as) :
    Calls P f ⟨as⟩ w fun e w' => ∃ v' ι' H', e = .returned v' ∧ VRel ι' v v' ∧ HRel ι' H' w' ∧ Ext ι H w ι' H' w' := by
  intro cs
  obtain ⟨_, R', r, ι', cs', w', fr, hq, hr', he', hcs, hs, hk, hfn, hl⟩ := body_ok hE (Fsem_ok E P) hb ι w as .normal cs hr hg ha trivial
  obtain ⟨rfl, rfl⟩ := hcs.off
  obtain ⟨H2, rfl⟩ := hq
  obtain ⟨hm, hd, fn, v', hf, hres, hvr⟩ := hl
  exact ⟨.returned v', w', fr, ⟨v', ι', H2, rfl, hvr, hr', he'⟩, hs, hfn, hm, hd, hk, fn, hf, hres⟩

/-- A call whose arguments name no memory. -/
theorem calls_plain (hE : E.OK P) (hn : E.nglob = 0) (hbase : E.base = fun _ => none) {f : FuncId} {args : List AV} {as : List Value} {b : Bool} {w : World} (ha : VRels (fun _ => none) args as)
    (hb : runBody E (Fsem E P) f args .off (FHeap.abs (FHeap.empty 0)) fun _ r => ∃ H', r = .ret (.bool b) H') :
    Calls P f ⟨as⟩ w fun e w' => e = .returned (.bool b) ∧ Below w.heap.size w w' := by
  have hg : Glob E (fun _ => none) := ⟨fun g hg => by rw [hn] at hg; omega, by rw [hbase]; exact Ren.le.refl _⟩
  refine (calls_of_walk hE hb (empty_rel w) hg ha).mono ?_
  rintro e w' ⟨v', ι', H', rfl, hv, _, he⟩
  simp only [VRel] at hv; subst hv
  refine ⟨rfl, he.below ?_⟩
  rintro b' ⟨b, o, s, _, hi⟩
  cases hi

/-- A range over a function. -/
theorem range_of (hE : E.OK P) {st : St} {f : Operand} {ps : Array Tmp} {ab bd : Code} {T : Tr AV} {D : List ADef} {R : Rc} {H : AHeap} {Q : K} {g : FuncId} {first cap : List AV} (hr : st.rnd = none) (hf : aEval E T f = some (.func (.func g) first cap))
    (h : CallOK E P g (first ++ [.func (.yield (H.next + 1)) [] []] ++ cap) ((H.push (.deferred (some []))).push (.loop ⟨.ready, none, st.fn, st.n, T, ps.toList, ab, bd, H.next⟩)) (afterLoop (H.next + 1) T (.collected H.next :: D) R Q)) :
    RunOK E P st (.rangeFunc f ps ab bd) T D R H Q := by
  refine run_ok hE (Fsem_ok E P) (c := .rangeFunc f ps ab bd) ?_
  show runRange E (Fsem E P) st f ps ab bd T D R H Q
  unfold runRange
  simp only [hf, hr]
  exact h
/-- A range over a function that calls its body not once. -/
theorem range_none (hE : E.OK P) {st : St} {f : Operand} {ps : Array Tmp} {ab bd : Code} {T : Tr AV} {D : List ADef} {R : Rc} {H : AHeap} {Q : K} {g : FuncId} {first cap : List AV} {v : AV} (hr : st.rnd = none) (hf : aEval E T f = some (.func (.func g) first cap))
    (h : ∀ H', H' = (H.push (.deferred (some []))).push (.loop ⟨.ready, none, st.fn, st.n, T, ps.toList, ab, bd, H.next⟩) → CallOK E P g (first ++ [.func (.yield (H.next + 1)) [] []] ++ cap) H' (· = .ret v H'))
    (hq : ∀ l l', Q .normal T (.collected H.next :: D) R (((H.push (.deferred (some []))).push (.loop l)).upd (H.next + 1) (.loop l'))) :
    RunOK E P st (.rangeFunc f ps ab bd) T D R H Q := by
  refine range_of hE hr hf (CallOK.mono ?_ (h _ rfl))
  rintro r rfl
  simp only [afterLoop]
  rw [gp_eq (show H.next + 1 = (H.push _).next from rfl)]
  exact hq _ _

end
end Go.Am
namespace Go.Am
section
variable {E : Env} {P : Program}
/-- A row of rows: its elements' size, bytes, zero. -/
noncomputable def makeT (E : Env) (t : Nat) : Option (Nat × Nat × List AV) :=
  match E.T t with
  | some i => (match i.desc with
    | .slice e => (match E.T e with
      | some ie => (match ie.zero with
        | some z => bif z.nt && (Nat.beq z.cells.length ie.size && Nat.ble 1 ie.size) then some (ie.size, ie.bytes, z.cells) else none
        | none => none)
      | none => none)
    | _ => none)
  | none => none
theorem n_makeSlice {T : Tr AV} {b t n sz by_ : Nat} {k k' : IntKind} {x y : Operand} {z : List AV} (hx : aEval E T x = some (.int k (.ofNat n))) (hy : aEval E T y = some (.int k' (.ofNat n))) (ht : makeT E t = some (sz, by_, z)) (hn : n * by_ ≤ 1099511627776) (hn2 : n ≤ 1099511627776) :
    aNew E T b (.makeSlice t x y) = some (.slice (some (b, 0)) n n 0, .cells (aRep z n)) := by
  simp only [aNew, hx, hy, aNewMake]
  unfold makeT at ht
  cases hi : E.T t with
  | none => rw [hi] at ht; cases ht
  | some i =>
    rw [hi] at ht
    simp only at ht
    split at ht
    case h_2 => cases ht
    rename_i e hd
    split at ht
    case h_2 => cases ht
    rename_i ie hie
    split at ht
    case h_2 => cases ht
    rename_i z0 hz
    cases hb : z0.nt && (Nat.beq z0.cells.length ie.size && Nat.ble 1 ie.size)
    · rw [hb] at ht; cases ht
    · rw [hb] at ht
      cases ht
      simp only [Bool.and_eq_true] at hb
      simp only [hd, hie, hz, hb.1, hb.2.1, hb.2.2, Nat.ble_eq_true_of_le hn, Nat.ble_eq_true_of_le hn2, Nat.ble_self_eq_true, Bool.and_true, cond_true]
theorem oneB_rep {z : List AV} (h : z.all AV.one = true) : ∀ n, oneB (.cells (aRep z n)) = true
  | 0 => rfl
  | n + 1 => by
    have := oneB_rep h n
    simp only [oneB, aRep, List.all_append, h, Bool.true_and] at this ⊢
    exact this
end
end Go.Am
namespace Go.Am
section
variable {E : Env} {P : Program} {T : Tr AV} {H : AHeap}
theorem v_lenm {t kt et m clock : Nat} {c : Call} {x : Operand} {es : List AEntry} (hc : c.callee = .builtin .len) (ha : c.args.toList = [x]) (hts : c.argTypes.toList = [t]) (hx : aEval E T x = some (.map (some m))) (ht : mapT E t = some (kt, et)) (hg : H.get m = some (.map es clock)) :
    aVal E T H (.call c) = some (.int .i64 (.ofNat es.length)) := by
  simp only [aVal, hc, ha, hts, aEvals, hx, aLen]
  unfold mapT at ht
  cases hi : E.T t with
  | none => rw [hi] at ht; cases ht
  | some i =>
    rw [hi] at ht
    simp only at ht
    split at ht
    · rename_i k e hd; simp only [hd, hg]
    · cases ht
noncomputable def funcT (E : Env) (t : Nat) : Bool := match E.T t with | some i => (match i.desc with | .func _ _ _ => true | _ => false) | none => false
theorem v_eqnil {t u : Nat} {x y : Operand} {f : Fn} {a b : List AV} (hx : aEval E T x = some (.func f a b)) (hy : aEval E T y = some .nilFunc) (ht : funcT E t = true) : aVal E T H (.binOp .eql t x y u) = some (.bool false) := by
  simp only [aVal, hx, hy, aBin, aEq]
  unfold funcT at ht
  cases hi : E.T t with
  | none => rw [hi] at ht; cases ht
  | some i =>
    rw [hi] at ht
    simp only at ht
    split at ht
    · rename_i hd; simp only [hd, Option.map_some]
    · cases ht
end
end Go.Am
namespace Go.Am
theorem v_sub {E : Env} {T : Tr AV} {H : AHeap} {x y : Operand} {k : IntKind} {a b c : Int} {t u : Nat} (hx : aEval E T x = some (.int k a)) (hy : aEval E T y = some (.int k b)) (h : fwrap k (a - b) = c) : aVal E T H (.binOp .sub t x y u) = some (.int k c) := by
  subst h; simp only [aVal, hx, hy, aBin, if_true, aInt2]
end Go.Am
