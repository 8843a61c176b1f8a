/- A machine that runs the program's code, right of the model for every tape; no condition. Ranges over functions. Code; bodies of functions; calls; deferred calls. Bodies of functions; calls; deferred calls; the abstract machine is right. Deferred calls; the abstract machine is right. The program's tables as trees. What a run has made and nobody needs may be forgotten; what a call on a heap does, it does on a larger one too. Functions that range over a map and ask a pure function of each value: whether one is such, how many are. One round of a range over a map that asks a pure function of each value. Whether one of a map's values is such; how many are. -/
import Derived.Test.YthjcjglemefekaaGreatDoorM02
/-! AmW -/
namespace Go.Am

section
variable {P : Program} {b : Frame} {t : Array Value} {d : List Deferred} {k : List Item} {cs : List Frame} {w : World}

theorem mk_eval2 (d' : List Deferred) (todo : List Item) : (mk b t d' todo).eval = (mk b t d []).eval := funext fun x => by cases x <;> rfl

theorem run_enterLoop_inner {l : Nat} {r : Loop} (h : w.heap[l]? = some (.loop r)) (fn : FuncId) (tmps : Array Value) (ps : Array Tmp) (assign body : Code) :
    (Instr.enterLoop fn tmps ps assign body (some l)).run P w = .ok (w.heap.size, []) (w.alloc (.loop { state := .ready, pending := none, fn, tmps, params := ps, assign, body, defers := r.defers })) := by
  unfold Instr.enterLoop
  simp only [Sem.run_bind, run_getLoop h, run_newObj_alloc, Result.andThen, Sem.run_pure]

theorem m_range {f : Operand} {ps : Array Tmp} {assign body : Code} {l : Nat} {mark : List Deferred} {w1 : World} (he : (Instr.enterLoop b.fn t ps assign body b.roundOf).run P w = .ok (l, mark) w1)
    {fn : Fn} {first cap : Array Value} (hf : (mk b t d []).eval f = .func fn first cap) :
    (stepG P true { frame := mk b t d (.code (.rangeFunc f ps assign body) :: k), callers := cs, status := .running, dying := none } w).bare =
      (stepG.apply P true (mk b t (mark ++ d) (.inRangeFunc l :: k)) cs none (invoke (.fn fn cap) (first.push (.func (.yield l) #[] #[]))) w1).bare := by
  have hev : (mk b t (mark ++ d) (.inRangeFunc l :: k)).eval = (mk b t d []).eval := mk_eval2 _ _
  have hs : (do let dd ← resolve (mk b t (mark ++ d) (.inRangeFunc l :: k)).eval { callee := .value f, args := #[.const (.func (.yield l) #[] #[])], argTypes := #[] } 0; invoke dd.target dd.args : Sem Next).run P w1 = (invoke (.fn fn cap) (first.push (.func (.yield l) #[] #[]))).run P w1 := by
    rw [hev]
    have hm : Array.map (mk b t d []).eval #[Operand.const (Value.func (Fn.yield l) #[] #[])] = #[Value.func (Fn.yield l) #[] #[]] := by simp [Frame.eval]
    simp only [resolve, Sem.run_bind, hf, Deferred.ofValue, Sem.run_pure, Result.andThen_ok, hm]
    simp
  simp only [mk] at hs
  simp [stepG, stepG.exec, stepG.apply, mk, he, hs]

theorem m_range_enter {f : Operand} {ps : Array Tmp} {assign body : Code} {l : Nat} {mark : List Deferred} {w1 w2 : World} (he : (Instr.enterLoop b.fn t ps assign body b.roundOf).run P w = .ok (l, mark) w1)
    {fn : Fn} {first cap : Array Value} (hf : (mk b t d []).eval f = .func fn first cap) {g : FuncId} {as : Array Value} (hr : (invoke (.fn fn cap) (first.push (.func (.yield l) #[] #[]))).run P w1 = .ok (.enter g as) w2) :
    step P (lone (mk b t d (.code (.rangeFunc f ps assign body) :: k)) cs w) = .next (lone (Frame.enter P g as .normal) (mk b t (mark ++ d) (.inRangeFunc l :: k) :: cs) w2) :=
  step_lone_go (by rw [m_range he hf]; simp [stepG.apply, hr, mk])
theorem m_range_round {f : Operand} {ps : Array Tmp} {assign body : Code} {l : Nat} {mark : List Deferred} {w1 w2 : World} (he : (Instr.enterLoop b.fn t ps assign body b.roundOf).run P w = .ok (l, mark) w1)
    {fn : Fn} {first cap : Array Value} (hf : (mk b t d []).eval f = .func fn first cap) {l2 : Nat} {g : FuncId} {tm : Array Value} {ab bd : Code} (hr : (invoke (.fn fn cap) (first.push (.func (.yield l) #[] #[]))).run P w1 = .ok (.round l2 g tm ab bd) w2) :
    step P (lone (mk b t d (.code (.rangeFunc f ps assign body) :: k)) cs w) = .next (lone (Frame.round l2 g tm ab bd .normal) (mk b t (mark ++ d) (.inRangeFunc l :: k) :: cs) w2) :=
  step_lone_go (by rw [m_range he hf]; simp [stepG.apply, hr])
theorem m_range_value {f : Operand} {ps : Array Tmp} {assign body : Code} {l : Nat} {mark : List Deferred} {w1 w2 : World} (he : (Instr.enterLoop b.fn t ps assign body b.roundOf).run P w = .ok (l, mark) w1)
    {fn : Fn} {first cap : Array Value} (hf : (mk b t d []).eval f = .func fn first cap) {v : Value} (hr : (invoke (.fn fn cap) (first.push (.func (.yield l) #[] #[]))).run P w1 = .ok (.value v) w2) :
    step P (lone (mk b t d (.code (.rangeFunc f ps assign body) :: k)) cs w) = .next (lone ((mk b t (mark ++ d) (.inRangeFunc l :: k)).finish v) cs w2) :=
  step_lone_go (by rw [m_range he hf]; simp [stepG.apply, hr])

theorem m_endRange {l : Nat} {r : Loop} {p : Option Code} (h : w.heap[l]? = some (.loop r)) (hb : r.state ≠ .busy) (hp : r.pending = p) :
    step P (lone (mk b t d (.endRangeFunc l :: k)) cs w) = .next (lone (mk b t d ((p.map Item.code).toList ++ k)) cs (w.putObj l (.loop { r with state := .exhausted }))) := by
  subst hp
  exact step_lone_go (by simp [stepG, stepG.exec, mk, run_endLoop h hb])
end

section
variable {E : Env} {P : Program} {F : Fns} {st : St} {T : Tr AV} {D : List ADef} {R : Rc} {H : AHeap} {Q : K}

/-- Behind the ranged-over function. -/
theorem after_ok {ι : Ren} {l : Nat} {b : Frame} {t : Array Value} {D : List ADef} {d : List Deferred} {k : List Item} {cs : List Frame} {w0 w : World} {H0 : AHeap} {m : Machine} {r : Res} (hq : afterLoop l T D R Q r) {l' : Nat} (hl : ι l = some (l', 0, 0))
    (hglob : Glob E ι) (hsr : StRel ι st b) (hT : TRel ι st.n T t) (hD : AllRel (DefRel ι) D d) (hrc : RcRel ι R b cs)
    (hret : RetOK P m ι H0 w0 (mk b t d (.inRangeFunc l' :: k)) cs r) :
    ∃ e T1 D1 R1 H1 ι1 t1 d1 cs1 w1, Q e T1 D1 R1 H1 ∧ Cf E ι1 st b T1 t1 D1 d1 R1 cs1 H1 w1 ∧ Ext ι H0 w0 ι1 H1 w1 ∧ CsTo R R1 cs cs1 ∧ Arr P ι1 m b k cs1 e t1 d1 w1 := by
  cases r with
  | pan v H' =>
    obtain ⟨κ, v', w', hr', hext, hvr, hs⟩ := hret
    rw [mk_raise] at hs
    exact ⟨_, T, D, R, H', κ, t, d, cs, w', hq, ⟨hr', hglob.mono hext.le, hsr.mono hext.le, hT.mono hext.le, hD.imp fun _ _ x => x.mono hext.le, hrc.mono hext.le⟩, hext, .refl _ _, _, v', hvr, hs⟩
  | ret v H' =>
    obtain ⟨κ, v', w', hr', hext, hvr, hs⟩ := hret
    simp only [afterLoop] at hq
    split at hq
    · rename_i r hgl
      obtain ⟨l2, r', hi, hw, hrel⟩ := hr'.loop hgl (hext.le _ _ hl)
      rw [hext.le _ _ hl] at hi; cases hi
      have hfin : (mk b t d (.inRangeFunc l' :: k)).finish v' = mk b t d (.endRangeFunc l' :: k) := rfl
      rw [hfin] at hs
      split at hq
      · exact hq.elim
      · rename_i hnb
        have hb : r'.state ≠ .busy := by rw [hrel.1]; exact fun e => hnb e
        have s2 := fun p hp => m_endRange (P := P) (b := b) (t := t) (d := d) (k := k) (cs := cs) (p := p) hw hb hp
        obtain ⟨hr4, he4⟩ := hr'.putLoop hgl (hext.le _ _ hl) hw (r2 := { r with state := .exhausted }) (r2' := { r' with state := .exhausted }) ⟨rfl, hrel.2⟩
        have hext' := hext.trans he4
        have hc : Cf E κ st b T t D d R cs _ _ := ⟨hr4, hglob.mono hext.le, hsr.mono hext.le, hT.mono hext.le, hD.imp fun _ _ x => x.mono hext.le, hrc.mono hext.le⟩
        split at hq
        · rename_i hpd; have s2 := s2 _ (hrel.2.1.trans hpd)
          exact ⟨_, T, D, R, _, κ, t, d, cs, _, hq, hc, hext', .refl _ _, hs.trans (.one s2)⟩
        · rename_i hpd; have s2 := s2 _ (hrel.2.1.trans hpd)
          exact ⟨_, T, D, R, _, κ, t, d, cs, _, hq, hc, hext', .refl _ _, _, hs.trans (.one s2)⟩
        · rename_i hpd; have s2 := s2 _ (hrel.2.1.trans hpd)
          exact ⟨_, T, D, R, _, κ, t, d, cs, _, hq, hc, hext', .refl _ _, _, hs.trans (.one s2), rfl⟩
        · rename_i hpd; have s2 := s2 _ (hrel.2.1.trans hpd)
          exact ⟨_, T, D, R, _, κ, t, d, cs, _, hq, hc, hext', .refl _ _, _, hs.trans (.one s2), rfl⟩
        · exact hq.elim
    · exact hq.elim

theorem range_ok (hE : E.OK P) (hF : FnsOK E P F) {f : Operand} {ps : Array Tmp} {assign body : Code} (h : runRange E F st f ps assign body T D R H Q) :
    RunOK E P st (.rangeFunc f ps assign body) T D R H Q := by
  intro ι b t d k cs w hc
  unfold runRange at h
  split at h
  · rename_i g first cap hg
    obtain ⟨fn', f', c', h1, h2, h3, hfe⟩ := cf_ev hc f _ hg
    simp only [FnRel] at h1; subst h1
    -- what is alike in both
    have go : ∀ (κ : Ren) (H2 : AHeap) (w2 : World) (l l' : Nat) (D2 : List ADef) (mark : List Deferred), HRel κ H2 w2 → Ext ι H w κ H2 w2 → κ l = some (l', 0, 0) → AllRel (DefRel κ) D2 (mark ++ d) →
        (Instr.enterLoop b.fn t ps assign body b.roundOf).run P w = .ok (l', mark) w2 → F.call g (first ++ [.func (.yield l) [] []] ++ cap) H2 (afterLoop l T D2 R Q) →
        Comes2 E P (lone (mk b t d (.code (.rangeFunc f ps assign body) :: k)) cs w) ι H w st b k R cs Q := by
      intro κ H2 w2 l l' D2 mark hr2 he2 hl hD2 hen hq
      have hle := he2.le
      have hy : VRels κ [.func (.yield l) [] []] [.func (.yield l') #[] #[]] := ⟨_, [], rfl, ⟨_, [], [], ⟨l', hl, rfl⟩, rfl, rfl, rfl⟩, rfl⟩
      have hbg := hF.call _ _ _ _ hq κ w2 _ hr2 (hc.glob.mono hle) (((VRels.mono hle _ _ h2).append hy).append (VRels.mono hle _ _ h3))
      have hinv : invoke (.fn (.func g) ⟨c'⟩) ((⟨f'⟩ : Array Value).push (.func (.yield l') #[] #[])) = callFunc g ⟨f' ++ [.func (.yield l') #[] #[]] ++ c'⟩ := by
        simp [invoke]
      rw [← hinv] at hbg
      have fin : ∀ m, Steps P (lone (mk b t d (.code (.rangeFunc f ps assign body) :: k)) cs w) m → (∃ r, afterLoop l T D2 R Q r ∧ RetOK P m κ H2 w2 (mk b t (mark ++ d) (.inRangeFunc l' :: k)) cs r) →
          Comes2 E P (lone (mk b t d (.code (.rangeFunc f ps assign body) :: k)) cs w) ι H w st b k R cs Q := by
        rintro m hs ⟨r, hqr, hret⟩
        obtain ⟨e, T1, D1, R1, H1, ι1, t1, d1, cs1, w1, h1, h2, h3, h4, h5⟩ := after_ok (E := E) (w := w) hqr hl (hc.glob.mono hle) (hc.sr.mono hle) (hc.T.mono hle) hD2 (hc.rc.mono hle) hret
        exact ⟨e, T1, D1, R1, H1, ι1, t1, d1, cs1, w1, h1, h2, he2.trans h3, h4, h5.of_steps hs⟩
      cases hbg with
      | enter hrun hback => exact fin _ (.one (m_range_enter hen hfe hrun)) (hback _ cs)
      | round hrun hback => exact fin _ (.one (m_range_round hen hfe hrun)) (hback _ cs)
      | value hrun hq hr' hext hvr => exact fin _ ⟨0, rfl⟩ ⟨_, hq, _, _, _, hr', hext, hvr, .one (m_range_value hen hfe hrun)⟩
    split at h
    · rename_i hrn
      have hb : b.roundOf = none := by have := hc.sr.2; rw [hrn] at this; exact this
      have p1 := hc.hr.push (o := .deferred (some [])) (o' := .deferred (some [])) 0 ⟨rfl, [], rfl, .nil⟩
      obtain ⟨hr1, he1⟩ := p1
      have p2 := hr1.push (o := .loop ⟨.ready, none, st.fn, st.n, T, ps.toList, assign, body, H.next⟩)
        (o' := .loop { state := .ready, pending := none, fn := b.fn, tmps := t, params := ps, assign, body, defers := w.heap.size }) 0
        ⟨rfl, _, rfl, rfl, rfl, hc.sr.1, (hc.T.mono (he1.le.trans (Ren.le_add (hr1.none_next (Nat.le_refl _))))), rfl, rfl, rfl, by
          rw [Ren.add_ne _ _ _ (by simp)]; simp⟩
      obtain ⟨hr2, he2⟩ := p2
      refine go _ _ _ _ _ _ [{ target := .collected w.heap.size, args := #[] }] hr2 (he1.trans he2) (Ren.add_same _ _ _ _) ?_ (by rw [hb, run_enterLoop_outer]; simp [World.size_alloc, Array.size_push]; rfl) h
      refine .cons ⟨w.heap.size, ?_, rfl⟩ (hc.D.imp fun _ _ x => x.mono (he1.trans he2).le)
      rw [Ren.add_ne _ _ _ (by simp)]; simp
    · rename_i q hrn
      obtain ⟨q', hq', hb⟩ : ∃ q', ι q = some (q', 0, 0) ∧ b.roundOf = some q' := by have := hc.sr.2; rw [hrn] at this; exact this
      split at h
      · rename_i r hgq
        obtain ⟨q2, r', hi, hw, hrel⟩ := hc.hr.loop hgq hq'
        rw [hq'] at hi; cases hi
        have p2 := hc.hr.push (o := .loop ⟨.ready, none, st.fn, st.n, T, ps.toList, assign, body, r.defers⟩)
          (o' := .loop { state := .ready, pending := none, fn := b.fn, tmps := t, params := ps, assign, body, defers := r'.defers }) 0
          ⟨rfl, _, rfl, rfl, rfl, hc.sr.1, (hc.T.mono (Ren.le_add (hc.hr.none_next (Nat.le_refl _)))), rfl, rfl, rfl, Ren.le_add (hc.hr.none_next (Nat.le_refl _)) _ _ hrel.2.2.2.2.2.2.2⟩
        obtain ⟨hr2, he2⟩ := p2
        exact go _ _ _ _ _ _ [] hr2 he2 (Ren.add_same _ _ _ _) (hc.D.imp fun _ _ x => x.mono he2.le) (by rw [hb, run_enterLoop_inner hw]; simp [World.size_alloc, Array.size_push]) h
      · exact h.elim
  · exact h.elim
end
end Go.Am
/-! AmX -/
namespace Go.Am

section
variable {E : Env} {P : Program} {F : Fns} {st : St} {T : Tr AV} {D : List ADef} {R : Rc} {H : AHeap} {Q : K}

theorem run_ok (hE : E.OK P) (hF : FnsOK E P F) {c : Code} (h : stepRun E F st c T D R H Q) : RunOK E P st c T D R H Q := by
  cases c with
  | skip => intro ι b t d k cs w hc; exact .here h hc (.one m_skip)
  | label l => intro ι b t d k cs w hc; exact .here h hc (.one m_label)
  | ret => intro ι b t d k cs w hc; exact .here h hc ⟨k, .refl _ _⟩
  | exit id => intro ι b t d k cs w hc; exact .here h hc ⟨k, .refl _ _, rfl⟩
  | goto l => intro ι b t d k cs w hc; exact .here h hc ⟨k, .refl _ _, rfl⟩
  | seq x y => exact seq_ok hF h
  | cond x y z =>
    intro ι b t d k cs w hc
    simp only [stepRun] at h
    split at h
    · rename_i hx
      have := cf_ev hc x _ hx
      exact .of_steps (.one (m_cond (r := true) this)) (hF.run _ _ _ _ _ _ _ h ι b t d k cs w hc)
    · rename_i hx
      have := cf_ev hc x _ hx
      exact .of_steps (.one (m_cond (r := false) this)) (hF.run _ _ _ _ _ _ _ h ι b t d k cs w hc)
    · exact h.elim
  | block id x => exact block_ok hF h
  | loop x => intro ι b t d k cs w hc; exact .of_steps (.one m_loop) (hF.loop _ _ _ _ _ _ _ h ι b t d k cs w hc)
  | scope x => intro ι b t d k cs w hc; exact .of_steps (.one m_scope) (hF.scope _ _ _ _ _ _ _ _ h ι b t d k cs w hc)
  | region id ops draw =>
    cases draw with
    | true => exact draw_ok hE (invoke_ok hE hF) h
    | false => exact region_ok hE (invoke_ok hE hF) h
  | rangeFunc f ps x y => exact range_ok hE hF h
  | refuse _ => exact (h : False).elim

/-! Results. -/
def resOne (t : Array Value) : ResultVar → Sem Value
  | .tmp i => pure (t.getD i undef)
  | .cell a ty => do loadVar ty (← asAddr (t.getD a undef))

theorem results_eq (fn : Func) (t : Array Value) : results fn t = (do let vs ← fn.results.mapM (resOne t); pure (if h : vs.size = 1 then vs[0] else .tuple vs)) := by
  unfold results
  congr 1

theorem results_rel (hE : E.OK P) {ι : Ren} {n : Nat} {t : Array Value} {w : World} (hr : HRel ι H w) (hT : TRel ι n T t) : ∀ (rs : List ResultVar) (as : List AV), aResults E rs T H = some as →
    ∃ vs, (rs.mapM (resOne t)).run P w = .ok vs w ∧ VRels ι as vs := by
  intro rs
  induction rs with
  | nil => intro as h; simp only [aResults, Option.some.injEq] at h; subst h; exact ⟨[], by simp, rfl⟩
  | cons x rs ih =>
    intro as h
    cases x with
    | tmp i =>
      simp only [aResults] at h
      split at h
      · rename_i a bs h1 h2
        cases h
        obtain ⟨vs, h3, h4⟩ := ih _ h2
        obtain ⟨v, h5, h6⟩ := hT.2 i a h1
        refine ⟨v :: vs, ?_, v, vs, rfl, h6, h4⟩
        have hv : t.getD i undef = v := by simp [h5]
        rw [List.mapM_cons]
        simp only [resOne, hv, Sem.run_bind, Sem.run_pure, Result.andThen_ok, h3]
      · cases h
    | cell i ty =>
      simp only [aResults] at h
      split at h
      · rename_i p h1
        split at h
        · rename_i a bs h2 h3
          cases h
          obtain ⟨vs, h4, h5⟩ := ih _ h3
          obtain ⟨v, h6, h7⟩ := hT.2 i _ h1
          obtain ⟨ad, had, rfl⟩ := h7
          obtain ⟨u, h8, h9⟩ := aLoad_sound hE hr had h2
          refine ⟨u :: vs, ?_, u, vs, rfl, h9, h5⟩
          have hv : t.getD i undef = .pointer (some ad) := by simp [h6]
          rw [List.mapM_cons]
          simp only [resOne, hv, asAddr, Sem.run_bind, Sem.run_pure, Result.andThen_ok, h4, h8]
        · cases h
      · cases h

theorem oneOf_rel {ι : Ren} {as : List AV} {vs : List Value} (h : VRels ι as vs) : VRel ι (oneOf as) (if h : (⟨vs⟩ : Array Value).size = 1 then (⟨vs⟩ : Array Value)[0] else .tuple ⟨vs⟩) := by
  match as, vs, h with
  | [], _, h => cases h; exact ⟨[], rfl, rfl⟩
  | [a], _, ⟨v, _, rfl, h1, h2⟩ => cases h2; simpa [oneOf] using h1
  | a :: b :: as, _, ⟨v, _, rfl, h1, u, vs, rfl, h3, h4⟩ => simp [oneOf]; exact ⟨_, ⟨_, _, rfl, h1, _, _, rfl, h3, h4⟩, rfl⟩

theorem results_run (hE : E.OK P) {ι : Ren} {n : Nat} {t : Array Value} {w : World} (hr : HRel ι H w) (hT : TRel ι n T t) {fn : Func} {rs : List ResultVar} (hf : fn.results.toList = rs) {as : List AV} (h : aResults E rs T H = some as) :
    ∃ v, (results fn t).run P w = .ok v w ∧ VRel ι (oneOf as) v := by
  obtain ⟨vs, h1, h2⟩ := results_rel hE hr hT rs as h
  have e : fn.results = rs.toArray := by rw [← hf]
  refine ⟨_, ?_, oneOf_rel h2⟩
  rw [results_eq, e, List.mapM_toArray]
  simp only [Sem.run_bind, Sem.run_map, h1, Result.andThen_ok, Sem.run_pure]
end
end Go.Am
/-! AmY -/
namespace Go.Am

section
variable {E : Env} {P : Program} {F : Fns} {st : St} {T : Tr AV} {D : List ADef} {R : Rc} {H : AHeap}

/-- How a frame stands when it is about to be left. -/
def LeftAs (P : Program) (ι : Ren) (fr : Frame) (w : World) : Res → Prop
  | .ret v _ => fr.mode = .returning ∧ fr.defers = [] ∧ ∃ fn v', P.funcs[fr.fn]? = some fn ∧ (results fn fr.tmps).run P w = .ok v' w ∧ VRel ι v v'
  | .pan v _ => ∃ v', fr.mode = .panicking [{ v := v', recovered := false }] ∧ fr.defers = [] ∧ VRel ι v v' ∧ ∃ fn, P.funcs[fr.fn]? = some fn

def Res.heap : Res → AHeap
  | .ret _ H => H
  | .pan _ H => H

def BodyOK (E : Env) (P : Program) (f : FuncId) (args : List AV) (R : Rc) (H : AHeap) (Q : Rc → Res → Prop) : Prop :=
  ∀ ι w args' kind cs, HRel ι H w → Glob E ι → VRels ι args args' → RcRel ι R (Frame.enter P f ⟨args'⟩ kind) cs →
    Enters P f ∧ ∃ R' r ι' cs' w' fr, Q R' r ∧ HRel ι' r.heap w' ∧ Ext ι H w ι' r.heap w' ∧ CsTo R R' cs cs' ∧ Steps P (lone (Frame.enter P f ⟨args'⟩ kind) cs w) (lone fr cs' w') ∧ fr.kind = kind ∧ fr.fn = f ∧ LeftAs P ι' fr w' r

theorem params_get : ∀ (args : List AV) (i : Nat) (T : Tr AV) (j : Nat), (params args i T).get j = if i ≤ j ∧ j < i + args.length then args[j - i]? else T.get j
  | [], i, T, j => by simp only [params, List.length_nil]; rw [if_neg (by omega)]
  | a :: args, i, T, j => by
    rw [params, params_get args (i + 1) _ j, Tr.get_put]
    by_cases h : j = i
    · subst h; rw [if_neg (by omega), if_pos rfl, if_pos (by simp)]; simp
    · by_cases h1 : i + 1 ≤ j ∧ j < i + 1 + args.length
      · rw [if_pos h1, if_pos (by simp; omega)]
        have : j - i = (j - (i + 1)) + 1 := by omega
        rw [this]; simp
      · rw [if_neg h1, if_neg h, if_neg (by simp; omega)]

theorem params_rel {ι : Ren} {args : List AV} {vs : List Value} (h : VRels ι args vs) {n : Nat} (hn : args.length ≤ n) : TRel ι n (params args 0 .leaf) (⟨vs⟩ ++ Array.replicate (n - (⟨vs⟩ : Array Value).size) undef) := by
  have hl := h.length
  refine ⟨by simp; omega, fun i a ha => ?_⟩
  rw [params_get] at ha
  by_cases hi : 0 ≤ i ∧ i < 0 + args.length
  · rw [if_pos hi] at ha
    obtain ⟨v, hv, hr⟩ := h.get ha
    refine ⟨v, ?_, hr⟩
    rw [Array.getElem?_append_left (by simp; omega)]
    simpa using hv
  · rw [if_neg hi] at ha; simp at ha

section leaving
variable {b : Frame} {t : Array Value} {d : List Deferred} {k : List Item} {cs : List Frame} {w : World}
theorem m_leave (hb : b.roundOf = none) : step P (lone (mk b t d []) cs w) = .next (lone { mk b t d [] with mode := .returning } cs w) :=
  step_lone_go (by simp [stepG, stepG.exec, mk, hb])
theorem m_leave_ret (hb : b.roundOf = none) : step P (lone (mk b t d (.code .ret :: k)) cs w) = .next (lone { mk b t d (.code .ret :: k) with mode := .returning } cs w) :=
  step_lone_go (by simp [stepG, stepG.exec, mk, hb])
end leaving

theorem body_ok (hE : E.OK P) (hF : FnsOK E P F) {f : FuncId} {args : List AV} {Q : Rc → Res → Prop} (h : runBody E F f args R H Q) : BodyOK E P f args R H Q := by
  intro ι w args' kind cs hr hg hv hrc
  unfold runBody at h
  split at h
  · exact h.elim
  · rename_i a ha
    obtain ⟨fn, hfn, hbody, hnt, hres, hname⟩ := hE.F f a ha
    have hent : Enters P f := ⟨fn, hfn, by rw [hbody]; rfl, hname⟩
    refine ⟨hent, ?_⟩
    split at h
    · exact h.elim
    · rename_i hle
      have hle := Nat.le_of_ble_eq_true hle
      have hfr : Frame.enter P f ⟨args'⟩ kind = mk (Frame.enter P f ⟨args'⟩ kind) (⟨args'⟩ ++ Array.replicate (a.ntmps - (⟨args'⟩ : Array Value).size) undef) [] [.code a.body] := by
        simp [Frame.enter, mk, hfn, hbody, hnt]
      obtain ⟨e, T1, D1, R1, H1, ι1, t1, d1, cs1, w1, hq, hc1, he1, hcs1, ha1⟩ := hF.run _ _ _ _ _ _ _ h ι (Frame.enter P f ⟨args'⟩ kind) _ [] [] cs w ⟨hr, hg, ⟨rfl, rfl⟩, params_rel hv hle, .nil, hrc⟩
      rw [← hfr] at ha1
      have hb : (Frame.enter P f ⟨args'⟩ kind).roundOf = none := rfl
      -- behind the body: the deferred calls
      have go : ∀ (todo : List Item) (am : AMode) (M : FrameMode) (Q' : AMode → AHeap → Prop), MRel ι1 am M → Steps P (lone (Frame.enter P f ⟨args'⟩ kind) cs w) (lone { mk (Frame.enter P f ⟨args'⟩ kind) t1 d1 todo with mode := M } cs1 w1) →
          F.defs D1 am H1 Q' → (∀ H, Q' .ret H → ∃ vs, aResults E a.results T1 H = some vs ∧ Q R1 (.ret (oneOf vs) H)) → (∀ v H, Q' (.pan v) H → Q R1 (.pan v H)) →
          ∃ R' r ι' cs' w' fr, Q R' r ∧ HRel ι' r.heap w' ∧ Ext ι H w ι' r.heap w' ∧ CsTo R R' cs cs' ∧ Steps P (lone (Frame.enter P f ⟨args'⟩ kind) cs w) (lone fr cs' w') ∧ fr.kind = kind ∧ fr.fn = f ∧ LeftAs P ι' fr w' r := by
        intro todo am M Q' hM hs hd h1 h2
        obtain ⟨m', H', ι', M', w', hq', hr', he', hM', hs'⟩ := hF.defs _ _ _ _ hd ι1 { mk (Frame.enter P f ⟨args'⟩ kind) t1 d1 todo with mode := M } M d1 cs1 w1 hc1.hr hc1.glob hc1.D hM
        cases m' with
        | ret =>
          obtain ⟨vs, hvs, hqr⟩ := h1 _ hq'
          obtain ⟨v, hv1, hv2⟩ := results_run hE hr' (hc1.T.mono he'.le) hres hvs
          cases hM'
          exact ⟨R1, _, ι', cs1, w', _, hqr, hr', he1.trans he', hcs1, hs.trans hs', rfl, rfl, rfl, rfl, fn, v, hfn, hv1, hv2⟩
        | pan v =>
          obtain ⟨v', hv1, rfl⟩ := hM'
          exact ⟨R1, _, ι', cs1, w', _, h2 _ _ hq', hr', he1.trans he', hcs1, hs.trans hs', rfl, rfl, v', rfl, rfl, hv1, fn, hfn⟩
      cases e with
      | normal =>
        refine go [] .ret .returning _ rfl (Steps.trans ha1 (.one (m_leave hb))) hq ?_ ?_
        · intro H h; simp only at h; split at h
          · exact ⟨_, ‹_›, h⟩
          · exact h.elim
        · intro v H h; exact (h : False).elim
      | ret =>
        obtain ⟨k₁, ha1⟩ := ha1
        refine go _ .ret .returning _ rfl (Steps.trans ha1 (.one (m_leave_ret hb))) hq ?_ ?_
        · intro H h; simp only at h; split at h
          · exact ⟨_, ‹_›, h⟩
          · exact h.elim
        · intro v H h; exact (h : False).elim
      | panic v =>
        obtain ⟨k₁, v', hvr, ha1⟩ := ha1
        refine go k₁ (.pan v) _ _ ⟨v', hvr, rfl⟩ ha1 hq ?_ ?_
        · intro H h; simp only at h; split at h
          · exact ⟨_, ‹_›, h⟩
          · exact h.elim
        · intro v H h; exact h
      | exit id => exact (hq : False).elim
      | goto l => exact (hq : False).elim

/-! A normal frame is left. -/
theorem Begins.mono {s : Sem Next} {ι : Ren} {w : World} {Q Q' : Res → Prop} (hQ : ∀ r, Q r → Q' r) (h : Begins P s ι H w Q) : Begins P s ι H w Q' := by
  cases h with
  | enter h1 h2 => exact .enter h1 fun c cs => let ⟨r, h3, h4⟩ := h2 c cs; ⟨r, hQ r h3, h4⟩
  | round h1 h2 => exact .round h1 fun c cs => let ⟨r, h3, h4⟩ := h2 c cs; ⟨r, hQ r h3, h4⟩
  | value h1 h2 h3 h4 h5 => exact .value h1 (hQ _ h2) h3 h4 h5

/-- What a function that is not walked is known to yield. -/
def PrimsOK (E : Env) (P : Program) (pr : Prims) : Prop := ∀ f p, pr f = some p → ∀ args H v H', p args H = some (v, H') → CallOK E P f args H (· = .ret v H')

theorem call_ok (hE : E.OK P) (hF : FnsOK E P F) {pr : Prims} (hp : PrimsOK E P pr) {f : FuncId} {args : List AV} {Q : Res → Prop} (h : stepCall E pr F f args H Q) : CallOK E P f args H Q := by
  intro ι w args' hr hg hv
  unfold stepCall at h
  split at h
  · rename_i p hpf
    split at h
    · rename_i v H' hpv
      exact (hp f p hpf args H v H' hpv ι w args' hr hg hv).mono (by rintro r rfl; exact h)
    · exact h.elim
  · obtain ⟨hent, _⟩ := body_ok hE hF h ι w args' .normal [] hr hg hv trivial
    refine .enter (hent.run _ _) fun c cs => ?_
    obtain ⟨_, R', r, ι', cs', w', fr, hq, hr', he', hcs, hs, hk, _, hl⟩ := body_ok hE hF h ι w args' .normal (c :: cs) hr hg hv trivial
    obtain ⟨rfl, rfl⟩ := hcs.off
    refine ⟨r, hq, ?_⟩
    cases r with
    | ret v H' =>
      obtain ⟨hm, hd, fn, v', hfn, hres, hvr⟩ := hl
      exact ⟨ι', v', w', hr', he', hvr, hs.trans (.one (step_leave_returned ⟨hm, hd, hk, fn, hfn, hres⟩))⟩
    | pan v H' =>
      obtain ⟨v', hm, hd, hvr, fn, hfn⟩ := hl
      exact ⟨ι', v', w', hr', he', hvr, hs.trans (.one (step_leave_panicked ⟨hm, hd, fn, hfn⟩))⟩
end
end Go.Am
/-! AmZ -/
namespace Go.Am

section
variable {E : Env} {P : Program} {F : Fns} {H : AHeap}

/-- What comes behind a deferred call. -/
def afterDef (M : FrameMode) : FrameMode :=
  match M with
  | .panicking ({ recovered := true, .. } :: older) => match older.dropWhile (!·.goexit) with
    | [] => .returning
    | rest => .panicking rest
  | m => m

theorem m_deferred_left {fr c : Frame} {cs : List Frame} {w : World} {fn : Func} {v : Value} (hm : fr.mode = .returning) (hd : fr.defers = []) (hk : fr.kind = .deferred) (hf : P.funcs[fr.fn]? = some fn) (hr : (results fn fr.tmps).run P w = .ok v w) :
    step P (lone fr (c :: cs) w) = .next (lone { c with mode := afterDef c.mode } cs w) := by
  refine step_lone_go ?_
  obtain ⟨cfn, ct, ctd, cd, cm, ck, cr⟩ := c
  unfold afterDef
  simp [stepG, unwind, doReturn, hm, hd, hk, hf, hr]
  repeat' split
  all_goals simp_all

theorem m_collected {fr : Frame} {cs : List Frame} {w : World} {M : FrameMode} {r : Nat} {ds d : List Deferred} (hM : M ≠ .run) (h : w.heap[r]? = some (.deferred (some ds))) :
    step P (lone { fr with defers := { target := .collected r, args := #[] } :: d, mode := M } cs w) = .next (lone { fr with defers := ds ++ d, mode := M } cs (w.putObj r (.deferred none))) := by
  refine step_lone_go ?_
  cases M with
  | run => exact absurd rfl hM
  | returning => simp [stepG, unwind, run_takeDeferred h]
  | panicking c => simp [stepG, unwind, run_takeDeferred h]

theorem m_callDeferred {fr : Frame} {cs : List Frame} {w : World} {M : FrameMode} {g : FuncId} {cap args : Array Value} {d : List Deferred} (hM : M ≠ .run) (hg : Enters P g) :
    step P (lone { fr with defers := { target := .fn (.func g) cap, args := args } :: d, mode := M } cs w) = .next (lone (Frame.enter P g (args ++ cap) .deferred) ({ fr with defers := d, mode := M } :: cs) w) := by
  refine step_lone_go ?_
  have := hg.run (args ++ cap) w
  cases M with
  | run => exact absurd rfl hM
  | returning => simp [stepG, unwind, callDeferred, invoke, this]
  | panicking c => simp [stepG, unwind, callDeferred, invoke, this]

theorem MRel.ne {ι : Ren} {m : AMode} {M : FrameMode} (h : MRel ι m M) : M ≠ .run := by
  rintro rfl
  cases m with
  | ret => cases h
  | pan v => obtain ⟨_, _, h⟩ := h; cases h
theorem MRel.mono {ι κ : Ren} (hle : ι.le κ) {m : AMode} {M : FrameMode} (h : MRel ι m M) : MRel κ m M := by
  cases m with
  | ret => exact h
  | pan v => obtain ⟨v', h1, h2⟩ := h; exact ⟨v', h1.mono hle, h2⟩

theorem defs_ok (hE : E.OK P) (hF : FnsOK E P F) {D : List ADef} {m : AMode} {Q : AMode → AHeap → Prop} (h : stepDefs E F D m H Q) : DefsOK E P D m H Q := by
  intro ι fr M d cs w hr hg hD hM
  unfold stepDefs at h
  split at h
  · cases hD
    exact ⟨m, H, ι, M, w, h, hr, .refl _ _ _, hM, .refl _ _⟩
  · rename_i r D
    cases hD with
    | cons h1 h2 =>
      rename_i bs
      obtain ⟨r', hi, rfl⟩ := h1
      split at h
      · rename_i ds hgr
        obtain ⟨b', s, o', hi', hw, ho⟩ := hr.obj r _ _ _ hgr hi
        rw [hi] at hi'; cases hi'
        obtain ⟨_, ds', rfl, hds⟩ := ho
        have s1 := m_collected (P := P) (fr := fr) (cs := cs) (d := bs) hM.ne hw
        have hlt : r' < w.heap.size := hr.ran _ _ _ hi
        obtain ⟨hr2, he2⟩ := hr.upd (o := .deferred none) (o' := .deferred none) (w' := w.putObj r' (.deferred none)) hgr hi (World.putObj_heap_same hlt) World.putObj_size (fun c hc => World.putObj_heap_other hc) ⟨rfl, rfl⟩ ⟨rfl, rfl, rfl⟩
        obtain ⟨m', H', ι', M', w', hq, hr3, he3, hM3, hs⟩ := hF.defs _ _ _ _ h ι fr M _ cs _ hr2 hg (hds.append h2) hM
        exact ⟨m', H', ι', M', w', hq, hr3, he2.trans he3, hM3, .head s1 hs⟩
      · exact h.elim
  · rename_i g cap args D
    cases hD with
    | cons h1 h2 =>
      obtain ⟨f', cap', args', hf, hcap, hargs, rfl⟩ := h1
      simp only [FnRel] at hf; subst hf
      rename_i ds
      have hrc : RcRel ι (match (generalizing := false) m with | .ret => Rc.nothing | .pan v => .avail v) (Frame.enter P g ⟨args' ++ cap'⟩ .deferred) ({ fr with defers := ds, mode := M } :: cs) := by
        cases m with
        | ret => exact ⟨rfl, _, _, rfl, hM⟩
        | pan v => obtain ⟨v', hv, rfl⟩ := hM; exact ⟨rfl, _, _, v', rfl, rfl, hv⟩
      obtain ⟨hent, R', r, ι1, cs1, w1, fr1, hq, hr1, he1, hcs1, hs1, hk1, _, hl1⟩ := body_ok hE hF h ι w _ .deferred _ hr hg (hargs.append hcap) hrc
      have s0 := m_callDeferred (P := P) (fr := fr) (cs := cs) (w := w) (cap := ⟨cap'⟩) (args := ⟨args'⟩) (d := ds) hM.ne hent
      have e0 : (⟨args'⟩ : Array Value) ++ ⟨cap'⟩ = ⟨args' ++ cap'⟩ := by simp
      rw [e0] at s0
      cases r with
      | pan v H1 => exact (hq : False).elim
      | ret v H1 =>
        obtain ⟨hm, hd, fn, v', hfn, hres, hvr⟩ := hl1
        rcases hcs1 with ⟨rfl, rfl⟩ | ⟨u, c, r0, u', hR, rfl, hcs, hcm, rfl⟩
        · have s2 := m_deferred_left (P := P) (c := { fr with defers := ds, mode := M }) (cs := cs) hm hd hk1 hfn hres
          have hM2 : afterDef M = M := by
            cases m with
            | ret => cases hM; rfl
            | pan v => obtain ⟨v', hv, rfl⟩ := hM; rfl
          have hq2 : F.defs D m H1 Q := by
            cases m with
            | ret => exact hq
            | pan v => exact hq
          simp only [hM2] at s2
          obtain ⟨m', H', ι', M', w', hq, hr3, he3, hM3, hs⟩ := hF.defs _ _ _ _ hq2 ι1 fr M ds cs w1 hr1 (hg.mono he1.le) (h2.imp fun _ _ x => x.mono he1.le) (hM.mono he1.le)
          exact ⟨m', H', ι', M', w', hq, hr3, he1.trans he3, hM3, .head s0 (hs1.trans (.head s2 hs))⟩
        · cases hcs
          have s2 := m_deferred_left (P := P) (c := { fr with defers := ds, mode := .panicking [{ v := u', recovered := true }] }) (cs := cs) hm hd hk1 hfn hres
          have hM2 : afterDef (.panicking [{ v := u', recovered := true }]) = .returning := rfl
          simp only [hM2] at s2
          obtain ⟨m', H', ι', M', w', hq, hr3, he3, hM3, hs⟩ := hF.defs _ _ _ _ hq ι1 fr .returning ds cs w1 hr1 (hg.mono he1.le) (h2.imp fun _ _ x => x.mono he1.le) rfl
          exact ⟨m', H', ι', M', w', hq, hr3, he1.trans he3, hM3, .head s0 (hs1.trans (.head s2 hs))⟩
  · exact h.elim

theorem fns_ok (hE : E.OK P) {pr : Prims} (hp : PrimsOK E P pr) : ∀ n, FnsOK E P (fns E pr n)
  | 0 => ⟨fun _ _ _ _ _ _ _ h => h.elim, fun _ _ _ _ _ _ _ h => h.elim, fun _ _ _ _ _ _ _ _ h => h.elim, fun _ _ _ _ h => h.elim, fun _ _ _ _ h => h.elim⟩
  | n + 1 =>
    have ih := fns_ok hE hp n
    ⟨fun _ _ _ _ _ _ _ h => run_ok hE ih h, fun _ _ _ _ _ _ _ h => loop_ok ih h, fun _ _ _ _ _ _ _ _ h => scope_ok ih h, fun _ _ _ _ h => call_ok hE ih hp h, fun _ _ _ _ h => defs_ok hE ih h⟩
end
end Go.Am
/-! AmEnv -/
namespace Go.Am

section
variable {α : Type}
/-- A list's places, by rows of 32. -/
def tailN (n : Nat) : List α → List α := Nat.rec (motive := fun _ => List α → List α) (fun l => l) (fun _ ih l => ih l.tail) n
def rowOf (l : List α) (k : Nat) : List α := Nat.rec (motive := fun _ => List α) l (fun _ ih => tailN 32 ih) k
def lk (l : List α) (n : Nat) : Option α := (tailN (n % 32) (rowOf l (n / 32))).head?
theorem tailN_eq : ∀ (n : Nat) (l : List α), tailN n l = l.drop n
  | 0, l => rfl
  | n + 1, l => by
    show tailN n l.tail = _
    rw [tailN_eq n]; cases l <;> simp
theorem rowOf_eq (l : List α) : ∀ k, rowOf l k = l.drop (32 * k)
  | 0 => rfl
  | k + 1 => by
    show tailN 32 (rowOf l k) = _
    rw [rowOf_eq l k, tailN_eq, List.drop_drop]; congr 1
theorem lk_eq (l : List α) (n : Nat) : lk l n = l[n]? := by
  unfold lk
  rw [tailN_eq, rowOf_eq, List.drop_drop, List.head?_drop]
  congr 1; omega
end

noncomputable def tiOf (tt : List TypeInfo) (i : TypeInfo) : Option TI :=
  match i.desc with
  | .named _ u => match lk tt u with
    | some j => some ⟨i.size, i.bytes, match i.zero with | some z => ofV z | none => none, j.desc⟩
    | none => none
  | d => some ⟨i.size, i.bytes, match i.zero with | some z => ofV z | none => none, d⟩

noncomputable def afOf (f : Func) : Option AFn :=
  match f.body with
  | some b => if (f.name == "runtime.NumGoroutine") = false then some ⟨f.ntmps, f.results.toList, b⟩ else none
  | none => none

noncomputable def envOf (tt : List TypeInfo) (ft : List Func) (ng : Nat) (flat : Nat → Bool) : Env :=
  ⟨ng, fun f => match lk ft f with | some fn => afOf fn | none => none, fun t => match lk tt t with | some i => tiOf tt i | none => none, flat, fun _ => none⟩

theorem envOf_ok {P : Program} {tt : List TypeInfo} {ft : List Func} {ng : Nat} {flat : Nat → Bool} (hT : ∀ t i, lk tt t = some i → P.info? t = some i) (hF : ∀ f fn, lk ft f = some fn → P.funcs[f]? = some fn) (hm : P.follows .mixedOrders = true)
    (hflat : ∀ t, flat t = true → ∀ (xs ys : List AV) (r : Bool) (xs' ys' : List Value) (ι : Ren) (w : World) (x y : Operand), VRels ι xs xs' → VRels ι ys ys' → samePlain xs ys = some r → ∀ i, (envOf tt ft ng flat).T t = some i → xs.length = i.size → ys.length = i.size →
      (Op.equal t (.agg ⟨xs'⟩) (.agg ⟨ys'⟩)).run P w = .ok r w ∧ ∀ op, (eqGuard op t x y (.agg ⟨xs'⟩) (.agg ⟨ys'⟩)).run P w = .ok () w) : (envOf tt ft ng flat).OK P where
  T := by
    intro t i h
    simp only [envOf] at h
    split at h
    · rename_i j hj
      have hz : ∀ z, (match j.zero with | some z => ofV z | none => none) = some z → ∃ zv, j.zero = some zv ∧ ∀ ι, VRel ι z zv := by
        intro z hz
        split at hz
        · rename_i zv hzv; exact ⟨zv, hzv, fun ι => ofV_rel ι zv z hz⟩
        · cases hz
      refine ⟨j, hT _ _ hj, ?_⟩
      unfold tiOf at h
      split at h
      · rename_i n u hd
        split at h
        · rename_i k hk
          cases h
          refine ⟨?_, rfl, rfl, hz⟩
          unfold Program.underlying
          rw [hT _ _ hj]
          obtain ⟨desc, str, size, bytes, hp, al, fa⟩ := j
          simp only at hd
          subst hd
          simp [hT _ _ hk]
        · cases h
      · rename_i hd
        cases h
        refine ⟨?_, rfl, rfl, hz⟩
        unfold Program.underlying
        rw [hT _ _ hj]
        split
        · rename_i n u _ heq; cases heq; exact absurd rfl (hd _ _)
        · rename_i heq; cases heq; rfl
        · rename_i heq; cases heq
    · cases h
  F := by
    intro f a h
    simp only [envOf] at h
    split at h
    · rename_i fn hfn
      unfold afOf at h
      split at h
      · rename_i b hb
        split at h
        · rename_i hn; cases h; exact ⟨fn, hF _ _ hfn, hb, rfl, rfl, hn⟩
        · cases h
      · cases h
    · cases h
  mixed := hm
  flat := hflat
end Go.Am
/-! AmGc -/
namespace Go.Am

section
variable {ι κ : Ren} (hle : ι.le κ)

theorem AddrRel.back {ι κ : Ren} (hle : ι.le κ) {p : Nat × Nat} {a : Addr} (hd : ∃ x, ι p.1 = some x) (h : AddrRel κ p a) : AddrRel ι p a := by
  obtain ⟨b, s, hb, ha⟩ := h
  obtain ⟨x, hx⟩ := hd
  have := hle _ _ hx
  rw [hb] at this; cases this
  exact ⟨b, s, hx, ha⟩
theorem AddrRel.dom {ι : Ren} {p : Nat × Nat} {a : Addr} (h : AddrRel ι p a) : ∃ x, ι p.1 = some x := let ⟨_, _, hb, _⟩ := h; ⟨_, hb⟩
theorem some_back {ι κ : Ren} (hle : ι.le κ) {l : Nat} {x y : Nat × (Nat × Nat)} (h : ι l = some x) (h' : κ l = some y) : ι l = some y := by
  have := hle _ _ h
  rw [h'] at this; cases this; exact h
theorem FnRel.back {ι κ : Ren} (hle : ι.le κ) {f g g' : Fn} (h : FnRel ι f g) (h' : FnRel κ f g') : FnRel ι f g' := by
  cases f with
  | yield l =>
    obtain ⟨l1, h1, rfl⟩ := h
    obtain ⟨l2, h2, rfl⟩ := h'
    exact ⟨l2, some_back hle h1 h2, rfl⟩
  | _ => exact h'

mutual
theorem VRel.back {ι κ : Ren} (hle : ι.le κ) : ∀ (a : AV) (v v' : Value), VRel ι a v → VRel κ a v' → VRel ι a v'
  | .bool _, _, _, _, h => h
  | .int _ _, _, _, _, h => h
  | .str _, _, _, _, h => h
  | .ptr none, _, _, _, h => h
  | .ptr (some _), _, _, h0, h => by
    obtain ⟨a0, ha0, _⟩ := h0
    obtain ⟨a, ha, e⟩ := h
    exact ⟨a, ha.back hle ha0.dom, e⟩
  | .slice none _ _ _, _, _, _, h => h
  | .slice (some _) _ c m, _, _, h0, h => by
    obtain ⟨a0, c0, _, _, g2, g3, g5, g4⟩ := h0
    obtain ⟨a, c', e, h1, h2, h3, h5, h4⟩ := h
    refine ⟨a, c', e, h1, h2, h3, fun hm => ?_, ?_⟩
    · obtain ⟨b0, s0, hb0, _⟩ := g5 hm
      obtain ⟨b, s, hb, hr⟩ := h5 hm
      exact ⟨b, s, some_back hle hb0 hb, hr⟩
    · rcases h4 with h4 | h4
      · rcases g4 with g4 | g4
        · exact .inl (h4.back hle g4.dom)
        · by_cases hm : m = 0
          · right
            have := h3 hm; omega
          · obtain ⟨b0, s0, hb0, _⟩ := g5 hm
            exact .inl (h4.back hle ⟨_, hb0⟩)
      · exact .inr h4
  | .map none, _, _, _, h => h
  | .map (some _), _, _, h0, h => by
    obtain ⟨r0, hr0, _⟩ := h0
    obtain ⟨r, hr, e⟩ := h
    exact ⟨r, some_back hle hr0 hr, e⟩
  | .func _ first cap, _, _, h0, h => by
    obtain ⟨f0, a0, c0, g1, g2, g3, _⟩ := h0
    obtain ⟨f, a, c, h1, h2, h3, e⟩ := h
    exact ⟨f, a, c, FnRel.back hle g1 h1, VRels.back hle first _ _ g2 h2, VRels.back hle cap _ _ g3 h3, e⟩
  | .nilFunc, _, _, _, h => h
  | .iface _ x, _, _, h0, h => by
    obtain ⟨x0, hx0, _⟩ := h0
    obtain ⟨x', hx, e⟩ := h
    exact ⟨x', VRel.back hle x _ _ hx0 hx, e⟩
  | .nilIface, _, _, _, h => h
  | .agg cs, _, _, h0, h => by
    obtain ⟨_, c0, hc0, _⟩ := h0
    obtain ⟨h1, c, hc, e⟩ := h
    exact ⟨h1, c, VRels.back hle cs _ _ hc0 hc, e⟩
  | .tuple cs, _, _, h0, h => by
    obtain ⟨c0, hc0, _⟩ := h0
    obtain ⟨c, hc, e⟩ := h
    exact ⟨c, VRels.back hle cs _ _ hc0 hc, e⟩
theorem VRels.back {ι κ : Ren} (hle : ι.le κ) : ∀ (as : List AV) (vs vs' : List Value), VRels ι as vs → VRels κ as vs' → VRels ι as vs'
  | [], _, _, _, h => h
  | a :: as, _, _, h0, h => by
    obtain ⟨v0, t0, _, g1, g2⟩ := h0
    obtain ⟨v, t, e, h1, h2⟩ := h
    exact ⟨v, t, e, VRel.back hle a _ _ g1 h1, VRels.back hle as _ _ g2 h2⟩
end

theorem TRel.back {ι κ : Ren} (hle : ι.le κ) {n : Nat} {T : Tr AV} {t t' : Array Value} (h0 : TRel ι n T t) (h : TRel κ n T t') : TRel ι n T t' :=
  ⟨h.1, fun i a ha => let ⟨v, hv, hx⟩ := h.2 i a ha; let ⟨v0, _, hx0⟩ := h0.2 i a ha; ⟨v, hv, VRel.back hle a _ _ hx0 hx⟩⟩
theorem DefRel.back {ι κ : Ren} (hle : ι.le κ) {d : ADef} {x y : Deferred} (h0 : DefRel ι d x) (h : DefRel κ d y) : DefRel ι d y := by
  cases d with
  | fn f cap args =>
    obtain ⟨f0, c0, a0, g1, g2, g3, _⟩ := h0
    obtain ⟨f', c, a, h1, h2, h3, e⟩ := h
    exact ⟨f', c, a, FnRel.back hle g1 h1, VRels.back hle cap _ _ g2 h2, VRels.back hle args _ _ g3 h3, e⟩
  | collected r =>
    obtain ⟨r0, g1, _⟩ := h0
    obtain ⟨r', h1, e⟩ := h
    exact ⟨r', some_back hle g1 h1, e⟩
theorem AllRel.back {α β : Type} {R S : α → β → Prop} (hrs : ∀ a x y, R a x → S a y → R a y) : ∀ {as : List α} {xs ys : List β}, AllRel R as xs → AllRel S as ys → AllRel R as ys
  | [], _, _, _, .nil => .nil
  | _ :: _, _, _, .cons h0 t0, .cons h t => .cons (hrs _ _ _ h0 h) (AllRel.back hrs t0 t)
theorem ORel.back {ι κ : Ren} (hle : ι.le κ) {s : Nat × Nat} {o : AObj} {x y : Obj} (h0 : ORel ι s o x) (h : ORel κ s o y) : ORel ι s o y := by
  cases o with
  | cells c =>
    obtain ⟨c0, t0, z0, _, g, _⟩ := h0
    obtain ⟨c', t, z, e, hc, hs⟩ := h
    exact ⟨c', t, z, e, fun i a hi => let ⟨h1, v, hv, hx⟩ := hc i a hi; let ⟨_, v0, _, hx0⟩ := g i a hi; ⟨h1, v, hv, VRel.back hle a _ _ hx0 hx⟩, hs⟩
  | map es clock =>
    obtain ⟨_, e0, _, g⟩ := h0
    obtain ⟨hs, es', e, hh⟩ := h
    exact ⟨hs, es', e, AllRel.back (fun a x y hx hy => ⟨VRel.back hle _ _ _ hx.1 hy.1, VRel.back hle _ _ _ hx.2.1 hy.2.1, hy.2.2⟩) g hh⟩
  | loop l =>
    obtain ⟨_, l0, _, g1, g2, g3, g4, g5, g6, g7, g8⟩ := h0
    obtain ⟨hs, l', e, h1, h2, h3, h4, h5, h6, h7, h8⟩ := h
    exact ⟨hs, l', e, h1, h2, h3, TRel.back hle g4 h4, h5, h6, h7, some_back hle g8 h8⟩
  | deferred ds =>
    cases ds with
    | none => exact h
    | some ds =>
      obtain ⟨_, d0, _, g⟩ := h0
      obtain ⟨hs, ds', e, hh⟩ := h
      exact ⟨hs, ds', e, AllRel.back (R := DefRel ι) (S := DefRel κ) (fun _ _ _ hx hy => DefRel.back hle hx hy) g hh⟩
  | siter => exact h
  | miter m since seen last =>
    cases m with
    | none => exact h
    | some m =>
      obtain ⟨_, m0, g1, _⟩ := h0
      obtain ⟨hs, m', h1, e⟩ := h
      exact ⟨hs, m', some_back hle g1 h1, e⟩
end

/-- What was known stays known, where a later heap still holds it. -/
theorem HRel.again {ι κ : Ren} {H H' : AHeap} {w w' : World} (hr : HRel ι H w) (hr' : HRel κ H' w') (hle : ι.le κ) (hsub : ∀ b, b < H.next → H'.get b = H.get b) : HRel ι H w' where
  obj := by
    intro b o b' s hb hi
    obtain ⟨b1, s1, o0, h1, h2, h3⟩ := hr.obj b o b' s hb hi
    have hlt := hr.lt b o hb
    obtain ⟨b2, s2, o1, g1, g2, g3⟩ := hr'.obj b o b' s (by rw [hsub b hlt]; exact hb) (hle _ _ hi)
    have e := hle _ _ h1
    rw [g1] at e; cases e
    exact ⟨b1, s1, o1, h1, g2, ORel.back hle h3 g3⟩
  inj := hr.inj
  dom := hr.dom
  lt := hr.lt
  one := hr.one
  ran := fun b b' s hb => hr'.ran b b' s (hle _ _ hb)

def AV.plain : AV → Bool
  | .bool _ | .int _ _ | .str _ => true
  | _ => false
theorem VRel.plain {ι κ : Ren} {a : AV} {v : Value} (hp : a.plain = true) (h : VRel κ a v) : VRel ι a v := by
  cases a <;> first | exact h | cases hp

def Env.withBase (E : Env) (ι : Ren) : Env := { E with base := ι }
theorem Env.OK.withBase {E : Env} {P : Program} (h : E.OK P) (ι : Ren) : (E.withBase ι).OK P := ⟨h.T, h.F, h.mixed, h.flat⟩

def AHeap.fresh (H : AHeap) : AHeap := ⟨H.m, H.next, H.next⟩
theorem HRel.fresh {ι : Ren} {H : AHeap} {w : World} (h : HRel ι H w) : HRel ι H.fresh w := ⟨h.obj, h.inj, h.dom, h.lt, h.one, h.ran⟩

/-- What a pure run on a smaller heap leaves, seen on a larger one. -/
theorem lift_core {ι0 ι ι1 : Ren} {H0 H H1 : AHeap} {w w1 : World}
    (hr0 : HRel ι0 H0 w) (hr : HRel ι H w) (hle : ι0.le ι) (hsub : ∀ b, b < H0.next → H.get b = H0.get b)
    (hlow : H0.next ≤ H1.low) (h1 : HRel ι1 H1 w1) (h2 : Ext ι0 H0.fresh w ι1 H1 w1) : HRel ι H w1 ∧ Ext ι H w ι H w1 := by
  have hag : ∀ b, b < H0.next → H1.get b = H0.get b := fun b hb => h2.same b (Nat.lt_of_lt_of_le hb hlow) hb
  have hr1 : HRel ι0 H0 w1 := hr0.again h1 h2.le hag
  -- a block of the larger heap that the smaller one doesn't know is as it was
  have hkeep : ∀ b o b' s, H.get b = some o → ι b = some (b', s) → (∀ x, H0.get b = some x → ι0 b = none) → w1.heap[b']? = w.heap[b']? := by
    intro b o b' s hb hi hn
    refine h2.keep b' (hr.ran _ _ _ hi) ?_
    rintro ⟨c, oc, sc, hc, hic⟩
    have hlt := hr0.lt c oc hc
    have e := hr.inj b c o oc b' s sc hb (by rw [hsub c hlt]; exact hc) hi (hle _ _ hic)
    subst e
    have := hn oc hc
    rw [hic] at this; cases this
  refine ⟨⟨?_, hr.inj, hr.dom, hr.lt, hr.one, fun b b' s hb => Nat.lt_of_lt_of_le (hr.ran b b' s hb) h2.size⟩, ⟨.refl ι, Nat.le_refl _, h2.size, fun _ _ h => h, ?_, Nat.le_refl _, fun _ _ _ => rfl, fun _ _ h => ⟨h, rfl⟩, h2.side⟩⟩
  · intro b o b' s hb hi
    by_cases hk : ∃ x y, H0.get b = some x ∧ ι0 b = some y
    · obtain ⟨x, ⟨b2, s2⟩, hx, hy⟩ := hk
      have hlt := hr0.lt b x hx
      have : o = x := by have := hsub b hlt; rw [hb, hx] at this; cases this; rfl
      subst this
      obtain ⟨b3, s3, o3, g1, g2, g3⟩ := hr1.obj b o b2 s2 hx hy
      exact ⟨b3, s3, o3, hle _ _ g1, g2, g3.mono hle⟩
    · obtain ⟨b1, s1, o', g1, g2, g3⟩ := hr.obj b o b' s hb hi
      refine ⟨b1, s1, o', g1, ?_, g3⟩
      rw [hkeep b o b1 s1 hb g1]
      · exact g2
      · intro x hx
        cases hy : ι0 b with
        | none => rfl
        | some y => exact absurd ⟨x, y, hx, hy⟩ hk
  · intro b' hlt hl
    refine h2.keep b' hlt ?_
    rintro ⟨c, oc, sc, hc, hic⟩
    exact hl ⟨c, oc, sc, by rw [hsub c (hr0.lt c oc hc)]; exact hc, hle _ _ hic⟩

theorem RetOK.lift {P : Program} {ι0 ι : Ren} {H0 H : AHeap} {w : World} {m : Machine} {c : Frame} {cs : List Frame} {v : AV} {q : Res}
    (hr0 : HRel ι0 H0 w) (hr : HRel ι H w) (hle : ι0.le ι) (hsub : ∀ b, b < H0.next → H.get b = H0.get b) (hp : v.plain = true)
    (hq : ∃ H1, q = .ret v H1 ∧ H0.next ≤ H1.low) (h : RetOK P m ι0 H0.fresh w c cs q) : RetOK P m ι H w c cs (.ret v H) := by
  obtain ⟨H1, rfl, hlow⟩ := hq
  obtain ⟨ι1, v', w1, h1, h2, h3, h4⟩ := h
  obtain ⟨g1, g2⟩ := lift_core hr0 hr hle hsub hlow h1 h2
  exact ⟨ι, v', w1, g1, g2, VRel.plain hp h3, h4⟩

/-- A call on the heap H0 that changes nothing there. -/
def PureOK (E : Env) (P : Program) (f : FuncId) (args : List AV) (H0 : AHeap) (v : AV) : Prop :=
  v.plain = true ∧ CallOK E P f args H0.fresh fun q => ∃ H1, q = .ret v H1 ∧ H0.next ≤ H1.low

theorem Begins.lift {P : Program} {s : Sem Next} {ι0 ι : Ren} {H0 H : AHeap} {w : World} {v : AV} (hr0 : HRel ι0 H0 w) (hr : HRel ι H w) (hle : ι0.le ι) (hsub : ∀ b, b < H0.next → H.get b = H0.get b) (hp : v.plain = true)
    (h : Begins P s ι0 H0.fresh w fun q => ∃ H1, q = .ret v H1 ∧ H0.next ≤ H1.low) : Begins P s ι H w (· = .ret v H) := by
  cases h with
  | enter h1 h2 => exact .enter h1 fun c cs => let ⟨q, hq, hret⟩ := h2 c cs; ⟨.ret v H, rfl, RetOK.lift hr0 hr hle hsub hp hq hret⟩
  | round h1 h2 => exact .round h1 fun c cs => let ⟨q, hq, hret⟩ := h2 c cs; ⟨.ret v H, rfl, RetOK.lift hr0 hr hle hsub hp hq hret⟩
  | value h1 h2 h3 h4 h5 =>
    obtain ⟨H1, e, hlow⟩ := h2
    cases e
    obtain ⟨g1, g2⟩ := lift_core hr0 hr hle hsub hlow h3 h4
    exact .value h1 rfl g1 g2 (VRel.plain hp h5)

/-- A pure call, on a heap that goes on from the one of which it is known. -/
theorem PureOK.lift {E : Env} {P : Program} {f : FuncId} {args : List AV} {H0 H : AHeap} {v : AV} (h : PureOK E P f args H0 v) {ι0 : Ren} {w0 : World} (hr0 : HRel ι0 H0 w0) (hg0 : Glob E ι0)
    {as0 : List Value} (ha0 : VRels ι0 args as0) (hsub : ∀ b, b < H0.next → H.get b = H0.get b) :
    CallOK (E.withBase ι0) P f args H (· = .ret v H) := by
  intro ι w as hr hg ha
  have hle : ι0.le ι := hg.2
  have hr1 : HRel ι0 H0 w := hr0.again hr hle hsub
  exact Begins.lift hr1 hr hle hsub h.1 (h.2 ι0 w as hr1.fresh hg0 (VRels.back hle args _ _ ha0 ha))
end Go.Am
/-! AmPr -/
namespace Go.Am

section
variable {E : Env} {P : Program}

/-- The meaning itself, as a way of running. -/
def Fsem (E : Env) (P : Program) : Fns := ⟨RunOK E P, LoopOK E P, ScopeOK E P, CallOK E P, DefsOK E P⟩
theorem Fsem_ok (E : Env) (P : Program) : FnsOK E P (Fsem E P) :=
  ⟨fun _ _ _ _ _ _ _ h => h, fun _ _ _ _ _ _ _ h => h, fun _ _ _ _ _ _ _ _ h => h, fun _ _ _ _ h => h, fun _ _ _ _ h => h⟩

theorem Comes2.mono {m : Machine} {ι : Ren} {H : AHeap} {w : World} {st : St} {b : Frame} {k : List Item} {R : Rc} {cs : List Frame} {Q Q' : K} (hq : ∀ e T D R H, Q e T D R H → Q' e T D R H)
    (h : Comes2 E P m ι H w st b k R cs Q) : Comes2 E P m ι H w st b k R cs Q' := by
  obtain ⟨e, T, D, R', H', ι', t, d, cs', w', h1, h2⟩ := h
  exact ⟨e, T, D, R', H', ι', t, d, cs', w', hq _ _ _ _ _ h1, h2⟩
theorem RunOK.mono {st : St} {c : Code} {T : Tr AV} {D : List ADef} {R : Rc} {H : AHeap} {Q Q' : K} (hq : ∀ e T D R H, Q e T D R H → Q' e T D R H) (h : RunOK E P st c T D R H Q) : RunOK E P st c T D R H Q' :=
  fun ι b t d k cs w hc => (h ι b t d k cs w hc).mono hq
theorem LoopOK.mono {st : St} {c : Code} {T : Tr AV} {D : List ADef} {R : Rc} {H : AHeap} {Q Q' : K} (hq : ∀ e T D R H, Q e T D R H → Q' e T D R H) (h : LoopOK E P st c T D R H Q) : LoopOK E P st c T D R H Q' :=
  fun ι b t d k cs w hc => (h ι b t d k cs w hc).mono hq
theorem CallOK.mono {f : FuncId} {args : List AV} {H : AHeap} {Q Q' : Res → Prop} (hq : ∀ r, Q r → Q' r) (h : CallOK E P f args H Q) : CallOK E P f args H Q' :=
  fun ι w as h1 h2 h3 => (h ι w as h1 h2 h3).mono hq

section ops
variable {F : Fns} {st : St} {arr : Array Oper} {o : Oper} {rest : List Oper} {T : Tr AV} {D : List ADef} {R : Rc} {H : AHeap} {Q : K}

theorem ro_val {v : AV} {d : Tmp} (hg : o.guard = none) (hd : o.dst = some d) (hb : Nat.blt d st.n = true) (hv : aVal E T H o.op = some v) (h : runOps E F st arr rest (T.put d (some v)) D R H Q) :
    runOps E F st arr (o :: rest) T D R H Q := by
  have hw : aWanted arr T o = some true := by unfold aWanted; rw [hg]
  simp only [runOps, hw, runOp, hv, setDst, hd, hb]
  exact h
theorem ro_eff {v : AV} {d : Tmp} {H' : AHeap} (hg : o.guard = none) (hd : o.dst = some d) (hb : Nat.blt d st.n = true) (hn : aVal E T H o.op = none) (hv : aEff E T H o.op = some (v, H')) (h : runOps E F st arr rest (T.put d (some v)) D R H' Q) :
    runOps E F st arr (o :: rest) T D R H Q := by
  have hw : aWanted arr T o = some true := by unfold aWanted; rw [hg]
  simp only [runOps, hw, runOp, hn, hv, setDst, hd, hb]
  exact h
theorem ro_eff0 {v : AV} {H' : AHeap} (hg : o.guard = none) (hd : o.dst = none) (hn : aVal E T H o.op = none) (hv : aEff E T H o.op = some (v, H')) (h : runOps E F st arr rest T D R H' Q) :
    runOps E F st arr (o :: rest) T D R H Q := by
  have hw : aWanted arr T o = some true := by unfold aWanted; rw [hg]
  simp only [runOps, hw, runOp, hn, hv, setDst, hd]
  exact h
theorem ro_next {x : Operand} {a : AV} {l : List (AV × AHeap)} {d : Tmp} (hg : o.guard = none) (hd : o.dst = some d) (hb : Nat.blt d st.n = true) (hop : o.op = .next x false) (ha : aEval E T x = some a) (hl : aNext H a = some l)
    (h : ∀ q ∈ l, runOps E F st arr rest (T.put d (some q.1)) D R q.2 Q) : runOps E F st arr (o :: rest) T D R H Q := by
  have hw : aWanted arr T o = some true := by unfold aWanted; rw [hg]
  have e1 : aVal E T H o.op = none := by rw [hop]; rfl
  have e2 : aEff E T H o.op = none := by rw [hop]; rfl
  simp only [runOps, hw, runOp]
  simp only [e1]
  simp only [e2]
  simp only [hop, ha, hl, setDst, hd, hb]
  exact h
theorem ro_call {c : Call} {f : Operand} {g : FuncId} {first cap as : List AV} {v : AV} {d : Tmp} (hg : o.guard = none) (hd : o.dst = some d) (hb : Nat.blt d st.n = true) (hop : o.op = .call c) (hc : c.callee = .value f)
    (hf : aEval E T f = some (.func (.func g) first cap)) (ha : aEvals E T c.args.toList = some as) (hk : CallOK E P g (first ++ as ++ cap) H (· = .ret v H)) (h : runOps E (Fsem E P) st arr rest (T.put d (some v)) D R H Q) :
    runOps E (Fsem E P) st arr (o :: rest) T D R H Q := by
  have hw : aWanted arr T o = some true := by unfold aWanted; rw [hg]
  have e1 : aVal E T H o.op = none := by rw [hop]; simp only [aVal, hc]
  have e2 : aEff E T H o.op = none := by rw [hop]; simp only [aEff, hc]
  simp only [runOps, hw, runOp]
  simp only [e1]
  simp only [e2]
  simp only [hop, hc, hf, ha]
  refine CallOK.mono ?_ hk
  rintro q rfl
  simp only [backCall, setDst, hd, hb]
  exact h
end ops

theorem region_run (hE : E.OK P) {st : St} {id : Nat} {ops : Array Oper} {T : Tr AV} {D : List ADef} {R : Rc} {H : AHeap} {Q : K} (h : runOps E (Fsem E P) st ops ops.toList T D R H Q) : RunOK E P st (.region id ops false) T D R H Q :=
  run_ok hE (Fsem_ok E P) (c := .region id ops false) h
theorem seq_run (hE : E.OK P) {st : St} {a b : Code} {T : Tr AV} {D : List ADef} {R : Rc} {H : AHeap} {Q : K} (h : RunOK E P st a T D R H fun e T D R H => match e with
      | .normal => RunOK E P st b T D R H Q
      | e => Q e T D R H) : RunOK E P st (.seq a b) T D R H Q := run_ok hE (Fsem_ok E P) (c := .seq a b) h

/-- One operation, named by what it does alone. -/
structure Is (o : Oper) (d : Option Tmp) (op : Op) : Prop where
  op : o.op = op
  dst : o.dst = d
  guard : o.guard = none

/-- The body of a range over a map that asks a function of each value; what is done where the answer is yes. -/
def askLoop (i2 i3 i4 : Nat) (o20 o21 o30 o31 o32 o33 o40 o41 o42 : Oper) (yes : Code) : Code :=
  .seq (.region i2 #[o20, o21] false) (.seq (.cond (.tmp 10) .skip (.exit 0)) (.block 1 (.seq (.region i3 #[o30, o31, o32, o33] false) (.seq (.region i4 #[o40, o41, o42] false) (.cond (.tmp 15) yes .skip)))))

/-- What holds at the head of the loop. -/
structure Ask (H0 : AHeap) (m it since last : Nat) (es : List AEntry) (g : AV) (seen : List Nat) (T : Tr AV) (H : AHeap) : Prop where
  t1 : T.get 1 = some g
  t8 : T.get 8 = some (.ptr (some (it, 0)))
  iter : H.get it = some (.miter (some m) since seen last)
  sl : since ≤ last
  out : H0.next ≤ it
  itlt : it < H.next
  sub : ∀ b, b < H0.next → H.get b = H0.get b
  low : H0.next ≤ H.low
  next : H0.next ≤ H.next

structure AskSetup (E : Env) (P : Program) (H0 : AHeap) (m since : Nat) (es : List AEntry) (vt : TypeId) (g : FuncId) (first cap : List AV) (p : AEntry → Bool) (ι0 : Ren) : Prop where
  map : H0.get m = some (.map es since)
  mlt : m < H0.next
  old : ∀ e ∈ es, e.born < since
  nodup : (es.map (·.born)).Nodup
  ty : ∃ i z, E.T vt = some i ∧ i.zero = some z ∧ z.nt = true ∧ z.cells.length = i.size ∧ isAggD i.desc = true ∧ ∀ e ∈ es, ∃ cs, e.val = .agg cs ∧ cs.length = i.size
  pure : ∀ e ∈ es, ∀ H, (∀ b, b < H0.next → H.get b = H0.get b) → H0.next ≤ H.next → CallOK (E.withBase ι0) P g (first ++ [e.val] ++ cap) H (· = .ret (.bool (p e)) H)

def leftE (es : List AEntry) (seen : List Nat) : List AEntry := es.filter fun e => !seen.contains e.born

theorem find_of_mem {es : List AEntry} (hn : (es.map (·.born)).Nodup) {e : AEntry} (he : e ∈ es) : es.find? (fun x => x.born == e.born) = some e := by
  induction es with
  | nil => cases he
  | cons a es ih =>
    simp only [List.map_cons, List.nodup_cons] at hn
    rw [List.find?_cons]
    rcases List.mem_cons.1 he with rfl | he
    · simp
    · have : (a.born == e.born) = false := by
        rw [beq_eq_false_iff_ne]
        intro e0
        exact hn.1 (by rw [e0]; exact List.mem_map.2 ⟨e, he, rfl⟩)
      rw [this]
      exact ih hn.2 he

theorem leftE_snoc {es : List AEntry} (hn : (es.map (·.born)).Nodup) {seen : List Nat} {e : AEntry} (he : e ∈ leftE es seen) :
    (leftE es seen).length = (leftE es (seen ++ [e.born])).length + 1 ∧ (∀ p : AEntry → Bool, (leftE es seen).countP p = (leftE es (seen ++ [e.born])).countP p + if p e = true then 1 else 0) := by
  induction es with
  | nil => cases he
  | cons a es ih =>
    simp only [List.map_cons, List.nodup_cons] at hn
    unfold leftE at he ⊢
    rw [List.filter_cons] at he
    rw [List.filter_cons, List.filter_cons]
    by_cases hs : (!seen.contains a.born) = true
    · rw [if_pos hs] at he
      rw [if_pos hs]
      rcases List.mem_cons.1 he with rfl | he
      · have h1 : (!(seen ++ [e.born]).contains e.born) = false := by simp
        rw [if_neg (by rw [h1]; decide)]
        have h2 : es.filter (fun x => !(seen ++ [e.born]).contains x.born) = es.filter (fun x => !seen.contains x.born) := by
          apply List.filter_congr
          intro x hx
          have : x.born ≠ e.born := fun e0 => hn.1 (by rw [← e0]; exact List.mem_map.2 ⟨x, hx, rfl⟩)
          simp [this]
        rw [h2]
        exact ⟨rfl, fun p => by rw [List.countP_cons]⟩
      · have hmem : e ∈ es := (List.mem_filter.1 he).1
        have hne : a.born ≠ e.born := fun e0 => hn.1 (by rw [e0]; exact List.mem_map.2 ⟨e, hmem, rfl⟩)
        have h1 : (!(seen ++ [e.born]).contains a.born) = true := by simpa [hne] using hs
        rw [if_pos h1]
        obtain ⟨g1, g2⟩ := ih hn.2 he
        unfold leftE at g1 g2
        refine ⟨by simp only [List.length_cons]; omega, fun p => ?_⟩
        rw [List.countP_cons, List.countP_cons, g2 p]
        omega
    · rw [if_neg hs] at he
      rw [if_neg hs]
      have h1 : ¬ (!(seen ++ [e.born]).contains a.born) = true := by
        simp only [Bool.not_eq_true', Bool.not_eq_false] at hs ⊢
        simp only [List.contains_append, hs, Bool.true_or]
      rw [if_neg h1]
      exact ih hn.2 he
end
end Go.Am
/-! AmPs -/
namespace Go.Am

section
variable {E : Env} {P : Program}

theorem cond_run (hE : E.OK P) {st : St} {c : Operand} {a b : Code} {T : Tr AV} {D : List ADef} {R : Rc} {H : AHeap} {Q : K} {q : Bool} (hc : aEval E T c = some (.bool q)) (h : RunOK E P st (bif q then a else b) T D R H Q) : RunOK E P st (.cond c a b) T D R H Q := by
  refine run_ok hE (Fsem_ok E P) (c := .cond c a b) ?_
  simp only [stepRun, hc]
  cases q <;> exact h
theorem block_run (hE : E.OK P) {st : St} {id : Nat} {a : Code} {T : Tr AV} {D : List ADef} {R : Rc} {H : AHeap} {Q : K} (h : RunOK E P st a T D R H fun e T D R H => match e with
      | .exit i => if i = id then Q .normal T D R H else Q (.exit i) T D R H
      | e => Q e T D R H) : RunOK E P st (.block id a) T D R H Q := run_ok hE (Fsem_ok E P) (c := .block id a) h
theorem skip_run (hE : E.OK P) {st : St} {T : Tr AV} {D : List ADef} {R : Rc} {H : AHeap} {Q : K} (h : Q .normal T D R H) : RunOK E P st .skip T D R H Q := run_ok hE (Fsem_ok E P) (c := .skip) h
theorem exit_run (hE : E.OK P) {st : St} {id : Nat} {T : Tr AV} {D : List ADef} {R : Rc} {H : AHeap} {Q : K} (h : Q (.exit id) T D R H) : RunOK E P st (.exit id) T D R H Q := run_ok hE (Fsem_ok E P) (c := .exit id) h
theorem ret_run (hE : E.OK P) {st : St} {T : Tr AV} {D : List ADef} {R : Rc} {H : AHeap} {Q : K} (h : Q .ret T D R H) : RunOK E P st .ret T D R H Q := run_ok hE (Fsem_ok E P) (c := .ret) h

structure AskOps (vt : TypeId) (o20 o21 o30 o31 o32 o33 o40 o41 o42 : Oper) (c : Call) : Prop where
  h20 : Is o20 (some 9) (.next (.tmp 8) false)
  h21 : Is o21 (some 10) (.extract (.tmp 9) 0)
  h30 : Is o30 (some 11) (.entry (.tmp 8))
  h31 : Is o31 (some 12) (.extract (.tmp 11) 1)
  h32 : Is o32 (some 6) (.alloc vt)
  h33 : Is o33 none (.store vt (.tmp 6) (.tmp 12))
  h40 : Is o40 (some 13) (.move (.tmp 1))
  h41 : Is o41 (some 14) (.load vt (.tmp 6))
  h42 : Is o42 (some 15) (.call c)
  callee : c.callee = .value (.tmp 13)
  args : c.args.toList = [.tmp 14]

theorem ask_round (hE : E.OK P) {ι0 : Ren} {H0 : AHeap} {m since it : Nat} {es : List AEntry} {vt : TypeId} {g : FuncId} {first cap : List AV} {p : AEntry → Bool}
    (hs : AskSetup E P H0 m since es vt g first cap p ι0) {o20 o21 o30 o31 o32 o33 o40 o41 o42 : Oper} {c : Call} (ho : AskOps vt o20 o21 o30 o31 o32 o33 o40 o41 o42 c)
    {st : St} (hst : 16 ≤ st.n) {last : Nat} {seen : List Nat} {T : Tr AV} {D : List ADef} {H : AHeap} (hA : Ask H0 m it since last es (.func (.func g) first cap) seen T H) {yes : Code} {Q : K} {i2 i3 i4 : Nat}
    (hnil : leftE es seen = [] → ∀ T' H', Ask H0 m it since last es (.func (.func g) first cap) seen T' H' → T'.get 4 = T.get 4 → Q (.exit 0) T' D .off H')
    (hno : ∀ e ∈ leftE es seen, p e = false → ∀ T' H', Ask H0 m it since since es (.func (.func g) first cap) (seen ++ [e.born]) T' H' → T'.get 4 = T.get 4 → Q .normal T' D .off H')
    (hyes : ∀ e ∈ leftE es seen, p e = true → ∀ T' H', Ask H0 m it since since es (.func (.func g) first cap) (seen ++ [e.born]) T' H' → T'.get 4 = T.get 4 →
      RunOK (E.withBase ι0) P st yes T' D .off H' fun e T D R H => Q e T D R H ∧ ∀ i, e ≠ .exit i) :
    RunOK (E.withBase ι0) P st (askLoop i2 i3 i4 o20 o21 o30 o31 o32 o33 o40 o41 o42 yes) T D .off H Q := by
  have hE' := hE.withBase ι0
  have hblt : ∀ d, d < 16 → Nat.blt d st.n = true := fun d hd => Nat.ble_eq_true_of_le (show d + 1 ≤ st.n by omega)
  have hHm : H.get m = some (.map es since) := by rw [hA.sub m hs.mlt]; exact hs.map
  have hall : (es.all (fun e => Nat.blt e.born since) && Nat.ble since last) = true := by
    simp only [Bool.and_eq_true, List.all_eq_true]
    exact ⟨fun e he => Nat.ble_eq_true_of_le (hs.old e he), Nat.ble_eq_true_of_le hA.sl⟩
  unfold askLoop
  refine seq_run hE' (region_run hE' ?_)
  cases hl : leftE es seen with
  | nil =>
    have hnx : aNext H (.ptr (some (it, 0))) = some [(.tuple [.bool false], H)] := by
      have hl' : es.filter (fun e => !seen.contains e.born) = [] := hl
      simp only [aNext, hA.iter, hHm, hall, cond_true, hl']
    refine ro_next ho.h20.guard ho.h20.dst (hblt 9 (by decide)) ho.h20.op (by simp only [aEval]; exact hA.t8) hnx ?_
    intro q hq
    rw [List.mem_singleton] at hq; subst hq
    refine ro_val ho.h21.guard ho.h21.dst (hblt 10 (by decide)) (v := .bool false) (by rw [ho.h21.op]; simp [aVal, aEval, aExtract]) ?_
    refine seq_run hE' (cond_run hE' (q := false) (by simp [aEval]) (exit_run hE' ?_))
    refine hnil hl _ _ ⟨?_, ?_, hA.iter, hA.sl, hA.out, hA.itlt, hA.sub, hA.low, hA.next⟩ (by simp)
    · simpa using hA.t1
    · simpa using hA.t8
  | cons e0 l0 =>
    have hl' : es.filter (fun e => !seen.contains e.born) = e0 :: l0 := hl
    have hnx : aNext H (.ptr (some (it, 0))) = some ((e0 :: l0).map fun e => (.tuple [.bool true, e.key, e.val], H.upd it (.miter (some m) since (seen ++ [e.born]) since))) := by
      simp only [aNext, hA.iter, hHm, hall, cond_true, hl']
    refine ro_next ho.h20.guard ho.h20.dst (hblt 9 (by decide)) ho.h20.op (by simp only [aEval]; exact hA.t8) hnx ?_
    intro q hq
    obtain ⟨e, he, rfl⟩ := List.mem_map.1 hq
    rw [← hl] at he
    have hmem : e ∈ es := (List.mem_filter.1 he).1
    refine ro_val ho.h21.guard ho.h21.dst (hblt 10 (by decide)) (v := .bool true) (by rw [ho.h21.op]; simp [aVal, aEval, aExtract]) ?_
    refine seq_run hE' (cond_run hE' (q := true) (by simp [aEval]) (skip_run hE' ?_))
    refine block_run hE' (seq_run hE' (region_run hE' ?_))
    -- the entry
    have hmit : m ≠ it := by have := hs.mlt; have := hA.out; omega
    have hit1 : (H.upd it (.miter (some m) since (seen ++ [e.born]) since)).get it = some (.miter (some m) since (seen ++ [e.born]) since) := by simp
    have hm1 : (H.upd it (.miter (some m) since (seen ++ [e.born]) since)).get m = some (.map es since) := by rw [AHeap.get_upd, if_neg hmit]; exact hHm
    have hent : aEntry (H.upd it (.miter (some m) since (seen ++ [e.born]) since)) (.ptr (some (it, 0))) = some (.tuple [e.key, e.val]) := by
      have hf := find_of_mem hs.nodup hmem
      simp only [aEntry, hit1, hm1, List.getLast?_concat, Nat.beq_refl, cond_true, hf]
    have g8 : ∀ v9 v10, ((T.put 9 (some v9)).put 10 (some v10)).get 8 = some (.ptr (some (it, 0))) := fun _ _ => by simpa using hA.t8
    refine ro_val ho.h30.guard ho.h30.dst (hblt 11 (by decide)) (v := .tuple [e.key, e.val]) (by rw [ho.h30.op]; simp only [aVal, aEval, g8, hent]) ?_
    refine ro_val ho.h31.guard ho.h31.dst (hblt 12 (by decide)) (v := e.val) (by rw [ho.h31.op]; simp [aVal, aEval, aExtract]) ?_
    obtain ⟨ti, z, hty, hz, hnt, hzl, hagg, hvals⟩ := hs.ty
    obtain ⟨cs, hcs, hcl⟩ := hvals e hmem
    have hty' : (E.withBase ι0).T vt = some ti := hty
    let H1 := H.upd it (.miter (some m) since (seen ++ [e.born]) since)
    refine ro_eff ho.h32.guard ho.h32.dst (hblt 6 (by decide)) (v := .ptr (some (H1.next, 0))) (H' := H1.push (.cells z.cells)) (by rw [ho.h32.op]; rfl) (by rw [ho.h32.op]; simp only [aEff, aAlloc, hty', hz, aBox, hnt, cond_true]; rfl) ?_
    have hst1 : aStore (E.withBase ι0) (H1.push (.cells z.cells)) vt (H1.next, 0) e.val = some ((H1.push (.cells z.cells)).upd H1.next (.cells cs)) := by
      have hg : (H1.push (.cells z.cells)).get H1.next = some (.cells z.cells) := by simp
      simp only [aStore, hty', hg]
      have hcells : e.val.cells = cs := by rw [hcs]; rfl
      have hsp : splice z.cells 0 cs = cs := by
        unfold splice
        rw [List.take_zero, List.nil_append, List.drop_eq_nil_of_le (by omega), List.append_nil]
      rw [hcells, if_pos ⟨hcl, by omega, by rw [hcs]; rfl⟩, hsp]
    refine ro_eff0 ho.h33.guard ho.h33.dst (v := undefA) (H' := (H1.push (.cells z.cells)).upd H1.next (.cells cs)) (by rw [ho.h33.op]; rfl) (by rw [ho.h33.op]; simp [aEff, aEval, hst1]) ?_
    refine seq_run hE' (region_run hE' ?_)
    let H2 := (H1.push (.cells z.cells)).upd H1.next (.cells cs)
    let T3 := ((((T.put 9 (some (.tuple [.bool true, e.key, e.val]))).put 10 (some (.bool true))).put 11 (some (.tuple [e.key, e.val]))).put 12 (some e.val)).put 6 (some (.ptr (some (H1.next, 0))))
    have ht1 : T3.get 1 = some (.func (.func g) first cap) := by simpa [T3] using hA.t1
    refine ro_val ho.h40.guard ho.h40.dst (hblt 13 (by decide)) (v := .func (.func g) first cap) (by rw [ho.h40.op]; exact ht1) ?_
    have hH2 : H2.get H1.next = some (.cells cs) := by simp [H2]
    have hld : aLoad (E.withBase ι0) H2 vt (H1.next, 0) = some e.val := by
      simp only [aLoad, hty', hH2, hagg, if_true]
      rw [if_pos (by omega), List.drop_zero, List.take_of_length_le (by omega), hcs]
    have ht6 : (T3.put 13 (some (.func (.func g) first cap))).get 6 = some (.ptr (some (H1.next, 0))) := by simp [T3]
    refine ro_val ho.h41.guard ho.h41.dst (hblt 14 (by decide)) (v := e.val) (by rw [ho.h41.op]; simp only [aVal, aEval, ht6]; exact hld) ?_
    have hn1 : H1.next = H.next := rfl
    have hn2 : H2.next = H.next + 1 := rfl
    have hsub2 : ∀ b, b < H0.next → H2.get b = H0.get b := by
      intro b hb
      have h1 := hA.next
      have h2 := hA.out
      show ((H1.push (.cells z.cells)).upd H1.next (.cells cs)).get b = _
      rw [AHeap.get_upd, if_neg (by omega), AHeap.get_push, if_neg (by omega)]
      show (H.upd it _).get b = _
      rw [AHeap.get_upd, if_neg (by omega)]
      exact hA.sub b hb
    have hpure := hs.pure e hmem H2 hsub2 (by have := hA.next; omega)
    refine ro_call (first := first) (cap := cap) (as := [e.val]) (v := .bool (p e)) ho.h42.guard ho.h42.dst (hblt 15 (by decide)) ho.h42.op ho.callee (by simp [aEval]) (by rw [ho.args]; simp [aEvals, aEval]) hpure ?_
    have hask : Ask H0 m it since since es (.func (.func g) first cap) (seen ++ [e.born]) (((T3.put 13 (some (.func (.func g) first cap))).put 14 (some e.val)).put 15 (some (.bool (p e)))) H2 := by
      have h1 := hA.itlt
      have h2 := hA.low
      have h3 := hA.out
      have h4 := hA.next
      refine ⟨by simpa [T3] using hA.t1, by simpa [T3] using hA.t8, ?_, Nat.le_refl _, hA.out, by omega, hsub2, ?_, by omega⟩
      · show ((H1.push (.cells z.cells)).upd H1.next (.cells cs)).get it = _
        rw [AHeap.get_upd, if_neg (by omega), AHeap.get_push, if_neg (by omega)]
        exact hit1
      · show H0.next ≤ min (min H.low it) H1.next
        omega
    have h44 : (((T3.put 13 (some (.func (.func g) first cap))).put 14 (some e.val)).put 15 (some (.bool (p e)))).get 4 = T.get 4 := by simp [T3]
    refine cond_run hE' (q := p e) (by simp [aEval]) ?_
    cases hp : p e with
    | false =>
      rw [hp] at hask h44
      exact skip_run hE' (hno e (by rw [hl] at he ⊢; exact he) hp _ _ hask h44)
    | true =>
      rw [hp] at hask h44
      refine RunOK.mono ?_ (hyes e (by rw [hl] at he ⊢; exact he) hp _ _ hask h44)
      rintro e' T' D' R' H' ⟨hq, hx⟩
      cases e' with
      | exit i => exact absurd rfl (hx i)
      | _ => exact hq
end
end Go.Am
/-! AmPt -/
namespace Go.Am

section
variable {E : Env} {P : Program}

def askBody (i0 i1 i2 i3 i4 i6 : Nat) (o00 o10 o11 o20 o21 o30 o31 o32 o33 o40 o41 o42 : Oper) (yes : Code) (end_ : Array Oper) : Code :=
  .seq (.region i0 #[o00] false) (.seq (.seq (.region i1 #[o10, o11] false) (.block 0 (.loop (askLoop i2 i3 i4 o20 o21 o30 o31 o32 o33 o40 o41 o42 yes)))) (.seq (.region i6 end_ false) .ret))

structure AskHead (mt : TypeId) (v0 : Value) (o00 o10 o11 : Oper) : Prop where
  h00 : Is o00 (some 4) (.assign (.const v0))
  h10 : Is o10 (some 7) (.move (.tmp 0))
  h11 : Is o11 (some 8) (.range mt (.tmp 7))

theorem loop_run (_ : E.OK P) {st : St} {a : Code} {T : Tr AV} {D : List ADef} {R : Rc} {H : AHeap} {Q : K} (h : RunOK E P st a T D R H fun e T D R H => match e with
      | .normal => LoopOK E P st a T D R H Q
      | e => Q e T D R H) : LoopOK E P st a T D R H Q := loop_ok (Fsem_ok E P) h

/-- The whole function, of what its loop does. -/
theorem ask_body (hE : E.OK P) {ι0 : Ren} {H0 : AHeap} {m since : Nat} {es : List AEntry} {vt mt : TypeId} {g : FuncId} {first cap : List AV} {p : AEntry → Bool}
    (hs : AskSetup E P H0 m since es vt g first cap p ι0) {i0 i1 i2 i3 i4 i6 : Nat} {o00 o10 o11 o20 o21 o30 o31 o32 o33 o40 o41 o42 : Oper} {yes : Code} {end_ : Array Oper} {v0 : Value} {a0 : AV}
    (hh : AskHead mt v0 o00 o10 o11) (ha0 : ofV v0 = some a0) {ti : TI} {kt et : TypeId} (hmt : E.T mt = some ti) (hmd : ti.desc = .map kt et)
    {f : FuncId} {n : Nat} (hn : 16 ≤ n) (hf : E.F f = some ⟨n, [.tmp 4], askBody i0 i1 i2 i3 i4 i6 o00 o10 o11 o20 o21 o30 o31 o32 o33 o40 o41 o42 yes end_⟩) {v : AV}
    (hloop : ∀ T H it, Ask H0 m it since since es (.func (.func g) first cap) [] T H → T.get 4 = some a0 →
      LoopOK (E.withBase ι0) P ⟨f, n, none⟩ (askLoop i2 i3 i4 o20 o21 o30 o31 o32 o33 o40 o41 o42 yes) T [] .off H fun e T D R H => D = [] ∧ H0.next ≤ H.low ∧
        ((e = .exit 0 ∧ RunOK (E.withBase ι0) P ⟨f, n, none⟩ (.region i6 end_ false) T [] R H fun e T D _ H => e = .normal ∧ D = [] ∧ H0.next ≤ H.low ∧ T.get 4 = some v) ∨ (e = .ret ∧ T.get 4 = some v))) :
    CallOK (E.withBase ι0) P f [.map (some m), .func (.func g) first cap] H0.fresh fun q => ∃ H1, q = .ret v H1 ∧ H0.next ≤ H1.low := by
  have hE' := hE.withBase ι0
  refine call_ok hE' (Fsem_ok _ P) (pr := fun _ => none) (fun f p h => by cases h) ?_
  show runBody (E.withBase ι0) (Fsem (E.withBase ι0) P) f [.map (some m), .func (.func g) first cap] .off H0.fresh (fun _ q => ∃ H1, q = .ret v H1 ∧ H0.next ≤ H1.low)
  unfold runBody
  have hf' : (E.withBase ι0).F f = some ⟨n, [.tmp 4], askBody i0 i1 i2 i3 i4 i6 o00 o10 o11 o20 o21 o30 o31 o32 o33 o40 o41 o42 yes end_⟩ := hf
  simp only [hf']
  have hb : Nat.ble [AV.map (some m), .func (.func g) first cap].length n = true := Nat.ble_eq_true_of_le (show 2 ≤ n by omega)
  simp only [hb]
  have hblt : ∀ d, d < 16 → Nat.blt d n = true := fun d hd => Nat.ble_eq_true_of_le (show d + 1 ≤ n by omega)
  -- the end
  have fin : ∀ {T : Tr AV} {H : AHeap}, T.get 4 = some v → H0.next ≤ H.low → DefsOK (E.withBase ι0) P [] .ret H fun m H => match m with
      | .ret => match aResults (E.withBase ι0) [.tmp 4] T H with
        | some vs => ∃ H1, Res.ret (oneOf vs) H = .ret v H1 ∧ H0.next ≤ H1.low
        | none => False
      | .pan _ => False := by
    intro T H h4 hlow
    refine defs_ok hE' (Fsem_ok _ P) ?_
    simp only [stepDefs, aResults, h4]
    exact ⟨H, rfl, hlow⟩
  show RunOK (E.withBase ι0) P ⟨f, n, none⟩ (askBody i0 i1 i2 i3 i4 i6 o00 o10 o11 o20 o21 o30 o31 o32 o33 o40 o41 o42 yes end_) _ [] .off H0.fresh _
  unfold askBody
  refine seq_run hE' (region_run hE' ?_)
  refine ro_val hh.h00.guard hh.h00.dst (hblt 4 (by decide)) (v := a0) (by rw [hh.h00.op]; simp [aVal, aEval, ha0]) ?_
  refine seq_run hE' (seq_run hE' (region_run hE' ?_))
  refine ro_val hh.h10.guard hh.h10.dst (hblt 7 (by decide)) (v := .map (some m)) (by rw [hh.h10.op]; simp [aVal, aEval, params]) ?_
  have hmt' : (E.withBase ι0).T mt = some ti := hmt
  have hm0 : H0.fresh.get m = some (.map es since) := hs.map
  have hrg : aRange (E.withBase ι0) H0.fresh mt (.map (some m)) = some (.ptr (some (H0.next, 0)), H0.fresh.push (.miter (some m) since [] since)) := by
    simp only [aRange, hmt', hmd, hm0]
    rfl
  refine ro_eff hh.h11.guard hh.h11.dst (hblt 8 (by decide)) (v := .ptr (some (H0.next, 0))) (H' := H0.fresh.push (.miter (some m) since [] since)) (by rw [hh.h11.op]; rfl) (by rw [hh.h11.op]; simp [aEff, aEval, hrg]) ?_
  refine block_run hE' ?_
  refine run_ok hE' (Fsem_ok _ P) (c := .loop _) ?_
  show LoopOK _ _ _ _ _ _ _ _ _
  have hfresh : H0.fresh.next = H0.next := rfl
  refine LoopOK.mono ?_ (hloop _ (H0.fresh.push (.miter (some m) since [] since)) H0.next ⟨by simp [params], by simp, by simp [hfresh], Nat.le_refl _, Nat.le_refl _, by simp [hfresh], ?_, Nat.le_refl _, by simp [hfresh]⟩ (by simp))
  · rintro e T D R H ⟨rfl, hlow, ⟨rfl, hend⟩ | ⟨rfl, h4⟩⟩
    · simp only [if_true]
      refine seq_run hE' (RunOK.mono ?_ hend)
      rintro e T D R H ⟨rfl, rfl, hlow, h4⟩
      exact ret_run hE' (fin h4 hlow)
    · exact fin h4 hlow
  · intro b hb2
    rw [AHeap.get_push, if_neg (by rw [hfresh]; omega)]
    rfl

theorem any_of_count {es : List AEntry} {p : AEntry → Bool} (h : es.countP p = 0) : es.any p = false := by
  rw [List.any_eq_false]
  intro x hx
  have := List.countP_eq_zero.1 h x hx
  simpa using this

theorem some_ok (hE : E.OK P) {ι0 : Ren} {H0 : AHeap} {m since : Nat} {es : List AEntry} {vt mt : TypeId} {g : FuncId} {first cap : List AV} {p : AEntry → Bool}
    (hs : AskSetup E P H0 m since es vt g first cap p ι0) {i0 i1 i2 i3 i4 i5 i6 : Nat} {o00 o10 o11 o20 o21 o30 o31 o32 o33 o40 o41 o42 o50 o60 : Oper} {c : Call}
    (hh : AskHead mt (.bool false) o00 o10 o11) (ho : AskOps vt o20 o21 o30 o31 o32 o33 o40 o41 o42 c) (h50 : Is o50 (some 4) (.assign (.const (.bool true)))) (h60 : Is o60 (some 4) (.assign (.const (.bool false))))
    {ti : TI} {kt et : TypeId} (hmt : E.T mt = some ti) (hmd : ti.desc = .map kt et)
    {f : FuncId} {n : Nat} (hn : 16 ≤ n) (hf : E.F f = some ⟨n, [.tmp 4], askBody i0 i1 i2 i3 i4 i6 o00 o10 o11 o20 o21 o30 o31 o32 o33 o40 o41 o42 (.seq (.region i5 #[o50] false) .ret) #[o60]⟩) :
    CallOK (E.withBase ι0) P f [.map (some m), .func (.func g) first cap] H0.fresh fun q => ∃ H1, q = .ret (.bool (es.any p)) H1 ∧ H0.next ≤ H1.low := by
  have hE' := hE.withBase ι0
  have hb4 : Nat.blt 4 n = true := Nat.ble_eq_true_of_le (show 4 + 1 ≤ n by omega)
  refine ask_body hE hs hh (a0 := .bool false) rfl hmt hmd hn hf ?_
  suffices key : ∀ k seen T H it last, (leftE es seen).length = k → Ask H0 m it since last es (.func (.func g) first cap) seen T H → es.countP p = (leftE es seen).countP p →
      LoopOK (E.withBase ι0) P ⟨f, n, none⟩ (askLoop i2 i3 i4 o20 o21 o30 o31 o32 o33 o40 o41 o42 (.seq (.region i5 #[o50] false) .ret)) T [] .off H fun e T D R H => D = [] ∧ H0.next ≤ H.low ∧
        ((e = .exit 0 ∧ RunOK (E.withBase ι0) P ⟨f, n, none⟩ (.region i6 #[o60] false) T [] R H fun e T D _ H => e = .normal ∧ D = [] ∧ H0.next ≤ H.low ∧ T.get 4 = some (.bool (es.any p))) ∨ (e = .ret ∧ T.get 4 = some (.bool (es.any p)))) by
    intro T H it hA _
    refine key _ [] T H it since rfl hA ?_
    have e0 : leftE es [] = es := by unfold leftE; exact List.filter_eq_self.2 fun _ _ => by simp
    rw [e0]
  intro k
  induction k using Nat.strongRecOn with
  | ind k ih =>
    intro seen T H it last hk hA hc
    refine loop_run hE' (ask_round hE hs ho (by show 16 ≤ n; exact hn) hA ?_ ?_ ?_)
    · intro hnil T' H' hA' _
      refine ⟨rfl, hA'.low, .inl ⟨rfl, region_run hE' ?_⟩⟩
      refine ro_val h60.guard h60.dst hb4 (v := .bool false) (by rw [h60.op]; rfl) ?_
      refine ⟨rfl, rfl, hA'.low, ?_⟩
      rw [any_of_count (by rw [hc, hnil]; rfl)]
      simp
    · intro e he hp T' H' hA' _
      obtain ⟨h1, h2⟩ := leftE_snoc hs.nodup he
      refine ih _ (by omega) (seen ++ [e.born]) T' H' it since rfl hA' ?_
      have := h2 p
      rw [hp] at this
      simp at this
      rw [hc, this]
    · intro e he hp T' H' hA' _
      have hany : es.any p = true := by
        rw [List.any_eq_true]
        exact ⟨e, (List.mem_filter.1 he).1, hp⟩
      refine seq_run hE' (region_run hE' ?_)
      refine ro_val h50.guard h50.dst hb4 (v := .bool true) (by rw [h50.op]; rfl) ?_
      refine ret_run hE' ⟨?_, fun i h => by cases h⟩
      exact ⟨rfl, hA'.low, .inr ⟨rfl, by rw [hany]; simp⟩⟩

theorem count_ok (hE : E.OK P) {ι0 : Ren} {H0 : AHeap} {m since : Nat} {es : List AEntry} {vt mt : TypeId} {g : FuncId} {first cap : List AV} {p : AEntry → Bool}
    (hs : AskSetup E P H0 m since es vt g first cap p ι0) {i0 i1 i2 i3 i4 i5 i6 : Nat} {o00 o10 o11 o20 o21 o30 o31 o32 o33 o40 o41 o42 o50 o51 o52 o60 o61 : Oper} {c : Call} {xt yt : TypeId}
    (hh : AskHead mt (.int .i64 0) o00 o10 o11) (ho : AskOps vt o20 o21 o30 o31 o32 o33 o40 o41 o42 c) (h50 : Is o50 (some 16) (.move (.tmp 4))) (h51 : Is o51 (some 17) (.binOp .add xt (.tmp 16) (.const (.int .i64 1)) yt)) (h52 : Is o52 (some 4) (.assign (.tmp 17)))
    (h60 : Is o60 (some 18) (.move (.tmp 4))) (h61 : Is o61 (some 4) (.assign (.tmp 18)))
    {ti : TI} {kt et : TypeId} (hmt : E.T mt = some ti) (hmd : ti.desc = .map kt et) (hfew : es.length < 9223372036854775807)
    {f : FuncId} {n : Nat} (hn : 19 ≤ n) (hf : E.F f = some ⟨n, [.tmp 4], askBody i0 i1 i2 i3 i4 i6 o00 o10 o11 o20 o21 o30 o31 o32 o33 o40 o41 o42 (.region i5 #[o50, o51, o52] false) #[o60, o61]⟩) :
    CallOK (E.withBase ι0) P f [.map (some m), .func (.func g) first cap] H0.fresh fun q => ∃ H1, q = .ret (.int .i64 (.ofNat (es.countP p))) H1 ∧ H0.next ≤ H1.low := by
  have hE' := hE.withBase ι0
  have hblt : ∀ d, d < 19 → Nat.blt d n = true := fun d hd => Nat.ble_eq_true_of_le (show d + 1 ≤ n by omega)
  refine ask_body hE hs hh (a0 := .int .i64 0) rfl hmt hmd (by omega) hf ?_
  suffices key : ∀ k seen T H it last, (leftE es seen).length = k → Ask H0 m it since last es (.func (.func g) first cap) seen T H → ∀ q : Nat, T.get 4 = some (.int .i64 (.ofNat q)) → es.countP p = q + (leftE es seen).countP p →
      LoopOK (E.withBase ι0) P ⟨f, n, none⟩ (askLoop i2 i3 i4 o20 o21 o30 o31 o32 o33 o40 o41 o42 (.region i5 #[o50, o51, o52] false)) T [] .off H fun e T D R H => D = [] ∧ H0.next ≤ H.low ∧
        ((e = .exit 0 ∧ RunOK (E.withBase ι0) P ⟨f, n, none⟩ (.region i6 #[o60, o61] false) T [] R H fun e T D _ H => e = .normal ∧ D = [] ∧ H0.next ≤ H.low ∧ T.get 4 = some (.int .i64 (.ofNat (es.countP p)))) ∨ (e = .ret ∧ T.get 4 = some (.int .i64 (.ofNat (es.countP p))))) by
    intro T H it hA h4
    refine key _ [] T H it since rfl hA 0 h4 ?_
    have e0 : leftE es [] = es := by unfold leftE; exact List.filter_eq_self.2 fun _ _ => by simp
    rw [e0]; omega
  intro k
  induction k using Nat.strongRecOn with
  | ind k ih =>
    intro seen T H it last hk hA q h4 hc
    refine loop_run hE' (ask_round hE hs ho (by show 16 ≤ n; omega) hA ?_ ?_ ?_)
    · intro hnil T' H' hA' h4'
      refine ⟨rfl, hA'.low, .inl ⟨rfl, region_run hE' ?_⟩⟩
      have hq : es.countP p = q := by rw [hc, hnil]; simp
      refine ro_val h60.guard h60.dst (hblt 18 (by decide)) (v := .int .i64 (.ofNat q)) (by rw [h60.op]; simp only [aVal, aEval, h4', h4]) ?_
      refine ro_val h61.guard h61.dst (hblt 4 (by decide)) (v := .int .i64 (.ofNat q)) (by rw [h61.op]; simp [aVal, aEval]) ?_
      refine ⟨rfl, rfl, hA'.low, ?_⟩
      rw [hq]; simp
    · intro e he hp T' H' hA' h4'
      obtain ⟨h1, h2⟩ := leftE_snoc hs.nodup he
      refine ih _ (by omega) (seen ++ [e.born]) T' H' it since rfl hA' q (h4'.trans h4) ?_
      have := h2 p
      rw [hp] at this
      simp at this
      rw [hc, this]
    · intro e he hp T' H' hA' h4'
      obtain ⟨h1, h2⟩ := leftE_snoc hs.nodup he
      have h3 := h2 p
      rw [hp] at h3
      simp only [if_true] at h3
      have hle : es.countP p ≤ es.length := List.countP_le_length
      have hq : q + 1 ≤ 9223372036854775807 := by omega
      refine region_run hE' ?_
      refine ro_val h50.guard h50.dst (hblt 16 (by decide)) (v := .int .i64 (.ofNat q)) (by rw [h50.op]; simp only [aVal, aEval, h4', h4]) ?_
      have hadd : fwrap .i64 (Int.ofNat q + 1) = Int.ofNat (q + 1) := by
        show (bif Nat.ble (q + 1) 9223372036854775807 then Int.ofNat (q + 1) else IntKind.i64.wrap (.ofNat (q + 1))) = _
        rw [Nat.ble_eq_true_of_le hq]; rfl
      refine ro_val h51.guard h51.dst (hblt 17 (by decide)) (v := .int .i64 (.ofNat (q + 1))) (by
        rw [h51.op]
        have e1 : aEval (E.withBase ι0) (T'.put 16 (some (.int .i64 (.ofNat q)))) (.tmp 16) = some (.int .i64 (.ofNat q)) := by simp [aEval]
        have e2 : aEval (E.withBase ι0) (T'.put 16 (some (.int .i64 (.ofNat q)))) (.const (.int .i64 1)) = some (.int .i64 1) := rfl
        simp only [aVal, e1, e2, aBin, if_true, aInt2, hadd]) ?_
      refine ro_val h52.guard h52.dst (hblt 4 (by decide)) (v := .int .i64 (.ofNat (q + 1))) (by rw [h52.op]; simp [aVal, aEval]) ?_
      refine ⟨?_, fun i h => by cases h⟩
      refine ih _ (by omega) (seen ++ [e.born]) _ H' it since rfl ⟨?_, ?_, hA'.iter, hA'.sl, hA'.out, hA'.itlt, hA'.sub, hA'.low, hA'.next⟩ (q + 1) (by simp) (by omega)
      · simpa using hA'.t1
      · simpa using hA'.t8
end
end Go.Am
