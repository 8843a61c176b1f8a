/- A machine that runs the program's code, right of the model for every tape; no condition. The abstract machine: what a run of code, of a call, of deferred calls comes to; a condition on the end, shown from the end backwards. An operation sees no more than its operands; most see no memory. The orders in which a region's operations may be done. What an operation yields stays, where memory only comes to hold more. The model's steps in a frame of whatever kind. What it means that the abstract machine is right of the model; the plain parts of code. Operations and regions of a frame. Regions in the text's order; ranges over functions. A region whose order is drawn: every order comes to what the plan says. A region whose order is drawn, whole. Calls of function values; ranges over functions. -/
import Derived.Test.YthjcjglemefekaaGreatDoorM01
import Derived.Recover
import Derived.RangeFuncRecord
/-! AmQ -/
namespace Go.Am

structure St where
  fn : FuncId
  n : Nat
  rnd : Option Nat

inductive Rc where
  | off
  | nothing
  | avail (v : AV)
  | taken

inductive AExit where
  | normal
  | exit (id : Nat)
  | goto (l : Nat)
  | ret
  | panic (v : AV)

inductive Res where
  | ret (v : AV) (H : AHeap)
  | pan (v : AV) (H : AHeap)

inductive AMode where
  | ret
  | pan (v : AV)

abbrev K := AExit → Tr AV → List ADef → Rc → AHeap → Prop

structure Fns where
  run : St → Code → Tr AV → List ADef → Rc → AHeap → K → Prop
  loop : St → Code → Tr AV → List ADef → Rc → AHeap → K → Prop
  scope : St → Code → Code → Tr AV → List ADef → Rc → AHeap → K → Prop
  call : FuncId → List AV → AHeap → (Res → Prop) → Prop
  defs : List ADef → AMode → AHeap → (AMode → AHeap → Prop) → Prop

/-- Functions that are not walked: what they yield is known by itself. -/
abbrev Prims := FuncId → Option (List AV → AHeap → Option (AV × AHeap))

section
variable (E : Env) (pr : Prims) (F : Fns)

def setDst (n : Nat) (d : Option Tmp) (v : AV) (T : Tr AV) (k : Tr AV → Prop) : Prop :=
  match d with
  | none => k T
  | some d => match Nat.blt d n with
    | true => k (T.put d (some v))
    | false => False

/-- Is a guarded operation wanted? -/
noncomputable def aWanted (ops : Array Oper) (T : Tr AV) (o : Oper) : Option Bool :=
  match o.guard with
  | none => some true
  | some (j, want) =>
    match ops.toList[j]? with
    | some q => match q.dst with
      | some d => match T.get d with
        | some (.bool b) => some (b == want)
        | some (.tuple []) => some false
        | _ => none
      | none => none
    | none => none

/-- The end of a call comes back into the caller. -/
def backCall (n : Nat) (d : Option Tmp) (T : Tr AV) (D : List ADef) (R : Rc) (Q : K) : Res → Prop
  | .ret v H => setDst n d v T fun T => Q .normal T D R H
  | .pan v H => Q (.panic v) T D R H

/-- One round of a range over a function: its body, in a frame of its own. -/
noncomputable def runYield (l : Nat) (args : List AV) (H : AHeap) (Q : Res → Prop) : Prop :=
  match H.get l with
  | some (.loop r) =>
    match r.params.length == args.length with
    | false => False
    | true =>
      let T0 := (r.params.zip args).foldl (fun T p => T.put p.1 (some p.2)) r.tmps
      match r.params.all (fun p => Nat.blt p r.n), r.state with
      | true, .ready =>
        F.run ⟨r.fn, r.n, some l⟩ r.assign T0 [] .off H fun e T D _ H =>
          match e, D, H.get l with
          | .normal, [], some (.loop r1) =>
            match r1.state with
            | .ready =>
              F.run ⟨r.fn, r.n, some l⟩ r.body T [] .off (H.upd l (.loop { r1 with state := .busy })) fun e _ D _ H =>
                match e with
                | .panic v => match D, E.F r.fn with
                  | [], some _ => Q (.pan v H)
                  | _, _ => False
                | e =>
                  match D, H.get l with
                  | [], some (.loop r2) =>
                    match e with
                    | .normal => Q (.ret (.bool true) (H.upd l (.loop { r2 with state := .ready, pending := none })))
                    | .ret => Q (.ret (.bool false) (H.upd l (.loop { r2 with state := .done, pending := some .ret })))
                    | .exit id => Q (.ret (.bool false) (H.upd l (.loop { r2 with state := .done, pending := some (.exit id) })))
                    | .goto g => Q (.ret (.bool false) (H.upd l (.loop { r2 with state := .done, pending := some (.goto g) })))
                    | .panic _ => False
                  | _, _ => False
            | _ => False
          | _, _, _ => False
      | _, _ => False
  | _ => False

/-- A call of a function value. -/
noncomputable def runInvoke (f : AV) (args : List AV) (H : AHeap) (Q : Res → Prop) : Prop :=
  match f with
  | .func (.func g) first cap => F.call g (first ++ args ++ cap) H Q
  | .func (.yield l) first _ => runYield E F l (first ++ args) H Q
  | _ => False

/-- One operation. -/
noncomputable def runOp (st : St) (o : Oper) (T : Tr AV) (D : List ADef) (R : Rc) (H : AHeap) (Q : K) : Prop :=
  match aVal E T H o.op with
  | some v => setDst st.n o.dst v T fun T => Q .normal T D R H
  | none =>
    match aEff E T H o.op with
    | some (v, H') => setDst st.n o.dst v T fun T => Q .normal T D R H'
    | none =>
      match o.op with
      | .call c =>
        match c.callee with
        | .value f =>
          match aEval E T f, aEvals E T c.args.toList with
          | some g, some as => runInvoke E F g as H (backCall st.n o.dst T D R Q)
          | _, _ => False
        | .builtin .recover =>
          match R, st.rnd with
          | .nothing, none => setDst st.n o.dst .nilIface T fun T => Q .normal T D R H
          | .avail v, none => setDst st.n o.dst v T fun T => Q .normal T D .taken H
          | _, _ => False
        | _ => False
      | .defer c =>
        match c.callee, st.rnd with
        | .value f, none =>
          match aEval E T f, aEvals E T c.args.toList with
          | some (.func (.func g) first cap), some as => setDst st.n o.dst undefA T fun T => Q .normal T (.fn (.func g) cap (first ++ as) :: D) R H
          | _, _ => False
        | _, _ => False
      | .next x false =>
        match aEval E T x with
        | some a => match aNext H a with
          | some l => ∀ r ∈ l, setDst st.n o.dst r.1 T fun T => Q .normal T D R r.2
          | none => False
        | none => False
      | .panic x =>
        match aEval E T x with
        | some (.iface t v) => Q (.panic (.iface t v)) T D R H
        | _ => False
      | _ => False

/-- The operations of a region, one by one. -/
noncomputable def runOps (st : St) (ops : Array Oper) : List Oper → Tr AV → List ADef → Rc → AHeap → K → Prop
  | [], T, D, R, H, Q => Q .normal T D R H
  | o :: rest, T, D, R, H, Q =>
    match aWanted ops T o with
    | some true => runOp E F st o T D R H fun e T D R H =>
        match e with
        | .normal => runOps st ops rest T D R H Q
        | e => Q e T D R H
    | some false => setDst st.n o.dst undefA T fun T => runOps st ops rest T D R H Q
    | none => False

/-! A region whose order is drawn. -/
def oneB : AObj → Bool
  | .cells c => c.all AV.one
  | _ => true
theorem oneB_eq {o : AObj} (h : oneB o = true) : OneObj o := by
  cases o with
  | cells c => simpa [oneB, OneObj] using h
  | _ => trivial

/-- What can be done at once: nothing is written but a slot, and new memory. -/
noncomputable def eager1 (n : Nat) (ops : Array Oper) (T : Tr AV) (H : AHeap) (i : Nat) : Option (Tr AV × AHeap) :=
  match ops.toList[i]? with
  | none => none
  | some o =>
    match o.dst with
    | none => none
    | some d =>
      match Nat.blt d n, aWanted ops T o with
      | true, some true =>
        match aVal E T H o.op with
        | some a => some (T.put d (some a), H)
        | none =>
          match aNew E T H.next o.op with
          | some (y, ob) => bif oneB ob then some (T.put d (some y), H.push ob) else none
          | none => none
      | true, some false => some (T.put d (some undefA), H)
      | _, _ => none

noncomputable def runEager (n : Nat) (ops : Array Oper) : List Nat → Tr AV → AHeap → (Tr AV → AHeap → Prop) → Prop
  | [], T, H, k => k T H
  | i :: is, T, H, k =>
    match eager1 E n ops T H i with
    | some (T, H) => runEager n ops is T H k
    | none => False

/-- Would it yield the same here? -/
noncomputable def still (ops : Array Oper) (T : Tr AV) (H : AHeap) (i : Nat) : Bool :=
  match ops.toList[i]? with
  | none => false
  | some o =>
    match o.dst with
    | none => false
    | some d =>
      match aWanted ops T o with
      | some false => true
      | some true =>
        match aVal E T H o.op, T.get d with
        | some a, some b => AV.beq a b
        | _, _ => false
      | none => false

noncomputable def allStill (ops : Array Oper) (T : Tr AV) (H : AHeap) : List Nat → Bool
  | [] => true
  | i :: is => match still E ops T H i with
    | true => allStill ops T H is
    | false => false

/-- Every slot that the region writes is forgotten. -/
noncomputable def forget : List Oper → Tr AV → Tr AV
  | [], T => T
  | o :: os, T => match o.dst with
    | some d => (forget os T).put d none
    | none => forget os T

noncomputable def runSteps (st : St) (ops : Array Oper) : List PStep → Tr AV → List ADef → Rc → AHeap → K → Prop
  | [], T, D, R, H, Q => Q .normal T D R H
  | s :: ss, T, D, R, H, Q =>
    match ops.toList[s.eff]? with
    | none => False
    | some o =>
      match aWanted ops T o with
      | some true =>
        runOp E F st o T D R H fun e T D R H =>
          match e with
          | .normal =>
            match allStill E ops T H s.check with
            | true => runEager E st.n ops s.eager T H fun T H => runSteps st ops ss T D R H Q
            | false => False
          | .panic v => Q (.panic v) (forget ops.toList T) D R H
          | _ => False
      | some false => setDst st.n o.dst undefA T fun T => runEager E st.n ops s.eager T H fun T H => runSteps st ops ss T D R H Q
      | none => False

noncomputable def runDraw (st : St) (ops : Array Oper) (T : Tr AV) (D : List ADef) (R : Rc) (H : AHeap) (Q : K) : Prop :=
  match planOf ops.toList with
  | some p => runEager E st.n ops p.first T H fun T H => runSteps E F st ops p.steps T D R H Q
  | none => False

/-- How a range over a function goes on behind it. -/
def afterLoop (l : Nat) (T : Tr AV) (D : List ADef) (R : Rc) (Q : K) : Res → Prop
  | .pan v H => Q (.panic v) T D R H
  | .ret _ H =>
    match H.get l with
    | some (.loop r) =>
      match r.state with
      | .busy => False
      | _ =>
        match r.pending with
        | none => Q .normal T D R (H.upd l (.loop { r with state := .exhausted }))
        | some .ret => Q .ret T D R (H.upd l (.loop { r with state := .exhausted }))
        | some (.exit id) => Q (.exit id) T D R (H.upd l (.loop { r with state := .exhausted }))
        | some (.goto g) => Q (.goto g) T D R (H.upd l (.loop { r with state := .exhausted }))
        | some _ => False
    | _ => False

noncomputable def runRange (st : St) (f : Operand) (params : Array Tmp) (assign body : Code) (T : Tr AV) (D : List ADef) (R : Rc) (H : AHeap) (Q : K) : Prop :=
  match aEval E T f with
  | some (.func (.func g) first cap) =>
    match st.rnd with
    | none =>
      let d := H.next
      let H1 := H.push (.deferred (some []))
      let l := H1.next
      let H2 := H1.push (.loop ⟨.ready, none, st.fn, st.n, T, params.toList, assign, body, d⟩)
      F.call g (first ++ [.func (.yield l) [] []] ++ cap) H2 (afterLoop l T (.collected d :: D) R Q)
    | some q =>
      match H.get q with
      | some (.loop r) =>
        let l := H.next
        let H2 := H.push (.loop ⟨.ready, none, st.fn, st.n, T, params.toList, assign, body, r.defers⟩)
        F.call g (first ++ [.func (.yield l) [] []] ++ cap) H2 (afterLoop l T D R Q)
      | _ => False
  | _ => False

noncomputable def stepRun (st : St) (c : Code) (T : Tr AV) (D : List ADef) (R : Rc) (H : AHeap) (Q : K) : Prop :=
  match c with
  | .skip => Q .normal T D R H
  | .label _ => Q .normal T D R H
  | .ret => Q .ret T D R H
  | .exit id => Q (.exit id) T D R H
  | .goto l => Q (.goto l) T D R H
  | .seq a b => F.run st a T D R H fun e T D R H =>
      match e with
      | .normal => F.run st b T D R H Q
      | e => Q e T D R H
  | .cond c a b =>
    match aEval E T c with
    | some (.bool true) => F.run st a T D R H Q
    | some (.bool false) => F.run st b T D R H Q
    | _ => False
  | .block id b => F.run st b T D R H fun e T D R H =>
      match e with
      | .exit i => if i = id then Q .normal T D R H else Q (.exit i) T D R H
      | e => Q e T D R H
  | .loop b => F.loop st b T D R H Q
  | .scope b => F.scope st b b T D R H Q
  | .region _ ops draw => match draw with
    | false => runOps E F st ops ops.toList T D R H Q
    | true => runDraw E F st ops T D R H Q
  | .rangeFunc f ps a b => runRange E F st f ps a b T D R H Q
  | .refuse _ => False

noncomputable def stepLoop (st : St) (b : Code) (T : Tr AV) (D : List ADef) (R : Rc) (H : AHeap) (Q : K) : Prop :=
  F.run st b T D R H fun e T D R H =>
    match e with
    | .normal => F.loop st b T D R H Q
    | e => Q e T D R H

noncomputable def stepScope (st : St) (body c : Code) (T : Tr AV) (D : List ADef) (R : Rc) (H : AHeap) (Q : K) : Prop :=
  F.run st c T D R H fun e T D R H =>
    match e with
    | .goto l => match findLabel body l with
      | some rest => F.scope st body rest T D R H Q
      | none => Q (.goto l) T D R H
    | e => Q e T D R H

/-- The results of a call, out of its frame. -/
noncomputable def aResults (rs : List ResultVar) (T : Tr AV) (H : AHeap) : Option (List AV) :=
  match rs with
  | [] => some []
  | .tmp t :: rs => match T.get t, aResults rs T H with
    | some a, some as => some (a :: as)
    | _, _ => none
  | .cell a t :: rs => match T.get a with
    | some (.ptr (some p)) => match aLoad E H t p, aResults rs T H with
      | some a, some as => some (a :: as)
      | _, _ => none
    | _ => none

def oneOf : List AV → AV
  | [a] => a
  | as => .tuple as

noncomputable def params (args : List AV) : Nat → Tr AV → Tr AV := fun i T =>
  match args with
  | [] => T
  | a :: args => params args (i + 1) (T.put i (some a))

/-- A frame's body and its deferred calls; its results. -/
noncomputable def runBody (f : FuncId) (args : List AV) (R : Rc) (H : AHeap) (Q : Rc → Res → Prop) : Prop :=
  match E.F f with
  | none => False
  | some a =>
    match Nat.ble args.length a.ntmps with
    | false => False
    | true =>
      F.run ⟨f, a.ntmps, none⟩ a.body (params args 0 .leaf) [] R H fun e T D R H =>
        match e with
        | .normal | .ret =>
          F.defs D .ret H fun m H => match m with
            | .ret => match aResults E a.results T H with
              | some vs => Q R (.ret (oneOf vs) H)
              | none => False
            | .pan _ => False
        | .panic v =>
          F.defs D (.pan v) H fun m H => match m with
            | .ret => match aResults E a.results T H with
              | some vs => Q R (.ret (oneOf vs) H)
              | none => False
            | .pan v => Q R (.pan v H)
        | _ => False

noncomputable def stepCall (f : FuncId) (args : List AV) (H : AHeap) (Q : Res → Prop) : Prop :=
  match pr f with
  | some p => match p args H with
    | some (v, H') => Q (.ret v H')
    | none => False
  | none => runBody E F f args .off H fun _ => Q

noncomputable def stepDefs (D : List ADef) (m : AMode) (H : AHeap) (Q : AMode → AHeap → Prop) : Prop :=
  match D with
  | [] => Q m H
  | .collected r :: D =>
    match H.get r with
    | some (.deferred (some ds)) => F.defs (ds ++ D) m (H.upd r (.deferred none)) Q
    | _ => False
  | .fn (.func g) cap args :: D =>
    runBody E F g (args ++ cap) (match m with | .ret => .nothing | .pan v => .avail v) H fun R r =>
      match r with
      | .ret _ H => F.defs D (match R with | .taken => .ret | _ => m) H Q
      | .pan _ _ => False
  | _ => False
end

noncomputable def fns (E : Env) (pr : Prims) : Nat → Fns :=
  Nat.rec (motive := fun _ => Fns) ⟨fun _ _ _ _ _ _ _ => False, fun _ _ _ _ _ _ _ => False, fun _ _ _ _ _ _ _ _ => False, fun _ _ _ _ => False, fun _ _ _ _ => False⟩
    fun _ F => ⟨stepRun E F, stepLoop F, stepScope F, stepCall E pr F, stepDefs E F⟩
end Go.Am
/-! AmP3 -/
namespace Go.Am

section
variable {E : Env} {T T' : Tr AV} {H H' : AHeap}

def Agree (E : Env) (T T' : Tr AV) (o : Op) : Prop := ∀ x ∈ o.operands.toList, aEval E T x = aEval E T' x

theorem aEvals_agree : ∀ {xs : List Operand}, (∀ x ∈ xs, aEval E T x = aEval E T' x) → aEvals E T xs = aEvals E T' xs
  | [], _ => rfl
  | x :: xs, h => by simp only [aEvals, h x (by simp), aEvals_agree (xs := xs) fun y hy => h y (by simp [hy])]
theorem aParts_agree : ∀ {ps : List (Nat × Operand)}, (∀ x ∈ ps.map (·.2), aEval E T x = aEval E T' x) → aParts E T ps = aParts E T' ps
  | [], _ => rfl
  | (i, x) :: ps, h => by simp only [aParts, h x (by simp), aParts_agree (ps := ps) fun y hy => h y (by simp only [List.map_cons]; exact List.mem_cons_of_mem _ hy)]
theorem aEvalO_agree : ∀ {x : Option Operand}, (∀ y ∈ x.toList, aEval E T y = aEval E T' y) → aEvalO E T x = aEvalO E T' x
  | none, _ => rfl
  | some x, h => by simp only [aEvalO, h x (by simp)]

theorem aVal_agree {op : Op} (h : Agree E T T' op) : aVal E T H op = aVal E T' H op := by
  unfold Agree at h
  cases op
  case move x => simp only [aVal, h x (by simp [Op.operands])]
  case assign x => simp only [aVal, h x (by simp [Op.operands])]
  case pick c a b => simp only [aVal, h c (by simp [Op.operands]), h a (by simp [Op.operands]), h b (by simp [Op.operands])]
  case nilCheck x => simp only [aVal, h x (by simp [Op.operands])]
  case binOp op t x y _ => simp only [aVal, h x (by simp [Op.operands]), h y (by simp [Op.operands])]
  case unOp op _ x => simp only [aVal, h x (by simp [Op.operands])]
  case convert s d x => simp only [aVal, h x (by simp [Op.operands])]
  case makeInterface t x => simp only [aVal, h x (by simp [Op.operands])]
  case makeFunc fn a b => simp only [aVal, aEvals_agree (xs := a.toList) fun x hx => h x (by simp only [Op.operands, Array.toList_append, List.mem_append]; exact .inl hx), aEvals_agree (xs := b.toList) fun x hx => h x (by simp only [Op.operands, Array.toList_append, List.mem_append]; exact .inr hx)]
  case slice t x lo hi mx =>
    simp only [aVal, h x (by simp [Op.operands]), aEvalO_agree (x := lo) fun y hy => h y (by simp [Op.operands] at hy ⊢; simp [hy]),
      aEvalO_agree (x := hi) fun y hy => h y (by simp [Op.operands] at hy ⊢; simp [hy]), aEvalO_agree (x := mx) fun y hy => h y (by simp [Op.operands] at hy ⊢; simp [hy])]
  case fieldAddr t x f => simp only [aVal, h x (by simp [Op.operands])]
  case field t x f => simp only [aVal, h x (by simp [Op.operands])]
  case indexAddr t x i => simp only [aVal, h x (by simp [Op.operands]), h i (by simp [Op.operands])]
  case index t x i => simp only [aVal, h x (by simp [Op.operands]), h i (by simp [Op.operands])]
  case lookup t x i ok => simp only [aVal, h x (by simp [Op.operands]), h i (by simp [Op.operands])]
  case extract x i => simp only [aVal, h x (by simp [Op.operands])]
  case build t ps => simp only [aVal, aParts_agree (ps := ps.toList) fun x hx => h x (by simpa only [Op.operands] using hx)]
  case load t x => simp only [aVal, h x (by simp [Op.operands])]
  case typeAssert x xt t ok => simp only [aVal, h x (by simp [Op.operands])]
  case entry x => simp only [aVal, h x (by simp [Op.operands])]
  case call c =>
    have ha : aEvals E T c.args.toList = aEvals E T' c.args.toList := aEvals_agree fun x hx => h x (by simp only [Op.operands, Call.operands, Array.toList_append, List.mem_append]; exact .inr hx)
    simp only [aVal, ha]
  all_goals rfl

theorem aEff_agree {op : Op} (h : Agree E T T' op) : aEff E T H op = aEff E T' H op := by
  unfold Agree at h
  cases op
  case box t x => simp only [aEff, h x (by simp [Op.operands])]
  case buildSlice t n ps => simp only [aEff, aParts_agree (ps := ps.toList) fun x hx => h x (by simpa only [Op.operands] using hx)]
  case makeMap t r => simp only [aEff, aEvalO_agree (x := r) fun y hy => h y (by simpa [Op.operands] using hy)]
  case makeSlice t l c => simp only [aEff, h l (by simp [Op.operands]), h c (by simp [Op.operands])]
  case convert s d x => simp only [aEff, h x (by simp [Op.operands])]
  case range t x => simp only [aEff, h x (by simp [Op.operands])]
  case mapEntry t m k => simp only [aEff, h m (by simp [Op.operands]), h k (by simp [Op.operands])]
  case entryStore t m s x => simp only [aEff, h m (by simp [Op.operands]), h s (by simp [Op.operands]), h x (by simp [Op.operands])]
  case store t a x => simp only [aEff, h a (by simp [Op.operands]), h x (by simp [Op.operands])]
  case mapUpdate t m k x => simp only [aEff, h m (by simp [Op.operands]), h k (by simp [Op.operands]), h x (by simp [Op.operands])]
  case insert t m k x => simp only [aEff, h m (by simp [Op.operands]), h k (by simp [Op.operands]), h x (by simp [Op.operands])]
  case call c =>
    have ha : aEvals E T c.args.toList = aEvals E T' c.args.toList := aEvals_agree fun x hx => h x (by simp only [Op.operands, Call.operands, Array.toList_append, List.mem_append]; exact .inr hx)
    simp only [aEff, ha]
  all_goals rfl

theorem aNew_agree {op : Op} {b : Nat} (h : Agree E T T' op) : aNew E T b op = aNew E T' b op := by
  unfold Agree at h
  cases op
  case box t x => simp only [aNew, h x (by simp [Op.operands])]
  case buildSlice t n ps => simp only [aNew, aParts_agree (ps := ps.toList) fun x hx => h x (by simpa only [Op.operands] using hx)]
  case makeMap t r => cases r <;> rfl
  case makeSlice t l c => simp only [aNew, h l (by simp [Op.operands]), h c (by simp [Op.operands])]
  all_goals rfl

theorem aVal_heap {op : Op} (h : reads op = false) : aVal E T H op = aVal E T H' op := by
  cases op <;> first | rfl | cases h
end
end Go.Am
/-! AmSc -/
namespace Go.Am

/-- A list of places is an order for what is left to do: each comes once, behind what must come first, and none is left out. -/
inductive Sched (ops : List Oper) : (Nat → Bool) → List Nat → Prop
  | done {C : Nat → Bool} : (∀ i, i < ops.length → C i = true) → Sched ops C []
  | step {C : Nat → Bool} {i : Nat} {is : List Nat} {o : Oper} : ops[i]? = some o → C i = false → (∀ j ∈ preds o, C j = true) → Sched ops (fun j => C j || j == i) is → Sched ops C (i :: is)

theorem Sched.congr {ops : List Oper} {C C' : Nat → Bool} {s : List Nat} (h : Sched ops C s) (he : ∀ i, i < ops.length → C i = C' i) (hp : ∀ o ∈ ops, ∀ j ∈ preds o, j < ops.length) : Sched ops C' s := by
  induction h generalizing C' with
  | done h => exact .done fun i hi => by rw [← he i hi]; exact h i hi
  | @step C i is o ho hc hpr _ ih =>
    have hi : i < ops.length := (List.getElem?_eq_some_iff.1 ho).1
    refine .step ho (by rw [← he i hi]; exact hc) (fun j hj => by rw [← he j (hp o (List.mem_of_getElem? ho) j hj)]; exact hpr j hj) (ih fun j hj => by simp only; rw [he j hj])

section
variable {ops : Array Oper}

def ready (ops : Array Oper) (listed : Array Bool) : List Nat :=
  (List.range ops.size).filter fun i => !listed.getD i true && ((ops[i]?).map (·.after.all fun e => !Region.binds .any e || listed.getD e.on false)).getD false

theorem countP_split (p q : Nat → Bool) : ∀ l : List Nat, l.countP (fun j => p j && !q j) + l.countP (fun j => p j && q j) = l.countP p
  | [] => rfl
  | a :: l => by
    have := countP_split p q l
    simp only [List.countP_cons]
    cases p a <;> cases q a <;> simp <;> omega

theorem go_succ (fuel t : Nat) (listed : Array Bool) (acc : List Nat) :
    Region.linearise.go .any ops (fuel + 1) t listed acc = match (ready ops listed)[t % (ready ops listed).length]? with
      | some i => Region.linearise.go .any ops fuel (t / (ready ops listed).length) (listed.setIfInBounds i true) (i :: acc)
      | none => acc.reverse := rfl

/-- Where all edges go back, some operation is ready as long as one is left. -/
theorem ready_ne (hb : ∀ i o, ops[i]? = some o → ∀ j ∈ preds o, j < i) {listed : Array Bool} (hs : listed.size = ops.size) : ∀ k, k < ops.size → listed.getD k true = false → ∃ i, i ∈ ready ops listed := by
  intro k
  induction k using Nat.strongRecOn with
  | ind k ih =>
    intro hk hl
    by_cases h : ∃ j, j < k ∧ listed.getD j true = false
    · obtain ⟨j, hj, hjl⟩ := h
      exact ih j hj (by omega) hjl
    · refine ⟨k, ?_⟩
      unfold ready
      rw [List.mem_filter]
      refine ⟨List.mem_range.2 hk, ?_⟩
      obtain ⟨o, ho⟩ : ∃ o, ops[k]? = some o := ⟨ops[k], by simp [hk]⟩
      rw [hl, ho]
      simp only [Bool.not_false, Bool.true_and, Option.map_some, Option.getD_some, Array.all_eq_true']
      intro e he
      cases hbd : Region.binds .any e with
      | false => rfl
      | true =>
        have hj : e.on ∈ preds o := List.mem_map.2 ⟨e, List.mem_filter.2 ⟨by simpa using he, hbd⟩, rfl⟩
        have hlt := hb k o ho _ hj
        have : listed.getD e.on true = true := by
          cases h3 : listed.getD e.on true with
          | true => rfl
          | false => exact absurd ⟨e.on, hlt, h3⟩ h
        have hsz : e.on < listed.size := by omega
        simp [hsz] at this ⊢
        exact this

theorem go_sched (hb : ∀ i o, ops[i]? = some o → ∀ j ∈ preds o, j < i) : ∀ (fuel t : Nat) (listed : Array Bool) (acc : List Nat), listed.size = ops.size →
    (List.range ops.size).countP (fun i => !listed.getD i true) = fuel → ∃ s, Region.linearise.go .any ops fuel t listed acc = acc.reverse ++ s ∧ Sched ops.toList (fun i => listed.getD i false) s := by
  intro fuel
  induction fuel with
  | zero =>
    intro t listed acc hs hc
    refine ⟨[], by simp [Region.linearise.go], .done fun i hi => ?_⟩
    rw [List.countP_eq_zero] at hc
    have hi' : i < ops.size := by simpa using hi
    have := hc i (List.mem_range.2 hi')
    have hsz : i < listed.size := by omega
    simp [hsz] at this ⊢
    exact this
  | succ fuel ih =>
    intro t listed acc hs hc
    rw [go_succ]
    have hpos : 0 < (List.range ops.size).countP (fun i => !listed.getD i true) := by omega
    obtain ⟨k, hk, hkl⟩ := List.countP_pos_iff.1 hpos
    obtain ⟨r, hr⟩ := ready_ne hb hs k (List.mem_range.1 hk) (by simpa using hkl)
    have hlen : 0 < (ready ops listed).length := List.length_pos_of_mem hr
    have hlt := Nat.mod_lt t hlen
    rw [List.getElem?_eq_getElem hlt]
    have hmem := List.getElem_mem hlt
    generalize (ready ops listed)[t % (ready ops listed).length] = i at hmem ⊢
    unfold ready at hmem
    rw [List.mem_filter] at hmem
    obtain ⟨hi, hrd⟩ := hmem
    have hi := List.mem_range.1 hi
    simp only [Bool.and_eq_true, Bool.not_eq_true'] at hrd
    obtain ⟨hli, hrd⟩ := hrd
    have hsi : i < listed.size := by omega
    obtain ⟨o, ho⟩ : ∃ o, ops[i]? = some o := ⟨ops[i], by simp [hi]⟩
    rw [ho] at hrd
    simp only [Option.map_some, Option.getD_some, Array.all_eq_true'] at hrd
    have hcount : (List.range ops.size).countP (fun j => !(listed.setIfInBounds i true).getD j true) = fuel := by
      have h1 : ∀ j ∈ List.range ops.size, (!(listed.setIfInBounds i true).getD j true) = ((!listed.getD j true) && !(j == i)) := by
        intro j hj
        by_cases e : j = i
        · subst e; simp [hsi]
        · have hj' : j < listed.size := by have := List.mem_range.1 hj; omega
          simp [hj', Array.getElem_setIfInBounds, Ne.symm e, e]
      have h2 : (List.range ops.size).countP (fun j => (!listed.getD j true) && !(j == i)) + (List.range ops.size).countP (fun j => (!listed.getD j true) && (j == i)) = (List.range ops.size).countP (fun j => !listed.getD j true) := countP_split _ _ _
      have h3 : (List.range ops.size).countP (fun j => (!listed.getD j true) && (j == i)) = 1 := by
        have : (List.range ops.size).countP (fun j => (!listed.getD j true) && (j == i)) = (List.range ops.size).count i := by
          unfold List.count
          apply List.countP_congr
          intro j _
          by_cases e : j = i
          · subst e; simp [hsi] at hli ⊢; exact hli
          · simp [e]
        rw [this, List.count_range]
        simp [hi]
      rw [List.countP_congr (fun j hj => by rw [h1 j hj])]
      omega
    obtain ⟨s, h4, h5⟩ := ih (t / (ready ops listed).length) (listed.setIfInBounds i true) (i :: acc) (by simpa using hs) hcount
    refine ⟨i :: s, by simp only [h4]; simp, .step (o := o) (by simpa using ho) ?_ ?_ ?_⟩
    · simp [hsi] at hli ⊢; exact hli
    · intro j hj
      obtain ⟨e, he, rfl⟩ := List.mem_map.1 hj
      obtain ⟨he, hbd⟩ := List.mem_filter.1 he
      have := hrd e (by simpa using he)
      rw [hbd] at this
      simpa using this
    · refine h5.congr (fun j hj => ?_) ?_
      · by_cases e : j = i
        · subst e; simp [hsi]
        · have hj' : j < listed.size := by simp at hj; omega
          simp [hj', Array.getElem_setIfInBounds, Ne.symm e, e]
      · intro o ho j hj
        obtain ⟨k, hk, rfl⟩ := List.getElem_of_mem ho
        have := hb k _ (by simp at hk; simp [hk]) j hj
        omega

theorem sched_ok (hb : ∀ i o, ops[i]? = some o → ∀ j ∈ preds o, j < i) (t : Nat) : Sched ops.toList (fun _ => false) (Region.schedule true ops t) := by
  unfold Region.schedule
  simp only [Bool.true_or, if_true]
  unfold Region.linearise
  obtain ⟨s, h1, h2⟩ := go_sched hb ops.size t (Array.replicate ops.size false) [] (by simp) (by
    rw [List.countP_eq_length.2]
    · simp
    · intro i hi; have := List.mem_range.1 hi; simp [this])
  rw [h1]
  simp only [List.reverse_nil, List.nil_append]
  refine h2.congr (fun i hi => ?_) ?_
  · have : i < ops.size := by simpa using hi
    simp [this]
  · intro o ho j hj
    obtain ⟨k, hk, rfl⟩ := List.getElem_of_mem ho
    have := hb k _ (by simp at hk; simp [hk]) j hj
    omega
end
end Go.Am
/-! AmSb -/
namespace Go.Am

def Sub (H H' : AHeap) : Prop := ∀ b o, H.get b = some o → H'.get b = some o

section
variable {E : Env} {T : Tr AV} {H H' : AHeap} (hs : Sub H H')
include hs

theorem aLoad_sub {t : TypeId} {p : Nat × Nat} {x : AV} (h : aLoad E H t p = some x) : aLoad E H' t p = some x := by
  unfold aLoad at h ⊢
  split at h
  · rename_i i c hi hg; rw [hi, hs _ _ hg]; exact h
  · cases h

theorem aEntry_sub {x y : AV} (h : aEntry H x = some y) : aEntry H' x = some y := by
  unfold aEntry at h ⊢
  split at h
  case h_2 => cases h
  split at h
  case h_2 => cases h
  rename_i hg
  rw [hs _ _ hg]
  split at h
  case h_2 => cases h
  rename_i hgm hst
  simp only [hs _ _ hgm, hst]
  exact h

theorem aLookup_sub {t : TypeId} {x k : AV} {ok : Bool} {y : AV} (h : aLookup E H t x k ok = some y) : aLookup E H' t x k ok = some y := by
  cases x
  case map r =>
    cases r with
    | none => exact h
    | some r =>
      cases hg : H.get r with
      | none =>
        exfalso
        simp only [aLookup, hg] at h
        repeat' split at h
        all_goals first | (cases h; done) | skip
        all_goals (rename_i ik ie _ _; cases hk : keyKind ik.desc k <;> rw [hk] at h <;> cases h)
      | some o =>
        simp only [aLookup, hs _ _ hg]
        simp only [aLookup, hg] at h
        exact h
  all_goals exact h

theorem aLen_sub {t : TypeId} {x y : AV} (h : aLen E H t x = some y) : aLen E H' t x = some y := by
  unfold aLen at h ⊢
  split at h
  · cases h
  · rename_i i hi
    (try simp only [hi])
    split at h
    · rename_i hd; (try simp only [hd]); exact h
    · rename_i hd; (try simp only [hd]); exact h
    · rename_i hd; (try simp only [hd]); exact h
    · rename_i hd; (try simp only [hd]); exact h
    · rename_i hd
      (try simp only [hd])
      split at h
      · rename_i es clock hg; simp only [hs _ _ hg]; exact h
      · cases h
    · cases h

theorem aSource_sub {n : Nat} {x : AV} {y : Nat × List AV} (h : aSource H n x = some y) : aSource H' n x = some y := by
  unfold aSource at h ⊢
  split at h
  · exact h
  · split at h
    · rename_i c hg; simp only [hs _ _ hg]; exact h
    · cases h
  · exact h
  · cases h

theorem aToString_sub {s d : TypeId} {x y : AV} (h : aToString E H s d x = some y) : aToString E H' s d x = some y := by
  unfold aToString at h ⊢
  split at h
  · rename_i i j a n c m hi hj
    (try simp only [hi, hj])
    split at h
    · rename_i e h1 h2
      (try simp only [h1, h2])
      split at h
      · rename_i k hk
        (try simp only [hk])
        split at h
        · rename_i hkd
          (try simp only [hkd])
          split at h
          · rename_i l cs hcs
            rw [aSource_sub hs hcs]; exact h
          · cases h
        · cases h
      · cases h
    · cases h
  · cases h

theorem aVal_sub {op : Op} {y : AV} (h : aVal E T H op = some y) : aVal E T H' op = some y := by
  cases op
  case convert s d x =>
    simp only [aVal] at h ⊢
    split at h
    · split at h
      · exact h
      · exact aToString_sub hs h
    · cases h
  case lookup t x i ok =>
    simp only [aVal] at h ⊢
    split at h
    · exact aLookup_sub hs h
    · cases h
  case load t x =>
    simp only [aVal] at h ⊢
    split at h
    · exact aLoad_sub hs h
    · cases h
  case entry x =>
    simp only [aVal] at h ⊢
    split at h
    · exact aEntry_sub hs h
    · cases h
  case call c =>
    simp only [aVal] at h ⊢
    split at h
    · split at h
      · exact aLen_sub hs h
      · cases h
    · exact h
    · exact h
    · exact h
    · cases h
  all_goals exact h
end
end Go.Am
/-! AmR -/
namespace Go.Am

def mk (b : Frame) (t : Array Value) (d : List Deferred) (todo : List Item) : Frame := { b with tmps := t, defers := d, todo := todo, mode := .run }

@[simp] theorem mk_todo (b : Frame) (t : Array Value) (d : List Deferred) (todo : List Item) : (mk b t d todo).todo = todo := rfl
@[simp] theorem mk_kind (b : Frame) (t : Array Value) (d : List Deferred) (todo : List Item) : (mk b t d todo).kind = b.kind := rfl
@[simp] theorem mk_mode (b : Frame) (t : Array Value) (d : List Deferred) (todo : List Item) : (mk b t d todo).mode = .run := rfl
@[simp] theorem mk_fn (b : Frame) (t : Array Value) (d : List Deferred) (todo : List Item) : (mk b t d todo).fn = b.fn := rfl
@[simp] theorem mk_defers (b : Frame) (t : Array Value) (d : List Deferred) (todo : List Item) : (mk b t d todo).defers = d := rfl
@[simp] theorem mk_roundOf (b : Frame) (t : Array Value) (d : List Deferred) (todo : List Item) : (mk b t d todo).roundOf = b.roundOf := rfl
@[simp] theorem mk_tmps (b : Frame) (t : Array Value) (d : List Deferred) (todo : List Item) : (mk b t d todo).tmps = t := rfl
section moves
variable {P : Program} {b : Frame} {t : Array Value} {d : List Deferred} {k : List Item} {cs : List Frame} {w : World}

theorem mk_eval (x : Operand) (todo : List Item) : (mk b t d todo).eval x = (mk b t d []).eval x := by cases x <;> rfl
theorem mk_eval' (todo : List Item) : (mk b t d todo).eval = (mk b t d []).eval := funext fun x => mk_eval x todo

theorem m_skip : step P (lone (mk b t d (.code .skip :: k)) cs w) = .next (lone (mk b t d k) cs w) := step_lone_go (by simp [stepG, stepG.exec, mk])
theorem m_label {l : Nat} : step P (lone (mk b t d (.code (.label l) :: k)) cs w) = .next (lone (mk b t d k) cs w) := step_lone_go (by simp [stepG, stepG.exec, mk])
theorem m_inBlock {id : Nat} : step P (lone (mk b t d (.inBlock id :: k)) cs w) = .next (lone (mk b t d k) cs w) := step_lone_go (by simp [stepG, stepG.exec, mk])
theorem m_inScope {x : Code} : step P (lone (mk b t d (.inScope x :: k)) cs w) = .next (lone (mk b t d k) cs w) := step_lone_go (by simp [stepG, stepG.exec, mk])
theorem m_seq {x y : Code} : step P (lone (mk b t d (.code (.seq x y) :: k)) cs w) = .next (lone (mk b t d (.code x :: .code y :: k)) cs w) := step_lone_go (by simp [stepG, stepG.exec, mk])
theorem m_block {id : Nat} {c : Code} : step P (lone (mk b t d (.code (.block id c) :: k)) cs w) = .next (lone (mk b t d (.code c :: .inBlock id :: k)) cs w) := step_lone_go (by simp [stepG, stepG.exec, mk])
theorem m_loop {c : Code} : step P (lone (mk b t d (.code (.loop c) :: k)) cs w) = .next (lone (mk b t d (.code c :: .inLoop c :: k)) cs w) := step_lone_go (by simp [stepG, stepG.exec, mk])
theorem m_inLoop {c : Code} : step P (lone (mk b t d (.inLoop c :: k)) cs w) = .next (lone (mk b t d (.code c :: .inLoop c :: k)) cs w) := step_lone_go (by simp [stepG, stepG.exec, mk])
theorem m_scope {c : Code} : step P (lone (mk b t d (.code (.scope c) :: k)) cs w) = .next (lone (mk b t d (.code c :: .inScope c :: k)) cs w) := step_lone_go (by simp [stepG, stepG.exec, mk])
theorem m_exit {id : Nat} {k' : List Item} (h : exitTo id k = some k') : step P (lone (mk b t d (.code (.exit id) :: k)) cs w) = .next (lone (mk b t d k') cs w) := step_lone_go (by simp [stepG, stepG.exec, mk, h])
theorem m_goto {l : Nat} {k' : List Item} (h : gotoIn l k = some k') : step P (lone (mk b t d (.code (.goto l) :: k)) cs w) = .next (lone (mk b t d k') cs w) := step_lone_go (by simp [stepG, stepG.exec, mk, h])
theorem m_cond {c : Operand} {x y : Code} {r : Bool} (h : (mk b t d []).eval c = .bool r) :
    step P (lone (mk b t d (.code (.cond c x y) :: k)) cs w) = .next (lone (mk b t d (.code (if r then x else y) :: k)) cs w) :=
  step_lone_go (by
    have e := mk_eval (b := b) (t := t) (d := d) c (.code (.cond c x y) :: k)
    rw [h] at e
    simp only [mk] at e
    simp [stepG, stepG.exec, mk, e])
theorem m_region {id : Nat} {ops : Array Oper} : step P (lone (mk b t d (.code (.region id ops false) :: k)) cs w) = .next (lone (mk b t d (.inRegion ops (List.range ops.size) :: k)) cs w) :=
  step_lone_go (by simp [stepG, stepG.exec, mk])
theorem m_region_end {ops : Array Oper} : step P (lone (mk b t d (.inRegion ops [] :: k)) cs w) = .next (lone (mk b t d k) cs w) := step_lone_go (by simp [stepG, stepG.exec, mk])

def putT (t : Array Value) (dst : Option Tmp) (v : Value) : Array Value := match dst with | some i => t.setIfInBounds i v | none => t

theorem mk_finish (ops : Array Oper) (i : Nat) (rest : List Nat) (v : Value) :
    (mk b t d (.inRegion ops (i :: rest) :: k)).finish v = mk b (putT t ((ops[i]?).bind (·.dst)) v) d (.inRegion ops rest :: k) := by
  cases h : (ops[i]?).bind (·.dst) <;> simp [Frame.finish, mk, putT, h]

theorem m_op_skip {ops : Array Oper} {i : Nat} {rest : List Nat} (h : ((ops[i]?).map (Region.wanted · (yielded ops t))).getD false = false) :
    step P (lone (mk b t d (.inRegion ops (i :: rest) :: k)) cs w) = .next (lone (mk b (putT t ((ops[i]?).bind (·.dst)) undef) d (.inRegion ops rest :: k)) cs w) := by
  rw [← mk_finish]
  exact step_lone_go (by
    have h' := h
    simp only [mk] at *
    simp [stepG, stepG.exec, h'])

theorem m_stepG_op {ops : Array Oper} {i : Nat} {rest : List Nat} {o : Oper} (ho : ops[i]? = some o) (hw : Region.wanted o (yielded ops t) = true)
    (hd : b.roundOf = none ∨ ∀ c, o.op ≠ .defer c) :
    stepG P true { frame := mk b t d (.inRegion ops (i :: rest) :: k), callers := cs, status := .running, dying := none } w =
      stepG.apply P true (mk b t d (.inRegion ops (i :: rest) :: k)) cs none (execOp (mk b t d []).eval o) w := by
  have he := mk_eval' (b := b) (t := t) (d := d) (.inRegion ops (i :: rest) :: k)
  simp only [mk] at he
  rcases hd with hd | hd
  · rw [hd] at he
    simp [stepG, stepG.exec, stepG.oper, Frame.oper?, mk, ho, hw, he, hd]
  · simp only [stepG, stepG.exec, stepG.oper, Frame.oper?, mk, ho, Option.map_some, hw, Option.getD_some, if_true, he]
    split
    · exact absurd ‹o.op = _› (hd _)
    · rfl

theorem m_value {ops : Array Oper} {i : Nat} {rest : List Nat} {o : Oper} (ho : ops[i]? = some o) (hw : Region.wanted o (yielded ops t) = true) (hd : b.roundOf = none ∨ ∀ c, o.op ≠ .defer c)
    {v : Value} {w' : World} (hr : (execOp (mk b t d []).eval o).run P w = .ok (.value v) w') :
    step P (lone (mk b t d (.inRegion ops (i :: rest) :: k)) cs w) = .next (lone (mk b (putT t o.dst v) d (.inRegion ops rest :: k)) cs w') := by
  refine step_lone_go ?_
  rw [m_stepG_op ho hw hd]
  have := mk_finish (b := b) (t := t) (d := d) (k := k) ops i rest v
  rw [ho] at this
  simp only [Option.bind_some] at this
  rw [← this]
  simp [stepG.apply, hr]
theorem m_skipped {ops : Array Oper} {i : Nat} {rest : List Nat} {o : Oper} (ho : ops[i]? = some o) (hw : Region.wanted o (yielded ops t) = true) (hd : b.roundOf = none ∨ ∀ c, o.op ≠ .defer c)
    {w' : World} (hr : (execOp (mk b t d []).eval o).run P w = .ok .skip w') :
    step P (lone (mk b t d (.inRegion ops (i :: rest) :: k)) cs w) = .next (lone (mk b (putT t o.dst undef) d (.inRegion ops rest :: k)) cs w') := by
  refine step_lone_go ?_
  rw [m_stepG_op ho hw hd]
  have := mk_finish (b := b) (t := t) (d := d) (k := k) ops i rest undef
  rw [ho] at this
  simp only [Option.bind_some] at this
  rw [← this]
  simp [stepG.apply, hr]
/-- An operation that enters a function. -/
theorem m_enter {ops : Array Oper} {i : Nat} {rest : List Nat} {o : Oper} (ho : ops[i]? = some o) (hw : Region.wanted o (yielded ops t) = true) (hd : b.roundOf = none ∨ ∀ c, o.op ≠ .defer c)
    {f : FuncId} {args : Array Value} {w' : World} (hr : (execOp (mk b t d []).eval o).run P w = .ok (.enter f args) w') :
    step P (lone (mk b t d (.inRegion ops (i :: rest) :: k)) cs w) = .next (lone (Frame.enter P f args .normal) (mk b t d (.inRegion ops (i :: rest) :: k) :: cs) w') := by
  refine step_lone_go ?_
  rw [m_stepG_op ho hw hd]
  simp [stepG.apply, hr]
theorem m_round {ops : Array Oper} {i : Nat} {rest : List Nat} {o : Oper} (ho : ops[i]? = some o) (hw : Region.wanted o (yielded ops t) = true) (hd : b.roundOf = none ∨ ∀ c, o.op ≠ .defer c)
    {l : Nat} {f : FuncId} {tm : Array Value} {as bd : Code} {w' : World} (hr : (execOp (mk b t d []).eval o).run P w = .ok (.round l f tm as bd) w') :
    step P (lone (mk b t d (.inRegion ops (i :: rest) :: k)) cs w) = .next (lone (Frame.round l f tm as bd .normal) (mk b t d (.inRegion ops (i :: rest) :: k) :: cs) w') := by
  refine step_lone_go ?_
  rw [m_stepG_op ho hw hd]
  simp [stepG.apply, hr]
theorem m_defer {ops : Array Oper} {i : Nat} {rest : List Nat} {o : Oper} (ho : ops[i]? = some o) (hw : Region.wanted o (yielded ops t) = true) (hd : b.roundOf = none)
    {df : Deferred} {w' : World} (hr : (execOp (mk b t d []).eval o).run P w = .ok (.defer df) w') :
    step P (lone (mk b t d (.inRegion ops (i :: rest) :: k)) cs w) = .next (lone (mk b (putT t o.dst undef) (df :: d) (.inRegion ops rest :: k)) cs w') := by
  refine step_lone_go ?_
  rw [m_stepG_op ho hw (.inl hd)]
  have := mk_finish (b := b) (t := t) (d := df :: d) (k := k) ops i rest undef
  rw [ho] at this
  simp only [Option.bind_some] at this
  rw [← this]
  simp [stepG.apply, hr]
  rfl
theorem m_panic {ops : Array Oper} {i : Nat} {rest : List Nat} {o : Oper} (ho : ops[i]? = some o) (hw : Region.wanted o (yielded ops t) = true) (hd : b.roundOf = none ∨ ∀ c, o.op ≠ .defer c)
    {v : Value} {w' : World} (hr : (execOp (mk b t d []).eval o).run P w = .halt (.panic v) w') :
    step P (lone (mk b t d (.inRegion ops (i :: rest) :: k)) cs w) = .next (lone { mk b t d (.inRegion ops (i :: rest) :: k) with mode := .panicking [{ v, recovered := false }] } cs w') := by
  refine step_lone_go ?_
  rw [m_stepG_op ho hw hd]
  simp [stepG.apply, hr, Frame.raise]
end moves
end Go.Am
/-! AmS -/
namespace Go.Am

def StRel (ι : Ren) (st : St) (b : Frame) : Prop :=
  b.fn = st.fn ∧ match st.rnd with
    | none => b.roundOf = none
    | some l => ∃ l', ι l = some (l', 0, 0) ∧ b.roundOf = some l'

def RcRel (ι : Ren) (R : Rc) (b : Frame) (cs : List Frame) : Prop :=
  match R with
  | .off => True
  | .nothing => b.kind = .deferred ∧ ∃ c r, cs = c :: r ∧ c.mode = .returning
  | .avail v => b.kind = .deferred ∧ ∃ c r v', cs = c :: r ∧ c.mode = .panicking [{ v := v', recovered := false }] ∧ VRel ι v v'
  | .taken => b.kind = .deferred ∧ ∃ c r v', cs = c :: r ∧ c.mode = .panicking [{ v := v', recovered := true }]

def CsTo (R R' : Rc) (cs cs' : List Frame) : Prop :=
  (cs' = cs ∧ R' = R) ∨ ∃ v c r v', R = .avail v ∧ R' = .taken ∧ cs = c :: r ∧ c.mode = .panicking [{ v := v', recovered := false }] ∧ cs' = { c with mode := .panicking [{ v := v', recovered := true }] } :: r

theorem CsTo.refl (R : Rc) (cs : List Frame) : CsTo R R cs cs := .inl ⟨rfl, rfl⟩
theorem CsTo.trans {R R' R'' : Rc} {cs cs' cs'' : List Frame} (h : CsTo R R' cs cs') (h' : CsTo R' R'' cs' cs'') : CsTo R R'' cs cs'' := by
  rcases h with ⟨rfl, rfl⟩ | ⟨v, c, r, v', h1, h2, h3, h4, h5⟩
  · exact h'
  · rcases h' with ⟨rfl, rfl⟩ | ⟨_, _, _, _, h6, _⟩
    · exact .inr ⟨v, c, r, v', h1, h2, h3, h4, h5⟩
    · rw [h2] at h6; cases h6

theorem StRel.mono {ι κ : Ren} (h : ι.le κ) {st : St} {b : Frame} (hr : StRel ι st b) : StRel κ st b := by
  obtain ⟨fn, n, rnd⟩ := st
  cases rnd with
  | none => exact hr
  | some l => obtain ⟨h0, l', h1, h2⟩ := hr; exact ⟨h0, l', h _ _ h1, h2⟩
theorem RcRel.mono {ι κ : Ren} (h : ι.le κ) {R : Rc} {b : Frame} {cs : List Frame} (hr : RcRel ι R b cs) : RcRel κ R b cs := by
  cases R with
  | avail v => obtain ⟨h0, c, r, v', h1, h2, h3⟩ := hr; exact ⟨h0, c, r, v', h1, h2, h3.mono h⟩
  | _ => exact hr

structure Cf (E : Env) (ι : Ren) (st : St) (b : Frame) (T : Tr AV) (t : Array Value) (D : List ADef) (d : List Deferred) (R : Rc) (cs : List Frame) (H : AHeap) (w : World) : Prop where
  hr : HRel ι H w
  glob : Glob E ι
  sr : StRel ι st b
  T : TRel ι st.n T t
  D : AllRel (DefRel ι) D d
  rc : RcRel ι R b cs

/-- A configuration's parts that no memory is in, behind an extension. -/
theorem Cf.ext {E : Env} {ι κ : Ren} {st : St} {b : Frame} {T : Tr AV} {t : Array Value} {D : List ADef} {d : List Deferred} {R : Rc} {cs : List Frame} {H H' : AHeap} {w w' : World}
    (h : Cf E ι st b T t D d R cs H w) (hr : HRel κ H' w') (he : ι.le κ) : Cf E κ st b T t D d R cs H' w' :=
  ⟨hr, h.glob.mono he, h.sr.mono he, h.T.mono he, h.D.imp fun _ _ x => x.mono he, h.rc.mono he⟩

def Arr (P : Program) (ι : Ren) (m : Machine) (b : Frame) (k : List Item) (cs : List Frame) (e : AExit) (t : Array Value) (d : List Deferred) (w : World) : Prop :=
  match e with
  | .normal => Steps P m (lone (mk b t d k) cs w)
  | .exit id => ∃ k₁, Steps P m (lone (mk b t d (.code (.exit id) :: k₁)) cs w) ∧ exitTo id k₁ = exitTo id k
  | .goto l => ∃ k₁, Steps P m (lone (mk b t d (.code (.goto l) :: k₁)) cs w) ∧ gotoIn l k₁ = gotoIn l k
  | .ret => ∃ k₁, Steps P m (lone (mk b t d (.code .ret :: k₁)) cs w)
  | .panic v => ∃ k₁ v', VRel ι v v' ∧ Steps P m (lone { mk b t d k₁ with mode := .panicking [{ v := v', recovered := false }] } cs w)

theorem Arr.of_steps {P : Program} {ι : Ren} {m m₁ : Machine} {b : Frame} {k : List Item} {cs : List Frame} {e : AExit} {t : Array Value} {d : List Deferred} {w : World} (h : Steps P m m₁)
    (h' : Arr P ι m₁ b k cs e t d w) : Arr P ι m b k cs e t d w := by
  cases e with
  | normal => exact h.trans h'
  | exit id => obtain ⟨k₁, h1, h2⟩ := h'; exact ⟨k₁, h.trans h1, h2⟩
  | goto l => obtain ⟨k₁, h1, h2⟩ := h'; exact ⟨k₁, h.trans h1, h2⟩
  | ret => obtain ⟨k₁, h1⟩ := h'; exact ⟨k₁, h.trans h1⟩
  | panic v => obtain ⟨k₁, v', h0, h1⟩ := h'; exact ⟨k₁, v', h0, h.trans h1⟩

/-- From a machine, some end that the condition allows. -/
def Comes2 (E : Env) (P : Program) (m : Machine) (ι : Ren) (H : AHeap) (w : World) (st : St) (b : Frame) (k : List Item) (R : Rc) (cs : List Frame) (Q : K) : Prop :=
  ∃ e T D R' H' ι' t d cs' w', Q e T D R' H' ∧ Cf E ι' st b T t D d R' cs' H' w' ∧ Ext ι H w ι' H' w' ∧ CsTo R R' cs cs' ∧ Arr P ι' m b k cs' e t d w'

section
variable {E : Env} {P : Program} {m m₁ : Machine} {ι : Ren} {H : AHeap} {w : World} {st : St} {b : Frame} {k : List Item} {R : Rc} {cs : List Frame} {Q : K}

theorem Comes2.of_steps (h : Steps P m m₁) (h' : Comes2 E P m₁ ι H w st b k R cs Q) : Comes2 E P m ι H w st b k R cs Q := by
  obtain ⟨e, T, D, R', H', ι', t, d, cs', w', h1, h2, h3, h4, h5⟩ := h'
  exact ⟨e, T, D, R', H', ι', t, d, cs', w', h1, h2, h3, h4, h5.of_steps h⟩
theorem Comes2.back {κ : Ren} {H1 : AHeap} {w1 : World} {R1 : Rc} {cs1 : List Frame} (he : Ext ι H w κ H1 w1) (hc : CsTo R R1 cs cs1) (h' : Comes2 E P m κ H1 w1 st b k R1 cs1 Q) : Comes2 E P m ι H w st b k R cs Q := by
  obtain ⟨e, T, D, R', H', ι', t, d, cs', w', h1, h2, h3, h4, h5⟩ := h'
  exact ⟨e, T, D, R', H', ι', t, d, cs', w', h1, h2, he.trans h3, hc.trans h4, h5⟩
theorem Comes2.here {T : Tr AV} {t : Array Value} {D : List ADef} {d : List Deferred} {e : AExit} (hq : Q e T D R H) (hc : Cf E ι st b T t D d R cs H w) (ha : Arr P ι m b k cs e t d w) :
    Comes2 E P m ι H w st b k R cs Q := ⟨e, T, D, R, H, ι, t, d, cs, w, hq, hc, .refl _ _ _, .refl _ _, ha⟩
end

def RunOK (E : Env) (P : Program) (st : St) (c : Code) (T : Tr AV) (D : List ADef) (R : Rc) (H : AHeap) (Q : K) : Prop :=
  ∀ ι b t d k cs w, Cf E ι st b T t D d R cs H w → Comes2 E P (lone (mk b t d (.code c :: k)) cs w) ι H w st b k R cs Q

def ScopeOK (E : Env) (P : Program) (st : St) (body c : Code) (T : Tr AV) (D : List ADef) (R : Rc) (H : AHeap) (Q : K) : Prop :=
  ∀ ι b t d k cs w, Cf E ι st b T t D d R cs H w → Comes2 E P (lone (mk b t d (.code c :: .inScope body :: k)) cs w) ι H w st b k R cs Q

def LoopOK (E : Env) (P : Program) (st : St) (c : Code) (T : Tr AV) (D : List ADef) (R : Rc) (H : AHeap) (Q : K) : Prop :=
  ∀ ι b t d k cs w, Cf E ι st b T t D d R cs H w → Comes2 E P (lone (mk b t d (.code c :: .inLoop c :: k)) cs w) ι H w st b k R cs Q

def RetOK (P : Program) (m : Machine) (ι : Ren) (H : AHeap) (w : World) (c : Frame) (cs : List Frame) : Res → Prop
  | .ret v H' => ∃ ι' v' w', HRel ι' H' w' ∧ Ext ι H w ι' H' w' ∧ VRel ι' v v' ∧ Steps P m (lone (c.finish v') cs w')
  | .pan v H' => ∃ ι' v' w', HRel ι' H' w' ∧ Ext ι H w ι' H' w' ∧ VRel ι' v v' ∧ Steps P m (lone (c.raise [{ v := v', recovered := false }]) cs w')

/-- A call of a function begins: what the model does first. -/
inductive Begins (P : Program) (s : Sem Next) (ι : Ren) (H : AHeap) (w : World) (Q : Res → Prop) : Prop
  | enter {g : FuncId} {as : Array Value} : s.run P w = .ok (.enter g as) w → (∀ c cs, ∃ r, Q r ∧ RetOK P (lone (Frame.enter P g as .normal) (c :: cs) w) ι H w c cs r) → Begins P s ι H w Q
  | round {l : Nat} {g : FuncId} {tm : Array Value} {ab bd : Code} : s.run P w = .ok (.round l g tm ab bd) w → (∀ c cs, ∃ r, Q r ∧ RetOK P (lone (Frame.round l g tm ab bd .normal) (c :: cs) w) ι H w c cs r) → Begins P s ι H w Q
  | value {v' : Value} {w' : World} {ι' : Ren} {H' : AHeap} {v : AV} : s.run P w = .ok (.value v') w' → Q (.ret v H') → HRel ι' H' w' → Ext ι H w ι' H' w' → VRel ι' v v' → Begins P s ι H w Q

def CallOK (E : Env) (P : Program) (f : FuncId) (args : List AV) (H : AHeap) (Q : Res → Prop) : Prop :=
  ∀ ι w args', HRel ι H w → Glob E ι → VRels ι args args' → Begins P (callFunc f ⟨args'⟩) ι H w Q

def MRel (ι : Ren) : AMode → FrameMode → Prop
  | .ret, m => m = .returning
  | .pan v, m => ∃ v', VRel ι v v' ∧ m = .panicking [{ v := v', recovered := false }]

def DefsOK (E : Env) (P : Program) (D : List ADef) (m : AMode) (H : AHeap) (Q : AMode → AHeap → Prop) : Prop :=
  ∀ ι (fr : Frame) (M : FrameMode) d cs w, HRel ι H w → Glob E ι → AllRel (DefRel ι) D d → MRel ι m M →
    ∃ m' H' ι' M' w', Q m' H' ∧ HRel ι' H' w' ∧ Ext ι H w ι' H' w' ∧ MRel ι' m' M' ∧ Steps P (lone { fr with defers := d, mode := M } cs w) (lone { fr with defers := [], mode := M' } cs w')

structure FnsOK (E : Env) (P : Program) (F : Fns) : Prop where
  run : ∀ st c T D R H Q, F.run st c T D R H Q → RunOK E P st c T D R H Q
  loop : ∀ st c T D R H Q, F.loop st c T D R H Q → LoopOK E P st c T D R H Q
  scope : ∀ st body c T D R H Q, F.scope st body c T D R H Q → ScopeOK E P st body c T D R H Q
  call : ∀ f args H Q, F.call f args H Q → CallOK E P f args H Q
  defs : ∀ D m H Q, F.defs D m H Q → DefsOK E P D m H Q

section
variable {E : Env} {P : Program} {F : Fns} (hF : FnsOK E P F) {st : St} {T : Tr AV} {D : List ADef} {R : Rc} {H : AHeap} {Q : K}
include hF

theorem seq_ok {x y : Code} (h : F.run st x T D R H fun e T D R H => match e with
      | .normal => F.run st y T D R H Q
      | e => Q e T D R H) : RunOK E P st (.seq x y) T D R H Q := by
  intro ι b t d k cs w hc
  obtain ⟨e, T1, D1, R1, H1, ι1, t1, d1, cs1, w1, hq, hc1, he1, hcs1, ha1⟩ := hF.run _ _ _ _ _ _ _ h ι b t d (.code y :: k) cs w hc
  refine .of_steps (.one m_seq) ?_
  cases e with
  | normal => exact .back he1 hcs1 (.of_steps ha1 (hF.run _ _ _ _ _ _ _ hq ι1 b t1 d1 k cs1 w1 hc1))
  | exit id => exact ⟨_, T1, D1, R1, H1, ι1, t1, d1, cs1, w1, hq, hc1, he1, hcs1, let ⟨k₁, h1, h2⟩ := ha1; ⟨k₁, h1, h2⟩⟩
  | goto l => exact ⟨_, T1, D1, R1, H1, ι1, t1, d1, cs1, w1, hq, hc1, he1, hcs1, let ⟨k₁, h1, h2⟩ := ha1; ⟨k₁, h1, h2⟩⟩
  | ret => exact ⟨_, T1, D1, R1, H1, ι1, t1, d1, cs1, w1, hq, hc1, he1, hcs1, ha1⟩
  | panic v => exact ⟨_, T1, D1, R1, H1, ι1, t1, d1, cs1, w1, hq, hc1, he1, hcs1, ha1⟩

theorem loop_ok {x : Code} (h : stepLoop F st x T D R H Q) : LoopOK E P st x T D R H Q := by
  intro ι b t d k cs w hc
  obtain ⟨e, T1, D1, R1, H1, ι1, t1, d1, cs1, w1, hq, hc1, he1, hcs1, ha1⟩ := hF.run _ _ _ _ _ _ _ h ι b t d (.inLoop x :: k) cs w hc
  cases e with
  | normal => exact .back he1 hcs1 (.of_steps (Steps.trans ha1 (.one m_inLoop)) (hF.loop _ _ _ _ _ _ _ hq ι1 b t1 d1 k cs1 w1 hc1))
  | exit id => exact ⟨_, T1, D1, R1, H1, ι1, t1, d1, cs1, w1, hq, hc1, he1, hcs1, let ⟨k₁, h1, h2⟩ := ha1; ⟨k₁, h1, h2⟩⟩
  | goto l => exact ⟨_, T1, D1, R1, H1, ι1, t1, d1, cs1, w1, hq, hc1, he1, hcs1, let ⟨k₁, h1, h2⟩ := ha1; ⟨k₁, h1, h2⟩⟩
  | ret => exact ⟨_, T1, D1, R1, H1, ι1, t1, d1, cs1, w1, hq, hc1, he1, hcs1, ha1⟩
  | panic v => exact ⟨_, T1, D1, R1, H1, ι1, t1, d1, cs1, w1, hq, hc1, he1, hcs1, ha1⟩

theorem block_ok {id : Nat} {x : Code} (h : F.run st x T D R H fun e T D R H => match e with
      | .exit i => if i = id then Q .normal T D R H else Q (.exit i) T D R H
      | e => Q e T D R H) : RunOK E P st (.block id x) T D R H Q := by
  intro ι b t d k cs w hc
  obtain ⟨e, T1, D1, R1, H1, ι1, t1, d1, cs1, w1, hq, hc1, he1, hcs1, ha1⟩ := hF.run _ _ _ _ _ _ _ h ι b t d (.inBlock id :: k) cs w hc
  refine .of_steps (.one m_block) ?_
  cases e with
  | normal => exact ⟨_, T1, D1, R1, H1, ι1, t1, d1, cs1, w1, hq, hc1, he1, hcs1, Steps.trans ha1 (.one m_inBlock)⟩
  | exit i =>
    obtain ⟨k₁, h1, h2⟩ := ha1
    simp only at hq
    by_cases e : i = id
    · subst e
      rw [if_pos rfl] at hq
      exact ⟨_, T1, D1, R1, H1, ι1, t1, d1, cs1, w1, hq, hc1, he1, hcs1, Steps.trans h1 (.one (m_exit (by rw [h2]; simp [exitTo])))⟩
    · rw [if_neg e] at hq
      exact ⟨_, T1, D1, R1, H1, ι1, t1, d1, cs1, w1, hq, hc1, he1, hcs1, k₁, h1, by rw [h2]; simp [exitTo, Ne.symm e]⟩
  | goto l => exact ⟨_, T1, D1, R1, H1, ι1, t1, d1, cs1, w1, hq, hc1, he1, hcs1, let ⟨k₁, h1, h2⟩ := ha1; ⟨k₁, h1, h2⟩⟩
  | ret => exact ⟨_, T1, D1, R1, H1, ι1, t1, d1, cs1, w1, hq, hc1, he1, hcs1, ha1⟩
  | panic v => exact ⟨_, T1, D1, R1, H1, ι1, t1, d1, cs1, w1, hq, hc1, he1, hcs1, ha1⟩

theorem scope_ok {body x : Code} (h : stepScope F st body x T D R H Q) : ScopeOK E P st body x T D R H Q := by
  intro ι b t d k cs w hc
  obtain ⟨e, T1, D1, R1, H1, ι1, t1, d1, cs1, w1, hq, hc1, he1, hcs1, ha1⟩ := hF.run _ _ _ _ _ _ _ h ι b t d (.inScope body :: k) cs w hc
  cases e with
  | normal => exact ⟨_, T1, D1, R1, H1, ι1, t1, d1, cs1, w1, hq, hc1, he1, hcs1, Steps.trans ha1 (.one m_inScope)⟩
  | exit id => exact ⟨_, T1, D1, R1, H1, ι1, t1, d1, cs1, w1, hq, hc1, he1, hcs1, let ⟨k₁, h1, h2⟩ := ha1; ⟨k₁, h1, h2⟩⟩
  | goto l =>
    obtain ⟨k₁, h1, h2⟩ := ha1
    simp only at hq
    cases hl : findLabel body l with
    | none =>
      rw [hl] at hq
      exact ⟨_, T1, D1, R1, H1, ι1, t1, d1, cs1, w1, hq, hc1, he1, hcs1, k₁, h1, by rw [h2]; simp [gotoIn, hl]⟩
    | some rest =>
      rw [hl] at hq
      refine .back he1 hcs1 (.of_steps (Steps.trans h1 (.one (m_goto (k' := .code rest :: .inScope body :: k) ?_))) (hF.scope _ _ _ _ _ _ _ _ hq ι1 b t1 d1 k cs1 w1 hc1))
      rw [h2]; simp [gotoIn, hl]
  | ret => exact ⟨_, T1, D1, R1, H1, ι1, t1, d1, cs1, w1, hq, hc1, he1, hcs1, ha1⟩
  | panic v => exact ⟨_, T1, D1, R1, H1, ι1, t1, d1, cs1, w1, hq, hc1, he1, hcs1, ha1⟩
end
end Go.Am
/-! AmT -/
namespace Go.Am

section
variable {E : Env} {P : Program} {F : Fns} {st : St} {T : Tr AV} {D : List ADef} {R : Rc} {H : AHeap} {Q : K}

theorem put_rel {ι : Ren} {n : Nat} {t : Array Value} (h : TRel ι n T t) {i : Nat} (hi : i < n) {a : AV} {v : Value} (hv : VRel ι a v) : TRel ι n (T.put i (some a)) (t.setIfInBounds i v) := by
  refine ⟨by simp [h.1], fun j c hj => ?_⟩
  rw [Tr.get_put] at hj
  by_cases e : j = i
  · subst e
    rw [if_pos rfl] at hj; cases hj
    exact ⟨v, by simp [h.1, hi], hv⟩
  · rw [if_neg e] at hj
    obtain ⟨u, hu, hr⟩ := h.2 j c hj
    exact ⟨u, by rw [Array.getElem?_setIfInBounds_ne (Ne.symm e)]; exact hu, hr⟩

/-- A result is put down. -/
theorem setDst_rel {ι : Ren} {n : Nat} {t : Array Value} (h : TRel ι n T t) {dst : Option Tmp} {a : AV} {v : Value} (hv : VRel ι a v) {k : Tr AV → Prop} (hs : setDst n dst a T k) :
    ∃ T', k T' ∧ TRel ι n T' (putT t dst v) := by
  cases dst with
  | none => exact ⟨T, hs, h⟩
  | some i =>
    simp only [setDst] at hs
    split at hs
    · rename_i hb
      exact ⟨_, hs, put_rel h (Nat.le_of_ble_eq_true hb) hv⟩
    · exact hs.elim

/-- How the slots stand behind an operation, on both of two ways of knowing them. -/
def After (dst : Option Tmp) (e : AExit) (T Td T0 T1 : Tr AV) : Prop :=
  match e, dst with
  | .normal, some d => ∃ v, T0 = T.put d (some v) ∧ T1 = Td.put d (some v)
  | _, _ => T0 = T ∧ T1 = Td

theorem setDst_rel2 {Td : Tr AV} {ι : Ren} {n : Nat} {t : Array Value} (h : TRel ι n Td t) {dst : Option Tmp} {a : AV} {v : Value} (hv : VRel ι a v) {k : Tr AV → Prop} (hs : setDst n dst a T k) :
    ∃ T0 T1, k T0 ∧ After dst .normal T Td T0 T1 ∧ TRel ι n T1 (putT t dst v) := by
  cases dst with
  | none => exact ⟨T, Td, hs, ⟨rfl, rfl⟩, h⟩
  | some i =>
    simp only [setDst] at hs
    split at hs
    · rename_i hb
      exact ⟨_, _, hs, ⟨a, rfl, rfl⟩, put_rel h (Nat.le_of_ble_eq_true hb) hv⟩
    · exact hs.elim

theorem undef_rel (ι : Ren) : VRel ι undefA undef := ⟨[], rfl, rfl⟩

theorem wanted_sound {ι : Ren} {n : Nat} {t : Array Value} (h : TRel ι n T t) {ops : Array Oper} {o : Oper} {r : Bool} (hw : aWanted ops T o = some r) : Region.wanted o (yielded ops t) = r := by
  unfold aWanted at hw
  unfold Region.wanted
  cases hg : o.guard with
  | none => rw [hg] at hw; simp only at hw ⊢; cases hw; rfl
  | some jw =>
    obtain ⟨j, want⟩ := jw
    rw [hg] at hw
    simp only at hw ⊢
    split at hw
    · rename_i q hq
      rw [Array.getElem?_toList] at hq
      split at hw
      · rename_i d hd
        have hy : yielded ops t j = match t[d]? with | some (.bool b) => some b | _ => none := by
          unfold yielded
          rw [hq]
          simp only [Option.bind_some, hd]
          rfl
        split at hw
        · rename_i b hb
          cases hw
          obtain ⟨v, hv, hr⟩ := h.2 d _ hb
          simp only [VRel] at hr; subst hr
          rw [hy, hv]
          cases b <;> cases want <;> rfl
        · rename_i hb
          cases hw
          obtain ⟨v, hv, hr⟩ := h.2 d _ hb
          obtain ⟨cs, hcs, rfl⟩ := hr
          rw [hy, hv]
          cases want <;> rfl
        · cases hw
      · cases hw
    · cases hw

/-- Where an operation of a region leaves its frame: behind it, or by a panic. -/
def OpOK (E : Env) (P : Program) (st : St) (o : Oper) (T : Tr AV) (D : List ADef) (R : Rc) (H : AHeap) (Q : K) : Prop :=
  ∀ ι b t d (ops : Array Oper) i rest k cs w, Cf E ι st b T t D d R cs H w → ops[i]? = some o → Region.wanted o (yielded ops t) = true →
    Comes2 E P (lone (mk b t d (.inRegion ops (i :: rest) :: k)) cs w) ι H w st b (.inRegion ops rest :: k) R cs Q

theorem cf_ev {ι : Ren} {b : Frame} {t : Array Value} {d : List Deferred} {cs : List Frame} {w : World} (h : Cf E ι st b T t D d R cs H w) : EvRel E ι T (mk b t d []).eval :=
  EvRel.of h.glob h.T _ rfl

/-- What is needed of calls of function values. -/
def InvOK (E : Env) (P : Program) (f : AV) (args : List AV) (H : AHeap) (Q : Res → Prop) : Prop :=
  ∀ ι w v args', HRel ι H w → Glob E ι → VRel ι f v → VRels ι args args' → ∃ fn first cap, v = .func fn first cap ∧
    Begins P (invoke (.fn fn cap) (first ++ ⟨args'⟩)) ι H w Q

theorem mk_raise {b : Frame} {t : Array Value} {d : List Deferred} {todo : List Item} {v : Value} : (mk b t d todo).raise [{ v, recovered := false }] = { mk b t d todo with mode := .panicking [{ v, recovered := false }] } := rfl

/-- From a machine, some end that the condition allows; the slots on two ways of knowing them. -/
def Comes3 (E : Env) (P : Program) (m : Machine) (ι : Ren) (H : AHeap) (w : World) (st : St) (b : Frame) (k : List Item) (R : Rc) (cs : List Frame) (dst : Option Tmp) (T Td : Tr AV) (Q : K) : Prop :=
  ∃ e T0 T1 D R' H' ι' t d cs' w', Q e T0 D R' H' ∧ After dst e T Td T0 T1 ∧ Cf E ι' st b T1 t D d R' cs' H' w' ∧ Ext ι H w ι' H' w' ∧ CsTo R R' cs cs' ∧ Arr P ι' m b k cs' e t d w'

theorem Comes3.here {m : Machine} {ι : Ren} {w : World} {b : Frame} {k : List Item} {cs : List Frame} {dst : Option Tmp} {T Td T0 T1 : Tr AV} {t : Array Value} {d : List Deferred} {e : AExit} (hq : Q e T0 D R H) (haf : After dst e T Td T0 T1) (hc : Cf E ι st b T1 t D d R cs H w) (ha : Arr P ι m b k cs e t d w) :
    Comes3 E P m ι H w st b k R cs dst T Td Q := ⟨e, T0, T1, D, R, H, ι, t, d, cs, w, hq, haf, hc, .refl _ _ _, .refl _ _, ha⟩

theorem op_ok2 (hE : E.OK P) (hI : ∀ f args H Q, runInvoke E F f args H Q → InvOK E P f args H Q) {o : Oper} {Td : Tr AV} (hag : Agree E T Td o.op) (h : runOp E F st o T D R H Q)
    {ι : Ren} {b : Frame} {t : Array Value} {d : List Deferred} {ops : Array Oper} {i : Nat} {rest : List Nat} {k : List Item} {cs : List Frame} {w : World} (hc : Cf E ι st b Td t D d R cs H w) (ho : ops[i]? = some o)
    (hw : Region.wanted o (yielded ops t) = true) : Comes3 E P (lone (mk b t d (.inRegion ops (i :: rest) :: k)) cs w) ι H w st b (.inRegion ops rest :: k) R cs o.dst T Td Q := by
  have hev := cf_ev hc
  have hdst : ∀ v, (mk b t d (.inRegion ops (i :: rest) :: k)).finish v = mk b (putT t o.dst v) d (.inRegion ops rest :: k) := by
    intro v; have := mk_finish (b := b) (t := t) (d := d) (k := k) ops i rest v; rw [ho] at this; exact this
  unfold runOp at h
  rw [aVal_agree hag, aEff_agree hag] at h
  cases hv : aVal E Td H o.op with
  | some a =>
    rw [hv] at h
    have hnd : ∀ c, o.op ≠ .defer c := by intro c e; rw [e] at hv; simp [aVal] at hv
    obtain ⟨v, hrun, hr⟩ := aVal_sound hE hc.hr hev hv
    obtain ⟨T0, T', hq, haf, hT⟩ := setDst_rel2 hc.T hr h
    exact .here hq haf ⟨hc.hr, hc.glob, hc.sr, hT, hc.D, hc.rc⟩ (.one (m_value ho hw (.inr hnd) hrun))
  | none =>
    rw [hv] at h
    simp only at h
    cases hf : aEff E Td H o.op with
    | some p =>
      obtain ⟨a, H'⟩ := p
      rw [hf] at h
      have hnd : ∀ c, o.op ≠ .defer c := by intro c e; rw [e] at hf; simp [aEff] at hf
      obtain ⟨κ, nx, w', hrun, hor, hr', hext⟩ := aEff_sound hE hc.hr hev hf
      have hc' := hc.ext hr' hext.le
      rcases hor with ⟨v, rfl, hvr⟩ | ⟨rfl, rfl⟩
      · obtain ⟨T0, T', hq, haf, hT⟩ := setDst_rel2 hc'.T hvr h
        exact ⟨_, T0, T', D, R, H', κ, _, d, cs, w', hq, haf, ⟨hr', hc'.glob, hc'.sr, hT, hc'.D, hc'.rc⟩, hext, .refl _ _, .one (m_value ho hw (.inr hnd) hrun)⟩
      · obtain ⟨T0, T', hq, haf, hT⟩ := setDst_rel2 hc'.T (undef_rel κ) h
        exact ⟨_, T0, T', D, R, H', κ, _, d, cs, w', hq, haf, ⟨hr', hc'.glob, hc'.sr, hT, hc'.D, hc'.rc⟩, hext, .refl _ _, .one (m_skipped ho hw (.inr hnd) hrun)⟩
    | none =>
      rw [hf] at h
      simp only at h
      split at h
      · -- a call
        rename_i c hop
        have hnd : ∀ c, o.op ≠ .defer c := by intro c e; rw [hop] at e; cases e
        split at h
        · rename_i f hcal
          split at h
          · rename_i g as hg has
            have hopd : ∀ x ∈ (#[f] ++ c.args : Array Operand).toList, aEval E T x = aEval E Td x := by
              intro x hx; refine hag x ?_; rw [hop]; simp only [Op.operands, Call.operands, hcal]; exact hx
            have hfv := hev f g (by rw [← hopd f (by simp)]; exact hg)
            have hav := hev.all (by rw [← aEvals_agree (xs := c.args.toList) fun x hx => hopd x (by simp only [Array.toList_append, List.mem_append]; exact .inr hx)]; exact has)
            obtain ⟨fn, first, cap, hfe, hinv⟩ := hI g as H _ h ι w _ _ hc.hr hc.glob hfv hav
            have hexec : (execOp (mk b t d []).eval o).run P w = (invoke (.fn fn cap) (first ++ ⟨c.args.toList.map (mk b t d []).eval⟩)).run P w := by
              obtain ⟨callee, args, at'⟩ := c
              simp only at hcal; subst hcal
              unfold execOp
              rw [hop]
              simp only [resolve, Sem.run_bind, hfe, Deferred.ofValue, Sem.run_pure, Result.andThen_ok]
              congr 2
              apply Array.ext'; simp
            have fin : ∀ m, Steps P (lone (mk b t d (.inRegion ops (i :: rest) :: k)) cs w) m →
                (∃ r, backCall st.n o.dst T D R Q r ∧ RetOK P m ι H w (mk b t d (.inRegion ops (i :: rest) :: k)) cs r) →
                Comes3 E P (lone (mk b t d (.inRegion ops (i :: rest) :: k)) cs w) ι H w st b (.inRegion ops rest :: k) R cs o.dst T Td Q := by
              rintro m hs ⟨r, hq, hret⟩
              cases r with
              | ret v H' =>
                obtain ⟨κ, v', w', hr', hext, hvr, hst⟩ := hret
                have hc' := hc.ext hr' hext.le
                obtain ⟨T0, T', hq', haf, hT⟩ := setDst_rel2 (k := fun T => Q .normal T D R H') hc'.T hvr hq
                rw [hdst] at hst
                exact ⟨_, T0, T', D, R, H', κ, _, d, cs, w', hq', haf, ⟨hr', hc'.glob, hc'.sr, hT, hc'.D, hc'.rc⟩, hext, .refl _ _, hs.trans hst⟩
              | pan v H' =>
                obtain ⟨κ, v', w', hr', hext, hvr, hst⟩ := hret
                have hc' := hc.ext hr' hext.le
                rw [mk_raise] at hst
                exact ⟨_, T, Td, D, R, H', κ, t, d, cs, w', hq, ⟨rfl, rfl⟩, hc', hext, .refl _ _, _, v', hvr, hs.trans hst⟩
            cases hinv with
            | enter hrun hback => exact fin _ (.one (m_enter ho hw (.inr hnd) (hexec.trans hrun))) (hback _ cs)
            | round hrun hback => exact fin _ (.one (m_round ho hw (.inr hnd) (hexec.trans hrun))) (hback _ cs)
            | value hrun hq hr' hext hvr =>
              have hc' := hc.ext hr' hext.le
              obtain ⟨T0, T', hq', haf, hT⟩ := setDst_rel2 (k := fun T => Q .normal T D R _) hc'.T hvr hq
              exact ⟨_, T0, T', D, R, _, _, _, d, cs, _, hq', haf, ⟨hr', hc'.glob, hc'.sr, hT, hc'.D, hc'.rc⟩, hext, .refl _ _, .one (m_value ho hw (.inr hnd) (hexec.trans hrun))⟩
          · exact h.elim
        · -- recover
          rename_i hcal
          have hexec : (execOp (mk b t d []).eval o).run P w = .ok .recover w := by
            obtain ⟨callee, args, at'⟩ := c
            simp only at hcal; subst hcal
            unfold execOp
            rw [hop]
            simp only [resolve, Sem.run_bind, Sem.run_pure, Result.andThen_ok, invoke, builtin]
          split at h
          · rename_i hrnd
            obtain ⟨hkind, c0, r0, hcs, hmode⟩ := hc.rc
            have hround : b.roundOf = none := by have := hc.sr.2; rw [hrnd] at this; exact this
            obtain ⟨T0, T', hq, haf, hT⟩ := setDst_rel2 hc.T (a := .nilIface) (v := .nilIface) rfl h
            refine .here hq haf ⟨hc.hr, hc.glob, hc.sr, hT, hc.D, hc.rc⟩ (.one (step_lone_go ?_))
            rw [m_stepG_op ho hw (.inr hnd), ← hdst]
            subst hcs
            simp [stepG.apply, hexec, hround, tryRecover, hkind, hmode]
          · rename_i v hrnd
            obtain ⟨hkind, c0, r0, v', hcs, hmode, hvr⟩ := hc.rc
            have hround : b.roundOf = none := by have := hc.sr.2; rw [hrnd] at this; exact this
            obtain ⟨T0, T', hq, haf, hT⟩ := setDst_rel2 hc.T hvr h
            refine ⟨_, T0, T', D, .taken, H, ι, _, d, { c0 with mode := .panicking [{ v := v', recovered := true }] } :: r0, w, hq, haf, ⟨hc.hr, hc.glob, hc.sr, hT, hc.D, ⟨hkind, _, _, v', rfl, rfl⟩⟩, .refl _ _ _,
              .inr ⟨v, c0, r0, v', rfl, rfl, hcs, hmode, rfl⟩, .one (step_lone_go ?_)⟩
            rw [m_stepG_op ho hw (.inr hnd), ← hdst]
            subst hcs
            simp [stepG.apply, hexec, hround, tryRecover, hkind, hmode]
          · exact h.elim
        · exact h.elim
      · -- defer
        rename_i c hop
        split at h
        · rename_i f hcal hrnd
          have hround : b.roundOf = none := by have := hc.sr.2; rw [hrnd] at this; exact this
          split at h
          · rename_i g first cap as hg has
            have hopd : ∀ x ∈ (#[f] ++ c.args : Array Operand).toList, aEval E T x = aEval E Td x := by
              intro x hx; refine hag x ?_; rw [hop]; simp only [Op.operands, Call.operands, hcal]; exact hx
            obtain ⟨fn', f', c', h1, h2, h3, hfe⟩ := hev f _ (by rw [← hopd f (by simp)]; exact hg)
            simp only [FnRel] at h1; subst h1
            have hav := hev.all (by rw [← aEvals_agree (xs := c.args.toList) fun x hx => hopd x (by simp only [Array.toList_append, List.mem_append]; exact .inr hx)]; exact has)
            have hexec : (execOp (mk b t d []).eval o).run P w = .ok (.defer { target := .fn (.func g) ⟨c'⟩, args := ⟨f'⟩ ++ ⟨c.args.toList.map (mk b t d []).eval⟩ }) w := by
              obtain ⟨callee, args, at'⟩ := c
              simp only at hcal; subst hcal
              unfold execOp
              rw [hop]
              simp only [resolve, Sem.run_bind, hfe, Deferred.ofValue, Sem.run_pure, Result.andThen_ok]
              congr 3
              apply Array.ext'; simp
            obtain ⟨T0, T', hq, haf, hT⟩ := setDst_rel2 hc.T (undef_rel ι) h
            refine .here hq haf ⟨hc.hr, hc.glob, hc.sr, hT, .cons ?_ hc.D, hc.rc⟩ (.one (m_defer ho hw hround hexec))
            exact ⟨.func g, c', f' ++ c.args.toList.map (mk b t d []).eval, rfl, h3, h2.append hav, by simp⟩
          · exact h.elim
        · exact h.elim
      · -- a step of a range over a map
        rename_i x hop
        have hnd : ∀ c, o.op ≠ .defer c := by intro c e; rw [hop] at e; cases e
        split at h
        · rename_i a ha
          split at h
          · rename_i l hl
            have hx := hev x a (by rw [← hag x (by rw [hop]; simp [Op.operands])]; exact ha)
            obtain ⟨y, H', u, w', hmem, hrun, hvr, hr', hext⟩ := aNext_sound (P := P) hc.hr hx (ty := o.type) hl
            have hexec : (execOp (mk b t d []).eval o).run P w = .ok (.value u) w' := by
              unfold execOp
              rw [hop]
              simp only [Sem.run_bind, hrun, Result.andThen_ok, Sem.run_pure]
            have hc' := hc.ext hr' hext.le
            obtain ⟨T0, T', hq, haf, hT⟩ := setDst_rel2 hc'.T hvr (h _ hmem)
            exact ⟨_, T0, T', D, R, H', ι, _, d, cs, w', hq, haf, ⟨hr', hc'.glob, hc'.sr, hT, hc'.D, hc'.rc⟩, hext, .refl _ _, .one (m_value ho hw (.inr hnd) hexec)⟩
          · exact h.elim
        · exact h.elim
      · -- panic
        rename_i x hop
        have hnd : ∀ c, o.op ≠ .defer c := by intro c e; rw [hop] at e; cases e
        split at h
        · rename_i ty v hx
          obtain ⟨v', hvr, hxe⟩ := hev x _ (by rw [← hag x (by rw [hop]; simp [Op.operands])]; exact hx)
          have hexec : (execOp (mk b t d []).eval o).run P w = .halt (.panic (.iface ty v')) w := by
            unfold execOp
            rw [hop]
            simp only [hxe, Instr.panic, Sem.run_bind, run_goPanic, Result.andThen_halt]
          exact .here h ⟨rfl, rfl⟩ hc ⟨_, _, ⟨v', hvr, rfl⟩, .one (m_panic ho hw (.inr hnd) hexec)⟩
        · exact h.elim
      · exact h.elim
theorem After.same {dst : Option Tmp} {e : AExit} {T T0 T1 : Tr AV} (h : After dst e T T T0 T1) : T0 = T1 := by
  cases e <;> cases dst <;> first | (obtain ⟨rfl, rfl⟩ := h; rfl) | (obtain ⟨v, rfl, rfl⟩ := h; rfl)

theorem op_ok (hE : E.OK P) (hI : ∀ f args H Q, runInvoke E F f args H Q → InvOK E P f args H Q) {o : Oper} (h : runOp E F st o T D R H Q) : OpOK E P st o T D R H Q := by
  intro ι b t d ops i rest k cs w hc ho hw
  obtain ⟨e, T0, T1, D', R', H', ι', t', d', cs', w', hq, haf, h1, h2, h3, h4⟩ := op_ok2 hE hI (Td := T) (fun _ _ => rfl) h hc ho hw
  have := haf.same
  subst this
  exact ⟨e, T0, D', R', H', ι', t', d', cs', w', hq, h1, h2, h3, h4⟩
end
end Go.Am
/-! AmU -/
namespace Go.Am

section
variable {E : Env} {P : Program} {F : Fns} {st : St} {T : Tr AV} {D : List ADef} {R : Rc} {H : AHeap} {Q : K}

theorem Arr.inRegion {ι : Ren} {m : Machine} {b : Frame} {k : List Item} {cs : List Frame} {e : AExit} {t : Array Value} {d : List Deferred} {w : World} {ops : Array Oper} {is : List Nat}
    (h : Arr P ι m b (.inRegion ops is :: k) cs e t d w) (he : e ≠ .normal) : Arr P ι m b k cs e t d w := by
  cases e with
  | normal => exact absurd rfl he
  | exit id => obtain ⟨k₁, h1, h2⟩ := h; exact ⟨k₁, h1, by rw [h2]; simp [exitTo]⟩
  | goto l => obtain ⟨k₁, h1, h2⟩ := h; exact ⟨k₁, h1, by rw [h2]; simp [gotoIn]⟩
  | ret => exact h
  | panic v => exact h

theorem ops_ok (hE : E.OK P) (hI : ∀ f args H Q, runInvoke E F f args H Q → InvOK E P f args H Q) (ops : Array Oper) :
    ∀ (rest done : List Oper), ops.toList = done ++ rest → ∀ {T : Tr AV} {D : List ADef} {R : Rc} {H : AHeap} {Q : K}, runOps E F st ops rest T D R H Q →
      ∀ ι b t d k cs w, Cf E ι st b T t D d R cs H w → Comes2 E P (lone (mk b t d (.inRegion ops (List.range' done.length rest.length) :: k)) cs w) ι H w st b k R cs Q := by
  intro rest
  induction rest with
  | nil =>
    intro done _ T D R H Q h ι b t d k cs w hc
    exact .here h hc (.one m_region_end)
  | cons o rest ih =>
    intro done hd T D R H Q h ι b t d k cs w hc
    have ho : ops[done.length]? = some o := by rw [← Array.getElem?_toList, hd]; simp
    have hd' : ops.toList = (done ++ [o]) ++ rest := by simp [hd]
    rw [List.length_cons, List.range'_succ]
    simp only [runOps] at h
    split at h
    · rename_i hw
      have hw := wanted_sound hc.T hw
      obtain ⟨e, T1, D1, R1, H1, ι1, t1, d1, cs1, w1, hq, hc1, he1, hcs1, ha1⟩ := op_ok hE hI h ι b t d ops done.length (List.range' (done.length + 1) rest.length) k cs w hc ho hw
      by_cases en : e = .normal
      · subst en
        have := ih (done ++ [o]) hd' hq ι1 b t1 d1 k cs1 w1 hc1
        rw [List.length_append] at this
        exact .back he1 hcs1 (.of_steps ha1 this)
      · refine ⟨e, T1, D1, R1, H1, ι1, t1, d1, cs1, w1, ?_, hc1, he1, hcs1, ha1.inRegion en⟩
        cases e <;> first | exact absurd rfl en | exact hq
    · rename_i hw
      have hw := wanted_sound hc.T hw
      obtain ⟨T', hq, hT⟩ := setDst_rel hc.T (undef_rel ι) h
      have hs : step P (lone (mk b t d (.inRegion ops (done.length :: List.range' (done.length + 1) rest.length) :: k)) cs w) = .next (lone (mk b (putT t o.dst undef) d (.inRegion ops (List.range' (done.length + 1) rest.length) :: k)) cs w) := by
        have := m_op_skip (P := P) (b := b) (t := t) (d := d) (k := k) (cs := cs) (w := w) (ops := ops) (i := done.length) (rest := List.range' (done.length + 1) rest.length) (by rw [ho]; simp [hw])
        rw [ho] at this; exact this
      have := ih (done ++ [o]) hd' hq ι b _ d k cs w ⟨hc.hr, hc.glob, hc.sr, hT, hc.D, hc.rc⟩
      rw [List.length_append] at this
      exact .of_steps (.one hs) this
    · exact h.elim

theorem region_ok (hE : E.OK P) (hI : ∀ f args H Q, runInvoke E F f args H Q → InvOK E P f args H Q) {id : Nat} {ops : Array Oper} (h : runOps E F st ops ops.toList T D R H Q) :
    RunOK E P st (.region id ops false) T D R H Q := by
  intro ι b t d k cs w hc
  have := ops_ok hE hI ops ops.toList [] rfl h ι b t d k cs w hc
  rw [List.length_nil, ← List.range_eq_range', Array.length_toList] at this
  exact .of_steps (.one m_region) this

/-! Rounds. -/
theorem m_beginRound {b : Frame} {t : Array Value} {d : List Deferred} {k : List Item} {cs : List Frame} {w : World} {l : Nat} {r : Loop} (hb : b.roundOf = some l) (h : w.heap[l]? = some (.loop r)) (hr : r.state = .ready) :
    step P (lone (mk b t d (.beginRound :: k)) cs w) = .next (lone (mk b t d k) cs (w.putObj l (.loop { r with state := .busy }))) := by
  refine step_lone_go ?_
  simp [stepG, stepG.exec, stepG.apply, mk, hb, run_beginRound h hr, Frame.finish]

theorem m_roundEnd {b : Frame} {t : Array Value} {k : List Item} {c : Frame} {cs : List Frame} {w : World} {l : Nat} {r : Loop} {e : AExit} (hb : b.roundOf = some l) (hk : b.kind = .normal) (h : w.heap[l]? = some (.loop r))
    {jump : Option Code} (hj : (k = [] ∧ jump = none) ∨ (∃ k', k = .code .ret :: k' ∧ jump = some .ret) ∨ (∃ id k', k = .code (.exit id) :: k' ∧ exitTo id k' = none ∧ jump = some (.exit id)) ∨ (∃ g k', k = .code (.goto g) :: k' ∧ gotoIn g k' = none ∧ jump = some (.goto g))) :
    step P (lone (mk b t [] k) (c :: cs) w) = .next (lone (c.finish (.bool jump.isNone)) cs (w.putObj l (.loop { r with state := if jump.isNone then .ready else .done, pending := jump }))) := by
  refine step_lone_go ?_
  rcases hj with ⟨rfl, rfl⟩ | ⟨k', rfl, rfl⟩ | ⟨id, k', rfl, hx, rfl⟩ | ⟨g, k', rfl, hx, rfl⟩
  · simp [stepG, stepG.exec, mk, hb, run_endRound none h, doReturn, hk]
  · simp [stepG, stepG.exec, mk, hb, run_endRound (some .ret) h, doReturn, hk]
  · simp [stepG, stepG.exec, mk, hb, hx, run_endRound (some (.exit id)) h, doReturn, hk]
  · simp [stepG, stepG.exec, mk, hb, hx, run_endRound (some (.goto g)) h, doReturn, hk]

theorem m_panicked {b : Frame} {t : Array Value} {k : List Item} {c : Frame} {cs : List Frame} {w : World} {chain : List PanicEntry} {fn : Func} (hf : P.funcs[b.fn]? = some fn) :
    step P (lone { mk b t [] k with mode := .panicking chain } (c :: cs) w) = .next (lone (c.raise chain) cs w) :=
  step_lone_go (by simp [stepG, unwind, Frame.catches, mk, hf])

/-- A loop's record is written. -/
theorem HRel.putLoop {ι : Ren} {w : World} (hr : HRel ι H w) {l l' : Nat} {r : ALoop} {r' : Loop} (hl : H.get l = some (.loop r)) (hi : ι l = some (l', 0, 0)) (hw : w.heap[l']? = some (.loop r')) {r2 : ALoop} {r2' : Loop} (hrel : LoopRel ι r2 r2') :
    HRel ι (H.upd l (.loop r2)) (w.putObj l' (.loop r2')) ∧ Ext ι H w ι (H.upd l (.loop r2)) (w.putObj l' (.loop r2')) := by
  have hlt : l' < w.heap.size := hr.ran _ _ _ hi
  exact hr.upd hl hi (World.putObj_heap_same hlt) World.putObj_size (fun c hc => World.putObj_heap_other hc) ⟨rfl, _, rfl, hrel⟩ ⟨rfl, rfl, rfl⟩

theorem HRel.loop {ι : Ren} {w : World} (hr : HRel ι H w) {l : Nat} {r : ALoop} (hl : H.get l = some (.loop r)) {b : Nat} (hb : ι l = some (b, 0, 0)) : ∃ l' r', ι l = some (l', 0, 0) ∧ w.heap[l']? = some (.loop r') ∧ LoopRel ι r r' := by
  obtain ⟨b', s, o', hi, hw, ho⟩ := hr.obj l _ _ _ hl hb
  obtain ⟨rfl, r', rfl, hrel⟩ := ho
  exact ⟨b', r', hi, hw, hrel⟩

theorem fold_rel {ι : Ren} {n : Nat} : ∀ (ps : List Tmp) (as : List AV) (vs : List Value) (T : Tr AV) (t : Array Value), TRel ι n T t → VRels ι as vs → ps.all (fun p => Nat.blt p n) = true →
    TRel ι n ((ps.zip as).foldl (fun T p => T.put p.1 (some p.2)) T) ((ps.zip vs).foldl (fun t p => t.setIfInBounds p.1 p.2) t)
  | [], _, _, _, _, h, _, _ => by simpa using h
  | p :: ps, [], vs, T, t, h, hv, _ => by cases hv; simpa using h
  | p :: ps, a :: as, vs, T, t, h, hv, hb => by
    obtain ⟨v, vs', rfl, h1, h2⟩ := hv
    simp only [List.all_cons, Bool.and_eq_true] at hb
    simp only [List.zip_cons_cons, List.foldl_cons]
    exact fold_rel ps as vs' _ _ (put_rel h (Nat.le_of_ble_eq_true hb.1) h1) h2 hb.2
end
end Go.Am
/-! AmDr -/
namespace Go.Am

section
variable {E : Env} {P : Program} {F : Fns} {st : St} {ops : Array Oper}

theorem agree_of {T T' : Tr AV} {o : Op} (h : ∀ u ∈ opTmps o, T.get u = T'.get u) : Agree E T T' o := by
  intro x hx
  cases x with
  | tmp t => simp only [aEval]; exact h t (List.mem_filterMap.2 ⟨_, hx, rfl⟩)
  | _ => rfl

theorem wanted_agree {T T' : Tr AV} {o : Oper} (h : ∀ u ∈ guardTmps ops.toList o, T.get u = T'.get u) : aWanted ops T o = aWanted ops T' o := by
  unfold aWanted
  unfold guardTmps at h
  cases hg : o.guard with
  | none => rfl
  | some jw =>
    obtain ⟨j, want⟩ := jw
    simp only [hg] at h ⊢
    cases hq : ops.toList[j]? with
    | none => rfl
    | some q =>
      simp only [hq] at h ⊢
      cases hd : q.dst with
      | none => rfl
      | some d =>
        simp only
        rw [h d (by simp [hd])]

/-- The slots that these operations write. -/
def dstsOf (ops : List Oper) (l : List Nat) : List Tmp := l.filterMap fun x => (ops[x]?).bind (·.dst)

noncomputable def dropT : List Tmp → Tr AV → Tr AV
  | [], T => T
  | u :: us, T => (dropT us T).put u none

theorem dropT_get : ∀ (us : List Tmp) (T : Tr AV) (u : Tmp), (dropT us T).get u = if u ∈ us then none else T.get u
  | [], T, u => by simp [dropT]
  | v :: us, T, u => by
    rw [dropT, Tr.get_put, dropT_get us T u]
    by_cases e : u = v
    · subst e; simp
    · simp [e]

theorem forget_get : ∀ (os : List Oper) (T : Tr AV) (u : Tmp), (forget os T).get u = if u ∈ os.filterMap (·.dst) then none else T.get u
  | [], T, u => by simp [forget]
  | o :: os, T, u => by
    cases hd : o.dst with
    | none =>
      simp only [forget, hd]
      rw [forget_get os T u]; simp [hd]
    | some d =>
      simp only [forget, hd, Tr.get_put]
      rw [forget_get os T u]
      by_cases e : u = d
      · subst e; simp [hd]
      · simp [hd, e]

/-- What is known of an operation that the abstract machine has done and the model has not. -/
def Pending (E : Env) (n : Nat) (ops : Array Oper) (T : Tr AV) (H : AHeap) (ι : Ren) (low : Nat) (B : Option Nat) (x : Nat) : Prop :=
  ∃ o d, ops.toList[x]? = some o ∧ o.dst = some d ∧ d < n ∧ match B with
    | none => (aWanted ops T o = some false ∧ T.get d = some undefA) ∨ (aWanted ops T o = some true ∧ ∃ a, T.get d = some a ∧ aVal E T H o.op = some a)
    | some b => aWanted ops T o = some true ∧ ∃ y ob, T.get d = some y ∧ aNew E T b o.op = some (y, ob) ∧ H.get b = some ob ∧ ι b = none ∧ low ≤ b

structure Mid (E : Env) (ops : Array Oper) (p : Plan) (st : St) (C : Nat → Bool) (pre post : List Nat) (rest : List PStep) (T : Tr AV) (t : Array Value) (H : AHeap) (ι : Ren) (w : World) (H0 : AHeap) (ι0 : Ren) (w0 : World) (B : Nat → Option Nat) : Prop where
  flat : p.first ++ flatSteps p.steps = pre ++ post
  tail : ∃ done, p.steps = done ++ rest
  doneC : ∀ x, C x = true → x ∈ pre
  closed : ∀ i, C i = true → ∀ o, ops.toList[i]? = some o → ∀ j ∈ preds o, C j = true
  effs : ∀ s ∈ p.steps, s.eff ∈ pre → C s.eff = true
  pend : ∀ x ∈ pre, C x = false → Pending E st.n ops T H ι H0.next (B x) x
  inj : ∀ x y b, x ∈ pre → y ∈ pre → C x = false → C y = false → B x = some b → B y = some b → x = y
  T : TRel ι st.n (dropT (dstsOf ops.toList (pre.filter fun x => !C x)) T) t
  hr : HRel ι H w
  ext : Ext ι0 H0 w0 ι H w

theorem mem_dsts {l : List Nat} {u : Tmp} (h : u ∈ dstsOf ops.toList l) : ∃ x ∈ l, ∃ o, ops.toList[x]? = some o ∧ o.dst = some u := by
  obtain ⟨x, hx, hd⟩ := List.mem_filterMap.1 h
  cases ho : ops.toList[x]? with
  | none => rw [ho] at hd; cases hd
  | some o => rw [ho] at hd; exact ⟨x, hx, o, ho, hd⟩
theorem dsts_mem {l : List Nat} {x : Nat} {o : Oper} {u : Tmp} (hx : x ∈ l) (ho : ops.toList[x]? = some o) (hd : o.dst = some u) : u ∈ dstsOf ops.toList l :=
  List.mem_filterMap.2 ⟨x, hx, by rw [ho]; exact hd⟩

section
variable {p : Plan} (hp : PlanOK ops.toList p) {C : Nat → Bool} {pre post : List Nat} {rest : List PStep} {T : Tr AV} {t : Array Value} {H : AHeap} {ι : Ren} {w : World} {H0 : AHeap} {ι0 : Ren} {w0 : World} {B : Nat → Option Nat}
include hp

/-- Of an operation about to be done, what it sees is not among what is left over. -/
theorem Mid.sees (hm : Mid E ops p st C pre post rest T t H ι w H0 ι0 w0 B) {x : Nat} {o : Oper} (ho : ops.toList[x]? = some o) (hpr : ∀ j ∈ preds o, C j = true) (hx : (∃ s ∈ p.steps, s.eff = x) → ¬ x ∈ pre) {u : Tmp} (hu : u ∈ Am.sees ops.toList o) :
    u ∉ dstsOf ops.toList (pre.filter fun y => !C y) := by
  intro hmem
  obtain ⟨y, hy, q, hq, hd⟩ := mem_dsts hmem
  obtain ⟨hyp, hyC⟩ := List.mem_filter.1 hy
  have hyC : C y = false := by simpa using hyC
  by_cases e : x = y
  · subst e
    rw [ho] at hq; cases hq
    exact hx (hp.own x o u ho hd hu) hyp
  · rcases hp.names x o y q u ho hq hd e (.inl hu) with h | ⟨⟨s, hs, rfl⟩, _⟩
    · have := ancs_in hm.closed x o ho hpr y h
      rw [this] at hyC; cases hyC
    · have := hm.effs s hs hyp
      rw [this] at hyC; cases hyC

/-- What is left over does not write the slot that an effect writes, nor see it. -/
theorem Mid.apart (hm : Mid E ops p st C pre post rest T t H ι w H0 ι0 w0 B) {x : Nat} {o : Oper} (ho : ops.toList[x]? = some o) (hxp : x ∉ pre) (hord : ∀ y ∈ pre, ((ancs ops.toList).getD y 0).testBit x = false)
    (hx : (∃ s ∈ p.steps, s.eff = x) → ∀ j ∈ preds o, C j = true) {d : Tmp} (hd : o.dst = some d) {y : Nat} {q : Oper} (hy : y ∈ pre) (hyC : C y = false) (hq : ops.toList[y]? = some q) : d ∉ Am.sees ops.toList q ∧ q.dst ≠ some d := by
  have hne : y ≠ x := by rintro rfl; exact hxp hy
  have key : ¬ (d ∈ Am.sees ops.toList q ∨ q.dst = some d) := by
    intro h
    rcases hp.names y q x o d hq ho hd hne h with h | ⟨he, h⟩
    · rw [hord y hy] at h; cases h
    · have := ancs_in hm.closed x o ho (hx he) y h
      rw [this] at hyC; cases hyC
  exact ⟨fun h => key (.inl h), fun h => key (.inr h)⟩
end

/-- What is pending stays so, where slots and memory that it sees stay. -/
theorem Pending.stay {n : Nat} {T T' : Tr AV} {H H' : AHeap} {ι κ : Ren} {low : Nat} {B : Option Nat} {x : Nat} (h : Pending E n ops T H ι low B x) (hs : ∀ o, ops.toList[x]? = some o → ∀ u, (u ∈ sees ops.toList o ∨ o.dst = some u) → T'.get u = T.get u)
    (hB : ∀ b ob, B = some b → ι b = none → H.get b = some ob → κ b = none ∧ H'.get b = some ob) (hv : ∀ o d, ops.toList[x]? = some o → o.dst = some d → aWanted ops T o = some true → B = none → ∀ a, T.get d = some a → aVal E T H o.op = some a → aVal E T' H' o.op = some a) :
    Pending E n ops T' H' κ low B x := by
  obtain ⟨o, d, ho, hd, hlt, h⟩ := h
  have hw : aWanted ops T' o = aWanted ops T o := wanted_agree fun u hu => hs o ho u (.inl (List.mem_append.2 (.inl hu)))
  have ht : T'.get d = T.get d := hs o ho d (.inr hd)
  refine ⟨o, d, ho, hd, hlt, ?_⟩
  rw [hw, ht]
  cases B with
  | none =>
    rcases h with h | ⟨h1, a, h2, h3⟩
    · exact .inl h
    · exact .inr ⟨h1, a, h2, hv o d ho hd h1 rfl a h2 h3⟩
  | some b =>
    obtain ⟨h1, y, ob, h2, h3, h4, h5, h6⟩ := h
    obtain ⟨h7, h8⟩ := hB b ob rfl h5 h4
    refine ⟨h1, y, ob, h2, ?_, h8, h7, h6⟩
    rw [aNew_agree (agree_of fun u hu => hs o ho u (.inl (List.mem_append.2 (.inr hu))))]; exact h3

theorem TRel.weaken {ι : Ren} {n : Nat} {X Y : Tr AV} {t : Array Value} (h : TRel ι n X t) (hy : ∀ u a, Y.get u = some a → X.get u = some a) : TRel ι n Y t :=
  ⟨h.1, fun u a hu => h.2 u a (hy u a hu)⟩

section
variable {p : Plan} (hp : PlanOK ops.toList p) {C : Nat → Bool} {rest : List PStep} {t : Array Value} {ι : Ren} {w : World} {H0 : AHeap} {ι0 : Ren} {w0 : World}
include hp

theorem pairs_at {pre post : List Nat} {i : Nat} (hf : p.first ++ flatSteps p.steps = pre ++ i :: post) : i ∉ pre ∧ ∀ y ∈ pre, ((ancs ops.toList).getD y 0).testBit i = false := by
  have := hp.pairs
  rw [hf, List.pairwise_append] at this
  exact ⟨fun h => (this.2.2 i h i (by simp)).1 rfl, fun y hy => (this.2.2 y hy i (by simp)).2⟩

theorem eager1_ok {pre post : List Nat} {T : Tr AV} {H : AHeap} {B : Nat → Option Nat} {i : Nat} (hm : Mid E ops p st C pre (i :: post) rest T t H ι w H0 ι0 w0 B) (hi : ¬ ∃ s ∈ p.steps, s.eff = i) {T' : Tr AV} {H' : AHeap} (h : eager1 E st.n ops T H i = some (T', H')) :
    ∃ B', Mid E ops p st C (pre ++ [i]) post rest T' t H' ι w H0 ι0 w0 B' := by
  obtain ⟨hip, hord⟩ := pairs_at hp hm.flat
  have hiC : C i = false := by
    cases hc : C i with
    | false => rfl
    | true => exact absurd (hm.doneC i hc) hip
  unfold eager1 at h
  split at h
  · cases h
  rename_i o ho
  split at h
  · cases h
  rename_i d hd
  have hown : d ∉ Am.sees ops.toList o := fun h => hi (hp.own i o d ho hd h)
  have hap : ∀ x ∈ pre, C x = false → ∀ q, ops.toList[x]? = some q → d ∉ Am.sees ops.toList q ∧ q.dst ≠ some d := fun x hx hxC q hq => hm.apart hp ho hip hord (fun h => absurd h hi) hd hx hxC hq
  -- all three ends are alike
  have fin : ∀ (y : AV) (H' : AHeap) (Bi : Option Nat), HRel ι H' w → Ext ι H w ι H' w → Sub H H' → Pending E st.n ops (T.put d (some y)) H' ι H0.next Bi i → (∀ b, Bi = some b → H.next ≤ b) →
      ∃ B', Mid E ops p st C (pre ++ [i]) post rest (T.put d (some y)) t H' ι w H0 ι0 w0 B' := by
    intro y H' Bi hr' he' hsub hpi hbi
    refine ⟨fun x => if x = i then Bi else B x, ⟨by rw [hm.flat]; simp, hm.tail, fun x hx => by simp [hm.doneC x hx], hm.closed, ?_, ?_, ?_, ?_, hr', hm.ext.trans he'⟩⟩
    · intro s hs hmem
      rcases List.mem_append.1 hmem with h | h
      · exact hm.effs s hs h
      · exact absurd ⟨s, hs, by simpa using h⟩ hi
    · intro x hx hxC
      rcases List.mem_append.1 hx with hxp | hxp
      · have hne : x ≠ i := by rintro rfl; exact hip hxp
        simp only [if_neg hne]
        refine (hm.pend x hxp hxC).stay ?_ ?_ ?_
        · intro q hq u hu
          rw [Tr.get_put, if_neg]
          rintro rfl
          obtain ⟨h1, h2⟩ := hap x hxp hxC q hq
          rcases hu with hu | hu
          · exact h1 hu
          · exact h2 hu
        · intro b ob _ hb hg
          exact ⟨hb, hsub _ _ hg⟩
        · intro q e hq he hwt _ a hTa hva
          obtain ⟨h1, h2⟩ := hap x hxp hxC q hq
          have hag : Agree E T (T.put d (some y)) q.op := agree_of fun u hu => by
            rw [Tr.get_put, if_neg]; rintro rfl; exact h1 (List.mem_append.2 (.inr hu))
          rw [← aVal_agree hag]
          exact aVal_sub hsub hva
      · have : x = i := by simpa using hxp
        subst this
        simp only [if_pos]; exact hpi
    · intro x x' b hx hx' hxC hx'C hBx hBx'
      have blk : ∀ z, z ∈ pre → C z = false → B z = some b → b < H.next := by
        intro z hz hzC hBz
        obtain ⟨q, e, _, _, _, hh⟩ := hm.pend z hz hzC
        rw [hBz] at hh
        obtain ⟨_, _, _, _, _, hg, _, _⟩ := hh
        exact hm.hr.lt _ _ hg
      by_cases e1 : x = i <;> by_cases e2 : x' = i
      · rw [e1, e2]
      · simp only [e1, if_true] at hBx
        simp only [if_neg e2] at hBx'
        have hx'p : x' ∈ pre := by rcases List.mem_append.1 hx' with h | h; exact h; exact absurd (by simpa using h) e2
        have := blk x' hx'p hx'C hBx'
        have := hbi b hBx
        omega
      · simp only [e2, if_true] at hBx'
        simp only [if_neg e1] at hBx
        have hxp : x ∈ pre := by rcases List.mem_append.1 hx with h | h; exact h; exact absurd (by simpa using h) e1
        have := blk x hxp hxC hBx
        have := hbi b hBx'
        omega
      · simp only [if_neg e1] at hBx
        simp only [if_neg e2] at hBx'
        have hxp : x ∈ pre := by rcases List.mem_append.1 hx with h | h; exact h; exact absurd (by simpa using h) e1
        have hx'p : x' ∈ pre := by rcases List.mem_append.1 hx' with h | h; exact h; exact absurd (by simpa using h) e2
        exact hm.inj x x' b hxp hx'p hxC hx'C hBx hBx'
    · refine hm.T.weaken fun u a hu => ?_
      rw [dropT_get] at hu ⊢
      have hdm : d ∈ dstsOf ops.toList ((pre ++ [i]).filter fun x => !C x) := dsts_mem (x := i) (by simp [hiC]) ho hd
      by_cases e : u ∈ dstsOf ops.toList ((pre ++ [i]).filter fun x => !C x)
      · rw [if_pos e] at hu; cases hu
      · rw [if_neg e, Tr.get_put, if_neg (by rintro rfl; exact e hdm)] at hu
        rw [if_neg]
        · exact hu
        · intro hmem
          obtain ⟨x, hx, q, hq, hqd⟩ := mem_dsts hmem
          obtain ⟨hx1, hx2⟩ := List.mem_filter.1 hx
          exact e (dsts_mem (x := x) (List.mem_filter.2 ⟨by simp [hx1], hx2⟩) hq hqd)
  have hagT : ∀ y, Agree E T (T.put d (some y)) o.op := fun y => agree_of fun u hu => by
    rw [Tr.get_put, if_neg]; rintro rfl; exact hown (List.mem_append.2 (.inr hu))
  have hwT : ∀ y, aWanted ops (T.put d (some y)) o = aWanted ops T o := fun y => wanted_agree fun u hu => by
    rw [Tr.get_put, if_neg]; rintro rfl; exact hown (List.mem_append.2 (.inl hu))
  split at h
  · rename_i hlt hw
    have hlt := Nat.le_of_ble_eq_true hlt
    split at h
    · rename_i a ha
      cases h
      refine fin a H none hm.hr (.refl _ _ _) (fun _ _ h => h) ⟨o, d, ho, hd, hlt, .inr ⟨by rw [hwT]; exact hw, a, by simp, ?_⟩⟩ (by simp)
      rw [← aVal_agree (hagT a)]; exact ha
    · split at h
      · rename_i y ob hnew
        cases hone : oneB ob with
        | false => rw [hone] at h; cases h
        | true =>
          rw [hone] at h
          simp only [cond_true, Option.some.injEq, Prod.mk.injEq] at h
          obtain ⟨rfl, rfl⟩ := h
          obtain ⟨hr', he'⟩ := hm.hr.pushUnborn (oneB_eq hone)
          refine fin y _ (some H.next) hr' he' ?_ ⟨o, d, ho, hd, hlt, by rw [hwT]; exact hw, y, ob, by simp, ?_, by simp, hm.hr.none_next (Nat.le_refl _), hm.ext.next⟩ (by simp)
          · intro b o' hb
            rw [AHeap.get_push, if_neg]; exact hb
            rintro rfl; have := hm.hr.lt _ _ hb; omega
          · rw [← aNew_agree (hagT y)]; exact hnew
      · cases h
  · rename_i hlt hw
    have hlt := Nat.le_of_ble_eq_true hlt
    cases h
    exact fin undefA H none hm.hr (.refl _ _ _) (fun _ _ h => h) ⟨o, d, ho, hd, hlt, .inl ⟨by rw [hwT]; exact hw, by simp⟩⟩ (by simp)
  · cases h

theorem eager_ok {post : List Nat} {k : Tr AV → AHeap → Prop} : ∀ (is : List Nat) {pre : List Nat} {T : Tr AV} {H : AHeap} {B : Nat → Option Nat}, Mid E ops p st C pre (is ++ post) rest T t H ι w H0 ι0 w0 B → (∀ i ∈ is, ¬ ∃ s ∈ p.steps, s.eff = i) →
    runEager E st.n ops is T H k → ∃ T' H' B', k T' H' ∧ Mid E ops p st C (pre ++ is) post rest T' t H' ι w H0 ι0 w0 B'
  | [], pre, T, H, B, hm, _, h => ⟨T, H, B, h, by simpa using hm⟩
  | i :: is, pre, T, H, B, hm, hi, h => by
    simp only [runEager] at h
    split at h
    · rename_i T1 H1 h1
      obtain ⟨B1, hm1⟩ := eager1_ok hp (by simpa using hm) (hi i (by simp)) h1
      obtain ⟨T', H', B', hk, hm'⟩ := eager_ok is hm1 (fun j hj => hi j (by simp [hj])) h
      exact ⟨T', H', B', hk, by simpa using hm'⟩
    · exact h.elim

/-- The model does what is left over. -/
theorem float_ok (hE : E.OK P) {pre post : List Nat} {T : Tr AV} {H : AHeap} {B : Nat → Option Nat} (hm : Mid E ops p st C pre post rest T t H ι w H0 ι0 w0 B) (hg : Glob E ι) {x : Nat} {o : Oper} (ho : ops.toList[x]? = some o) (hx : x ∈ pre) (hxC : C x = false)
    (hpr : ∀ j ∈ preds o, C j = true) (b : Frame) (d : List Deferred) (s : List Nat) (k : List Item) (cs : List Frame) :
    ∃ t' w' ι' B', step P (lone (mk b t d (.inRegion ops (x :: s) :: k)) cs w) = .next (lone (mk b t' d (.inRegion ops s :: k)) cs w') ∧ ι.le ι' ∧ Mid E ops p st (fun j => C j || j == x) pre post rest T t' H ι' w' H0 ι0 w0 B' := by
  have hne : ¬ ∃ s ∈ p.steps, s.eff = x := by
    rintro ⟨s, hs, rfl⟩
    have := hm.effs s hs hx
    rw [this] at hxC; cases hxC
  obtain ⟨o', e, ho', hd, hlt, hpend⟩ := hm.pend x hx hxC
  rw [ho] at ho'; cases ho'
  have hsee : ∀ u ∈ Am.sees ops.toList o, (dropT (dstsOf ops.toList (pre.filter fun x => !C x)) T).get u = T.get u := fun u hu => by
    rw [dropT_get, if_neg (hm.sees hp ho hpr (fun h => absurd h hne) hu)]
  have hag : Agree E (dropT (dstsOf ops.toList (pre.filter fun x => !C x)) T) T o.op := agree_of fun u hu => hsee u (List.mem_append.2 (.inr hu))
  have hwa : aWanted ops (dropT (dstsOf ops.toList (pre.filter fun x => !C x)) T) o = aWanted ops T o := wanted_agree fun u hu => hsee u (List.mem_append.2 (.inl hu))
  have hev : EvRel E ι (dropT (dstsOf ops.toList (pre.filter fun x => !C x)) T) (mk b t d []).eval := EvRel.of hg hm.T _ rfl
  have hoa : ops[x]? = some o := by rw [← Array.getElem?_toList]; exact ho
  have fin : ∀ (y : AV) (v : Value) (w' : World) (ι' : Ren), T.get e = some y → ι.le ι' → VRel ι' y v → HRel ι' H w' → Ext ι0 H0 w0 ι' H w' → (∀ z ∈ pre, C z = false → z ≠ x → ∀ c, B z = some c → ι c = none → ι' c = none) →
      Mid E ops p st (fun j => C j || j == x) pre post rest T (putT t o.dst v) H ι' w' H0 ι0 w0 B := by
    intro y v w' ι' hy hle hv hr' he' hz
    have hC' : ∀ z, (C z || z == x) = false → C z = false ∧ z ≠ x := by
      intro z h
      simp only [Bool.or_eq_false_iff, beq_eq_false_iff_ne] at h; exact h
    refine ⟨hm.flat, hm.tail, ?_, ?_, ?_, ?_, ?_, ?_, hr', he'⟩
    · intro z h
      simp only [Bool.or_eq_true, beq_iff_eq] at h
      rcases h with h | rfl
      · exact hm.doneC z h
      · exact hx
    · intro z h q hq j hj
      simp only [Bool.or_eq_true, beq_iff_eq] at h ⊢
      rcases h with h | rfl
      · exact .inl (hm.closed z h q hq j hj)
      · rw [ho] at hq; cases hq; exact .inl (hpr j hj)
    · intro s hs h; simp [hm.effs s hs h]
    · intro z hzp hzC
      obtain ⟨h1, h2⟩ := hC' z hzC
      refine (hm.pend z hzp h1).stay (fun _ _ _ _ => rfl) ?_ (fun _ _ _ _ _ _ _ _ h => h)
      intro c ob hBc hc hob
      exact ⟨hz z hzp h1 h2 c hBc hc, hob⟩
    · intro z z' c h1 h2 h3 h4
      exact hm.inj z z' c h1 h2 (hC' z h3).1 (hC' z' h4).1
    · rw [hd]
      refine (put_rel (hm.T.mono hle) hlt hv).weaken fun u a hu => ?_
      rw [dropT_get] at hu
      rw [Tr.get_put, dropT_get]
      by_cases e1 : u ∈ dstsOf ops.toList (pre.filter fun z => !(C z || z == x))
      · rw [if_pos e1] at hu; cases hu
      · rw [if_neg e1] at hu
        by_cases e2 : u = e
        · subst e2; rw [if_pos rfl, ← hu, hy]
        · rw [if_neg e2, if_neg]
          · exact hu
          · intro hmem
            obtain ⟨z, hz, q, hq, hqd⟩ := mem_dsts hmem
            obtain ⟨hz1, hz2⟩ := List.mem_filter.1 hz
            refine e1 (dsts_mem (x := z) (List.mem_filter.2 ⟨hz1, ?_⟩) hq hqd)
            have : z ≠ x := by
              rintro rfl
              rw [ho] at hq; cases hq
              rw [hd] at hqd; cases hqd
              exact e2 rfl
            simp at hz2
            simp [hz2, this]
  cases hB : B x with
  | none =>
    rw [hB] at hpend
    rcases hpend with ⟨hw, hy⟩ | ⟨hw, a, hy, hva⟩
    · have hw' := wanted_sound hm.T (hwa.trans hw)
      refine ⟨putT t o.dst undef, w, ι, B, ?_, .refl ι, fin undefA undef w ι hy (.refl ι) (undef_rel ι) hm.hr hm.ext (fun _ _ _ _ _ _ h => h)⟩
      have := m_op_skip (P := P) (b := b) (t := t) (d := d) (k := k) (cs := cs) (w := w) (ops := ops) (i := x) (rest := s) (by rw [hoa]; simp [hw'])
      rw [hoa] at this; exact this
    · have hw' := wanted_sound hm.T (hwa.trans hw)
      obtain ⟨v, hrun, hvr⟩ := aVal_sound hE hm.hr hev ((aVal_agree hag).trans hva)
      have hnd : ∀ c, o.op ≠ .defer c := by intro c e; rw [e] at hva; simp [aVal] at hva
      exact ⟨putT t o.dst v, w, ι, B, m_value hoa hw' (.inr hnd) hrun, .refl ι, fin a v w ι hy (.refl ι) hvr hm.hr hm.ext (fun _ _ _ _ _ _ h => h)⟩
  | some c =>
    rw [hB] at hpend
    obtain ⟨hw, y, ob, hy, hnew, hgb, hcn, hlow⟩ := hpend
    have hw' := wanted_sound hm.T (hwa.trans hw)
    obtain ⟨v, o', n, hrun, hvr, hor⟩ := aNew_sound (P := P) (w := w) hE hcn hev ((aNew_agree hag).trans hnew)
    have hnd : ∀ c, o.op ≠ .defer c := by intro c e; rw [e] at hnew; simp [aNew] at hnew
    refine ⟨putT t o.dst v, _, _, B, m_value hoa hw' (.inr hnd) hrun, Ren.le_add hcn, fin y v _ _ hy (Ren.le_add hcn) hvr (hm.hr.birth n hgb hcn hor) (hm.ext.birth hm.hr hlow hcn n o') ?_⟩
    intro z hz hzC hzx c' hBc hc'
    rw [Ren.add_ne _ _ _ ?_]; exact hc'
    rintro rfl
    exact hzx (hm.inj z x _ hz hx hzC hxC hBc hB)
end
end
end Go.Am
/-! AmDs -/
namespace Go.Am

theorem flatSteps_append : ∀ (a b : List PStep), flatSteps (a ++ b) = flatSteps a ++ flatSteps b
  | [], b => rfl
  | s :: a, b => by simp [flatSteps, flatSteps_append a b]
theorem mem_flat : ∀ {l : List PStep} {x : Nat}, x ∈ flatSteps l → ∃ s ∈ l, x = s.eff ∨ x ∈ s.eager
  | [], x, h => by simp [flatSteps] at h
  | s :: l, x, h => by
    simp only [flatSteps, List.mem_cons, List.mem_append] at h
    rcases h with h | h | h
    · exact ⟨s, by simp, .inl h⟩
    · exact ⟨s, by simp, .inr h⟩
    · obtain ⟨r, hr, h⟩ := mem_flat h; exact ⟨r, by simp [hr], h⟩
theorem eff_mem_flat : ∀ {l : List PStep} {s : PStep}, s ∈ l → s.eff ∈ flatSteps l
  | r :: l, s, h => by
    simp only [flatSteps, List.mem_cons, List.mem_append]
    rcases List.mem_cons.1 h with rfl | h
    · exact .inl rfl
    · exact .inr (.inr (eff_mem_flat h))

theorem eager_mem_flat : ∀ {l : List PStep} {s : PStep} {x : Nat}, s ∈ l → x ∈ s.eager → x ∈ flatSteps l
  | r :: l, s, x, h, hx => by
    simp only [flatSteps, List.mem_cons, List.mem_append]
    rcases List.mem_cons.1 h with h | h
    · exact .inr (.inl (by rw [← h]; exact hx))
    · exact .inr (.inr (eager_mem_flat h hx))

theorem checks_at {ops : List Oper} {an : List Nat} : ∀ (done : List PStep) (prev : List Nat) (s : PStep) (ss : List PStep), checksOK ops an prev (done ++ s :: ss) = true → ∀ x, (x ∈ prev ∨ ∃ r ∈ done, x ∈ r.eager) →
    ∀ o, ops[x]? = some o → reads o.op = true → (an.getD s.eff 0).testBit x = true ∨ x ∈ s.check
  | [], prev, s, ss, h, x, hx, o, ho, hr => by
    simp only [List.nil_append, checksOK, Bool.and_eq_true, List.all_eq_true] at h
    have hx : x ∈ prev := by rcases hx with h | ⟨_, h, _⟩; exact h; cases h
    have := h.1 x hx
    rw [ho] at this
    simp only [hr, Bool.not_true, Bool.false_or, Bool.or_eq_true] at this
    rcases this with h | h
    · exact .inl h
    · exact .inr (by simpa using h)
  | r :: done, prev, s, ss, h, x, hx, o, ho, hr => by
    simp only [List.cons_append, checksOK, Bool.and_eq_true] at h
    refine checks_at done (prev ++ r.eager) s ss h.2 x ?_ o ho hr
    rcases hx with hx | ⟨q, hq, hx⟩
    · exact .inl (by simp [hx])
    · rcases List.mem_cons.1 hq with rfl | hq
      · exact .inl (by simp [hx])
      · exact .inr ⟨q, hq, hx⟩

section
variable {E : Env} {P : Program} {F : Fns} {st : St} {ops : Array Oper}

theorem allStill_mem {T : Tr AV} {H : AHeap} : ∀ {l : List Nat}, allStill E ops T H l = true → ∀ x ∈ l, still E ops T H x = true
  | [], _, x, hx => by cases hx
  | i :: l, h, x, hx => by
    simp only [allStill] at h
    split at h
    · rename_i hi
      rcases List.mem_cons.1 hx with rfl | hx
      · exact hi
      · exact allStill_mem h x hx
    · cases h

section
variable {p : Plan} (hp : PlanOK ops.toList p) {C : Nat → Bool} {t : Array Value} {ι : Ren} {w : World} {H0 : AHeap} {ι0 : Ren} {w0 : World} {T : Tr AV} {H : AHeap} {B : Nat → Option Nat}
include hp

/-- The model does the next effect: what is left over is left over still. -/
theorem effect_mid {pre : List Nat} {s : PStep} {ss : List PStep} (hm : Mid E ops p st C pre (flatSteps (s :: ss)) (s :: ss) T t H ι w H0 ι0 w0 B) {o : Oper} (ho : ops.toList[s.eff]? = some o) (hpr : ∀ j ∈ preds o, C j = true)
    {T0 T1 : Tr AV} {t' : Array Value} {H' : AHeap} {ι' : Ren} {w' : World} (haf : After o.dst .normal T (dropT (dstsOf ops.toList (pre.filter fun x => !C x)) T) T0 T1) (hT : TRel ι' st.n T1 t') (hr' : HRel ι' H' w') (he' : Ext ι H w ι' H' w')
    (hst : ∀ x ∈ pre, C x = false → ∀ q e, ops.toList[x]? = some q → q.dst = some e → aWanted ops T0 q = some true → T0.get e = T.get e → aWanted ops T q = some true → ∀ a, T.get e = some a → aVal E T0 H q.op = some a → aVal E T0 H' q.op = some a) :
    Mid E ops p st (fun j => C j || j == s.eff) (pre ++ [s.eff]) (s.eager ++ flatSteps ss) ss T0 t' H' ι' w' H0 ι0 w0 B := by
  have hflat : p.first ++ flatSteps p.steps = pre ++ s.eff :: (s.eager ++ flatSteps ss) := hm.flat
  obtain ⟨hip, hord⟩ := pairs_at hp hflat
  obtain ⟨done, htail⟩ := hm.tail
  have hC' : ∀ z, (C z || z == s.eff) = false → C z = false ∧ z ≠ s.eff := by
    intro z h
    simp only [Bool.or_eq_false_iff, beq_eq_false_iff_ne] at h; exact h
  have hpre : ∀ z, z ∈ pre ++ [s.eff] → z ≠ s.eff → z ∈ pre := by
    intro z h hne
    rcases List.mem_append.1 h with h | h
    · exact h
    · exact absurd (by simpa using h) hne
  -- what the effect writes, nothing left over knows of
  have hkeep : ∀ x ∈ pre, C x = false → ∀ q, ops.toList[x]? = some q → ∀ u, (u ∈ Am.sees ops.toList q ∨ q.dst = some u) → T0.get u = T.get u := by
    intro x hx hxC q hq u hu
    cases hd : o.dst with
    | none => rw [hd] at haf; obtain ⟨rfl, _⟩ := haf; rfl
    | some d =>
      rw [hd] at haf
      obtain ⟨v, rfl, _⟩ := haf
      rw [Tr.get_put, if_neg]
      rintro rfl
      obtain ⟨h1, h2⟩ := hm.apart hp ho hip hord (fun _ => hpr) hd hx hxC hq
      rcases hu with hu | hu
      · exact h1 hu
      · exact h2 hu
  refine ⟨by rw [hm.flat]; simp [flatSteps], ⟨done ++ [s], by rw [htail]; simp⟩, ?_, ?_, ?_, ?_, ?_, ?_, hr', hm.ext.trans he'⟩
  · intro z h
    simp only [Bool.or_eq_true, beq_iff_eq] at h
    rcases h with h | rfl
    · simp [hm.doneC z h]
    · simp
  · intro z h q hq j hj
    simp only [Bool.or_eq_true, beq_iff_eq] at h ⊢
    rcases h with h | rfl
    · exact .inl (hm.closed z h q hq j hj)
    · rw [ho] at hq; cases hq; exact .inl (hpr j hj)
  · intro r hr hmem
    simp only [Bool.or_eq_true, beq_iff_eq]
    by_cases e : r.eff = s.eff
    · exact .inr e
    · exact .inl (hm.effs r hr (hpre _ hmem e))
  · intro z hz hzC
    obtain ⟨h1, h2⟩ := hC' z hzC
    have hzp := hpre z hz h2
    refine (hm.pend z hzp h1).stay (fun q hq u hu => hkeep z hzp h1 q hq u hu) ?_ ?_
    · intro b ob _ hb hg
      obtain ⟨h3, h4⟩ := he'.unborn b (hm.hr.lt _ _ hg) hb
      exact ⟨h3, h4.trans hg⟩
    · intro q e hq he hwt _ a hTa hva
      have hk := hkeep z hzp h1 q hq
      have hw0 : aWanted ops T0 q = aWanted ops T q := wanted_agree fun u hu => hk u (.inl (List.mem_append.2 (.inl hu)))
      refine hst z hzp h1 q e hq he (hw0.trans hwt) (hk e (.inr he)) hwt a hTa ?_
      rw [aVal_agree (agree_of fun u hu => hk u (.inl (List.mem_append.2 (.inr hu))))]
      exact hva
  · intro z z' c h1 h2 h3 h4
    obtain ⟨h5, h6⟩ := hC' z h3
    obtain ⟨h7, h8⟩ := hC' z' h4
    exact hm.inj z z' c (hpre z h1 h6) (hpre z' h2 h8) h5 h7
  · refine hT.weaken fun u a hu => ?_
    rw [dropT_get] at hu
    by_cases e1 : u ∈ dstsOf ops.toList ((pre ++ [s.eff]).filter fun z => !(C z || z == s.eff))
    · rw [if_pos e1] at hu; cases hu
    · rw [if_neg e1] at hu
      have hnd : u ∉ dstsOf ops.toList (pre.filter fun x => !C x) := by
        intro hmem
        obtain ⟨z, hz, q, hq, hqd⟩ := mem_dsts hmem
        obtain ⟨hz1, hz2⟩ := List.mem_filter.1 hz
        have hzne : z ≠ s.eff := by rintro rfl; exact hip hz1
        refine e1 (dsts_mem (x := z) (List.mem_filter.2 ⟨by simp [hz1], ?_⟩) hq hqd)
        simp at hz2
        simp [hz2, hzne]
      cases hd : o.dst with
      | none => rw [hd] at haf; obtain ⟨rfl, rfl⟩ := haf; rw [dropT_get, if_neg hnd]; exact hu
      | some d =>
        rw [hd] at haf
        obtain ⟨v, rfl, rfl⟩ := haf
        rw [Tr.get_put] at hu ⊢
        by_cases e : u = d
        · rw [if_pos e] at hu ⊢; exact hu
        · rw [if_neg e] at hu ⊢
          rw [dropT_get, if_neg hnd]; exact hu

theorem effect_still {pre : List Nat} {s : PStep} {ss : List PStep} (hm : Mid E ops p st C pre (flatSteps (s :: ss)) (s :: ss) T t H ι w H0 ι0 w0 B) {o : Oper} (ho : ops.toList[s.eff]? = some o) (hpr : ∀ j ∈ preds o, C j = true)
    {T0 : Tr AV} {H' : AHeap} (hall : allStill E ops T0 H' s.check = true) :
    ∀ x ∈ pre, C x = false → ∀ q e, ops.toList[x]? = some q → q.dst = some e → aWanted ops T0 q = some true → T0.get e = T.get e → aWanted ops T q = some true → ∀ a, T.get e = some a → aVal E T0 H q.op = some a → aVal E T0 H' q.op = some a := by
  intro x hx hxC q e hq he hw0 hke _ a hTa hva
  obtain ⟨done, htail⟩ := hm.tail
  cases hrd : reads q.op with
  | false => rw [aVal_heap hrd]; exact hva
  | true =>
    have hpe : pre = p.first ++ flatSteps done := by
      have := hm.flat
      rw [htail, flatSteps_append, ← List.append_assoc] at this
      exact (List.append_cancel_right this).symm
    have hx2 : x ∈ p.first ∨ ∃ r ∈ done, x ∈ r.eager := by
      have hx := hx
      rw [hpe] at hx
      rcases List.mem_append.1 hx with h | h
      · exact .inl h
      · obtain ⟨r, hr, h | h⟩ := mem_flat h
        · have := hm.effs r (by rw [htail]; simp [hr]) (by rw [← h, hpe]; exact hx)
          rw [← h, hxC] at this; cases this
        · exact .inr ⟨r, hr, h⟩
    have hch := hp.checks
    rw [htail] at hch
    rcases checks_at done p.first s ss hch x hx2 q hq hrd with h | h
    · have := ancs_in hm.closed s.eff o ho hpr x h
      rw [this] at hxC; cases hxC
    · have := allStill_mem hall x h
      unfold still at this
      rw [hq] at this
      simp only [he, hw0] at this
      split at this
      · rename_i a' b' ha hb
        have hab := AV.beq_eq _ _ this
        subst hab
        rw [hke, hTa] at hb
        cases hb
        exact ha
      · cases this

theorem not_pre {pre post : List Nat} (hf : p.first ++ flatSteps p.steps = pre ++ post) {x : Nat} (h1 : x ∈ pre) (h2 : x ∈ post) : False := by
  have := hp.pairs
  rw [hf, List.pairwise_append] at this
  exact (this.2.2 x h1 x h2).1 rfl

theorem eager_not_eff {s : PStep} (hs : s ∈ p.steps) {x : Nat} (hx : x ∈ s.eager) : ¬ ∃ r ∈ p.steps, r.eff = x := by
  rintro ⟨r, hr, rfl⟩
  -- an eager one and an effect at two places of the flat list
  have h1 := hp.eager s hs _ hx
  have hpw := hp.pairs
  rw [List.pairwise_append] at hpw
  have key : ∀ (l : List PStep), (flatSteps l).Pairwise (fun x y => x ≠ y ∧ ((ancs ops.toList).getD x 0).testBit y = false) → s ∈ l → r ∈ l → False := by
    intro l
    induction l with
    | nil => intro _ h; cases h
    | cons q l ih =>
      intro hl hsl hrl
      simp only [flatSteps, List.pairwise_cons, List.pairwise_append] at hl
      rcases List.mem_cons.1 hsl with e1 | hsl2 <;> rcases List.mem_cons.1 hrl with e2 | hrl2
      · have e3 : r = s := e2.trans e1.symm
        rw [e3] at hx
        rw [← e1] at hl; exact (hl.1 _ (List.mem_append.2 (.inl hx))).1 rfl
      · rw [← e1] at hl; exact (hl.2.2.2 _ hx _ (eff_mem_flat hrl2)).1 rfl
      · rw [← e2] at hl; exact (hl.1 _ (List.mem_append.2 (.inr (eager_mem_flat hsl2 hx)))).1 rfl
      · exact ih hl.2.2.1 hsl2 hrl2
  exact key p.steps hpw.2.1 hs hr

theorem sched_run (hE : E.OK P) (hI : ∀ f args H Q, runInvoke E F f args H Q → InvOK E P f args H Q) {b : Frame} {k : List Item} {R0 : Rc} {cs0 : List Frame} {Q : K} {s : List Nat} (hs : Sched ops.toList C s) :
    ∀ {pre : List Nat} {rest : List PStep} {T : Tr AV} {t : Array Value} {D : List ADef} {d : List Deferred} {R : Rc} {cs : List Frame} {H : AHeap} {ι : Ren} {w : World} {B : Nat → Option Nat}, Mid E ops p st C pre (flatSteps rest) rest T t H ι w H0 ι0 w0 B →
      Glob E ι → StRel ι st b → AllRel (DefRel ι) D d → RcRel ι R b cs → CsTo R0 R cs0 cs → runSteps E F st ops rest T D R H Q →
      Comes2 E P (lone (mk b t d (.inRegion ops s :: k)) cs w) ι0 H0 w0 st b k R0 cs0 Q := by
  induction hs with
  | @done C hall =>
    intro pre rest T t D d R cs H ι w B hm hg hsr hD hrc hcs h
    cases rest with
    | nil =>
      refine ⟨.normal, T, D, R, H, ι, t, d, cs, w, h, ⟨hm.hr, hg, hsr, hm.T.weaken fun u a hu => ?_, hD, hrc⟩, hm.ext, hcs, .one m_region_end⟩
      rw [dropT_get, if_neg]
      · exact hu
      · intro hmem
        obtain ⟨x, hx, q, hq, _⟩ := mem_dsts hmem
        obtain ⟨_, hx2⟩ := List.mem_filter.1 hx
        have := hall x (List.getElem?_eq_some_iff.1 hq).1
        simp [this] at hx2
    | cons r ss =>
      simp only [runSteps] at h
      split at h
      · exact h.elim
      · rename_i o ho
        have hC := hall _ (List.getElem?_eq_some_iff.1 ho).1
        exact (not_pre hp hm.flat (hm.doneC _ hC) (by simp [flatSteps])).elim
  | @step C i is o ho hc hpr _ ih =>
    intro pre rest T t D d R cs H ι w B hm hg hsr hD hrc hcs h
    have hmem := hp.all i (List.getElem?_eq_some_iff.1 ho).1
    rw [hm.flat] at hmem
    rcases List.mem_append.1 hmem with hi | hi
    · obtain ⟨t', w', ι', B', h1, hle, hm'⟩ := float_ok hp hE hm hg ho hi hc hpr b d is k cs
      exact .of_steps (.one h1) (ih hm' (hg.mono hle) (hsr.mono hle) (hD.imp fun _ _ x => x.mono hle) (hrc.mono hle) hcs h)
    · obtain ⟨done, htail⟩ := hm.tail
      -- it is the next effect
      have hhead : ∃ r ss, rest = r :: ss ∧ i = r.eff := by
        obtain ⟨r, hr, hor⟩ := mem_flat hi
        have hrp : r ∈ p.steps := by rw [htail]; simp [hr]
        have hnC : ∀ q ∈ rest, C q.eff = true → False := fun q hq hC => not_pre hp hm.flat (hm.doneC _ hC) (eff_mem_flat hq)
        rcases hor with rfl | hx
        · cases rest with
          | nil => cases hr
          | cons r0 ss =>
            rcases List.mem_cons.1 hr with rfl | hr'
            · exact ⟨_, _, rfl, rfl⟩
            · have hch := hp.chain
              rw [htail, List.pairwise_append, List.pairwise_cons] at hch
              have := hch.2.1.1 r hr'
              exact (hnC r0 (by simp) (ancs_in hm.closed _ o ho hpr _ this)).elim
        · exact (hnC r hr (ancs_in hm.closed i o ho hpr _ (hp.eager r hrp i hx))).elim
      obtain ⟨r, ss, rfl, rfl⟩ := hhead
      have hip : r.eff ∉ pre := fun h => not_pre hp hm.flat h (by simp [flatSteps])
      have hrp : r ∈ p.steps := by rw [htail]; simp
      have heag : ∀ i ∈ r.eager, ¬ ∃ s ∈ p.steps, s.eff = i := fun i hi => eager_not_eff hp hrp hi
      have hsee : ∀ u ∈ Am.sees ops.toList o, T.get u = (dropT (dstsOf ops.toList (pre.filter fun x => !C x)) T).get u := fun u hu => by
        rw [dropT_get, if_neg (hm.sees hp ho hpr (fun _ => hip) hu)]
      have hag : Agree E T (dropT (dstsOf ops.toList (pre.filter fun x => !C x)) T) o.op := agree_of fun u hu => hsee u (List.mem_append.2 (.inr hu))
      have hwa : aWanted ops T o = aWanted ops (dropT (dstsOf ops.toList (pre.filter fun x => !C x)) T) o := wanted_agree fun u hu => hsee u (List.mem_append.2 (.inl hu))
      have hoa : ops[r.eff]? = some o := by rw [← Array.getElem?_toList]; exact ho
      simp only [runSteps, ho] at h
      split at h
      · rename_i hw
        have hw' := wanted_sound hm.T (hwa.symm.trans hw)
        obtain ⟨e, T0, T1, D', R', H', ι', t', d', cs', w', hq, haf, hcf, hext, hcs', harr⟩ := op_ok2 (k := k) (rest := is) (i := r.eff) hE hI hag h (b := b) (t := t) (d := d) (cs := cs) ⟨hm.hr, hg, hsr, hm.T, hD, hrc⟩ hoa hw'
        cases e with
        | normal =>
          simp only at hq
          split at hq
          · rename_i hall
            have hm' := effect_mid hp hm ho hpr haf hcf.T hcf.hr hext (effect_still hp hm ho hpr hall)
            obtain ⟨T2, H2, B2, hk, hm2⟩ := eager_ok hp r.eager hm' heag hq
            exact .of_steps harr (ih hm2 hcf.glob hcf.sr hcf.D hcf.rc (hcs.trans hcs') hk)
          · exact hq.elim
        | panic v =>
          simp only at hq
          obtain ⟨rfl, rfl⟩ : T0 = T ∧ T1 = _ := haf
          refine ⟨_, _, D', R', H', ι', t', d', cs', w', hq, ⟨hcf.hr, hcf.glob, hcf.sr, hcf.T.weaken fun u a hu => ?_, hcf.D, hcf.rc⟩, hm.ext.trans hext, hcs.trans hcs', harr.inRegion (by simp)⟩
          rw [forget_get] at hu
          by_cases e : u ∈ ops.toList.filterMap (·.dst)
          · rw [if_pos e] at hu; cases hu
          · rw [if_neg e] at hu
            rw [dropT_get, if_neg]
            · exact hu
            · intro hmem
              obtain ⟨x, _, q, hq, hqd⟩ := mem_dsts hmem
              exact e (List.mem_filterMap.2 ⟨q, List.mem_of_getElem? hq, hqd⟩)
        | exit id => exact (hq : False).elim
        | goto l => exact (hq : False).elim
        | ret => exact (hq : False).elim
      · rename_i hw
        have hw' := wanted_sound hm.T (hwa.symm.trans hw)
        obtain ⟨T0, T1, hq, haf, hT⟩ := setDst_rel2 (T := T) hm.T (undef_rel ι) h
        have hm' := effect_mid hp hm ho hpr haf hT hm.hr (.refl _ _ _) (fun _ _ _ _ _ _ _ _ _ _ _ _ h => h)
        obtain ⟨T2, H2, B2, hk, hm2⟩ := eager_ok hp r.eager hm' heag hq
        have hst := m_op_skip (P := P) (b := b) (t := t) (d := d) (k := k) (cs := cs) (w := w) (ops := ops) (i := r.eff) (rest := is) (by rw [hoa]; simp [hw'])
        rw [hoa] at hst
        exact .of_steps (.one hst) (ih hm2 hg hsr hD hrc hcs hk)
      · exact h.elim
end

theorem m_draw {b : Frame} {t : Array Value} {d : List Deferred} {k : List Item} {cs : List Frame} {w : World} {id : Nat} (hx : P.follows .mixedOrders = true) :
    ∃ n w', w'.heap = w.heap ∧ Side w w' ∧ step P (lone (mk b t d (.code (.region id ops true) :: k)) cs w) = .next (lone (mk b t d (.inRegion ops (Region.schedule true ops n) :: k)) cs w') := by
  cases hf : (Question.order b.fn id).forced with
  | true =>
    exact ⟨0, w, rfl, .refl w, step_lone_go (by simp [stepG, stepG.exec, mk, hf, hx])⟩
  | false =>
    exact ⟨(Question.order b.fn id).cut (w.tape w.drawn (.order b.fn id)), w.drew, rfl, ⟨rfl, rfl, rfl⟩, step_lone_go (by simp [stepG, stepG.exec, mk, hf, hx])⟩

theorem draw_ok (hE : E.OK P) (hI : ∀ f args H Q, runInvoke E F f args H Q → InvOK E P f args H Q) {id : Nat} {T : Tr AV} {D : List ADef} {R : Rc} {H : AHeap} {Q : K} (h : runDraw E F st ops T D R H Q) : RunOK E P st (.region id ops true) T D R H Q := by
  intro ι b t d k cs w hc
  unfold runDraw at h
  split at h
  · rename_i p hpl
    have hp := planOf_sound hpl
    obtain ⟨n, w', hw, hsd, hst⟩ := m_draw (ops := ops) (b := b) (t := t) (d := d) (k := k) (cs := cs) (w := w) (id := id) hE.mixed
    have hback : ∀ i o, ops[i]? = some o → ∀ j ∈ preds o, j < i := fun i o ho => hp.back i o (by rw [Array.getElem?_toList]; exact ho)
    have hr' := hc.hr.of_heap hw
    have hm : Mid E ops p st (fun _ => false) [] (p.first ++ flatSteps p.steps) p.steps T t H ι w' H ι w (fun _ => none) :=
      ⟨rfl, ⟨[], rfl⟩, (fun _ h => by cases h), (fun _ h => by cases h), (fun _ _ h => by cases h), (fun _ h => by cases h), (fun _ _ _ h => by cases h), by simpa [dstsOf, dropT] using hc.T, hr', .of_heap hw hsd⟩
    have hfirst : ∀ i ∈ p.first, ¬ ∃ s ∈ p.steps, s.eff = i := by
      rintro i hi ⟨s, hs, rfl⟩
      exact not_pre hp rfl hi (eff_mem_flat hs)
    obtain ⟨T2, H2, B2, hk, hm2⟩ := eager_ok hp p.first hm hfirst h
    exact .of_steps (.one hst) (sched_run hp hE hI (sched_ok hback n) hm2 hc.glob hc.sr hc.D hc.rc (.refl _ _) hk)
  · exact h.elim
end
end Go.Am
/-! AmV -/
namespace Go.Am

def Enters (P : Program) (f : FuncId) : Prop := ∃ fn, P.funcs[f]? = some fn ∧ fn.body.isSome = true ∧ (fn.name == "runtime.NumGoroutine") = false

theorem CsTo.off {R' : Rc} {cs cs' : List Frame} (h : CsTo .off R' cs cs') : cs' = cs ∧ R' = .off := by
  rcases h with h | ⟨_, _, _, _, hx, _⟩
  · exact h
  · cases hx

theorem Enters.run {P : Program} {f : FuncId} (h : Enters P f) (args : Array Value) (w : World) : (callFunc f args).run P w = .ok (.enter f args) w := by
  obtain ⟨fn, h1, h2, h3⟩ := h
  unfold callFunc
  have h4 : fn.body.isNone = false := by cases hb : fn.body <;> simp_all
  simp only [Sem.run_bind, run_program, Result.andThen_ok, h1, h3, h4, Bool.false_eq_true, if_false, Sem.run_pure]

section
variable {E : Env} {P : Program} {F : Fns} {st : St} {T : Tr AV} {D : List ADef} {R : Rc} {H : AHeap} {Q : K}

theorem yield_ok (hE : E.OK P) (hF : FnsOK E P F) {l : Nat} {args : List AV} {Q : Res → Prop} (h : runYield E F l args H Q) {ι : Ren} {w : World} (hr : HRel ι H w) (hg : Glob E ι) {l' : Nat} (hl : ι l = some (l', 0, 0)) {vs : List Value}
    (hv : VRels ι args vs) : Begins P (Instr.yield l' ⟨vs⟩) ι H w Q := by
  unfold runYield at h
  split at h
  · rename_i r hgl
    split at h
    · exact h.elim
    · rename_i hlen
      obtain ⟨l2, r', hi, hw, hrel⟩ := hr.loop hgl hl
      rw [hl] at hi; cases hi
      obtain ⟨e1, e2, e3, e4, e5, e6, e7, e8⟩ := hrel
      have hlen' : (⟨vs⟩ : Array Value).size = r'.params.size := by
        have := hv.length
        rw [← Array.length_toList (xs := r'.params), e5]
        simp only [beq_iff_eq] at hlen
        simp [this, hlen]
      simp only at h
      split at h
      · rename_i hp hst
        refine .round (run_yield hw hlen') ?_
        intro c cs
        have hz : (r'.params.zip ⟨vs⟩).foldl (fun tmps (t, a) => tmps.setIfInBounds t a) r'.tmps = (r.params.zip vs).foldl (fun t p => t.setIfInBounds p.1 p.2) r'.tmps := by
          rw [← Array.foldl_toList, Array.toList_zip, e5]
        rw [hz]
        have hT := fold_rel r.params args vs _ _ e4 hv hp
        rw [e3, e6, e7]
        obtain ⟨e, T1, D1, R1, H1, ι1, t1, d1, cs1, w1, hq, hc1, he1, hcs1, ha1⟩ := hF.run _ _ _ _ _ _ _ h ι (Frame.round l' r.fn ((r.params.zip vs).foldl (fun t p => t.setIfInBounds p.1 p.2) r'.tmps) r.assign r.body .normal) _ [] [.beginRound, .code r.body] (c :: cs) w
          ⟨hr, hg, ⟨rfl, l', hl, rfl⟩, hT, .nil, trivial⟩
        obtain ⟨rfl, rfl⟩ := hcs1.off
        split at hq
        · rename_i r1 hgl1
          cases hc1.D
          split at hq
          · rename_i hst1
            obtain ⟨l3, r1', hi1, hw1, hrel1⟩ := hc1.hr.loop hgl1 (he1.le _ _ hl)
            rw [he1.le _ _ hl] at hi1; cases hi1
            have s1 := m_beginRound (P := P) (b := Frame.round l' r.fn ((r.params.zip vs).foldl (fun t p => t.setIfInBounds p.1 p.2) r'.tmps) r.assign r.body .normal) (t := t1) (d := []) (k := [.code r.body]) (cs := c :: cs) rfl hw1 (hrel1.1.trans hst1)
            obtain ⟨hr2, he2⟩ := hc1.hr.putLoop hgl1 (he1.le _ _ hl) hw1 (r2 := { r1 with state := .busy }) (r2' := { r1' with state := .busy }) ⟨rfl, hrel1.2⟩
            obtain ⟨e, T3, D3, R3, H3, ι3, t3, d3, cs3, w3, hq, hc3, he3, hcs3, ha3⟩ := hF.run _ _ _ _ _ _ _ hq ι1 (Frame.round l' r.fn ((r.params.zip vs).foldl (fun t p => t.setIfInBounds p.1 p.2) r'.tmps) r.assign r.body .normal) t1 [] [] (c :: cs) _
              ⟨hr2, hc1.glob, hc1.sr, hc1.T, .nil, trivial⟩
            obtain ⟨rfl, rfl⟩ := hcs3.off
            have hsteps : Steps P (lone (Frame.round l' r.fn ((r.params.zip vs).foldl (fun t p => t.setIfInBounds p.1 p.2) r'.tmps) r.assign r.body .normal) (c :: cs) w)
                (lone (mk (Frame.round l' r.fn ((r.params.zip vs).foldl (fun t p => t.setIfInBounds p.1 p.2) r'.tmps) r.assign r.body .normal) t1 [] [.code r.body]) (c :: cs) (w1.putObj l' (.loop { r1' with state := .busy }))) :=
              Steps.trans ha1 (.one s1)
            have hext := he1.trans (he2.trans he3)
            -- the end
            have fin : ∀ (k' : List Item) (jump : Option Code), Steps P (lone (mk (Frame.round l' r.fn ((r.params.zip vs).foldl (fun t p => t.setIfInBounds p.1 p.2) r'.tmps) r.assign r.body .normal) t1 [] [.code r.body]) (c :: cs) (w1.putObj l' (.loop { r1' with state := .busy })))
                  (lone (mk (Frame.round l' r.fn ((r.params.zip vs).foldl (fun t p => t.setIfInBounds p.1 p.2) r'.tmps) r.assign r.body .normal) t3 [] k') (c :: cs) w3) →
                ((k' = [] ∧ jump = none) ∨ (∃ k2, k' = .code .ret :: k2 ∧ jump = some .ret) ∨ (∃ id k2, k' = .code (.exit id) :: k2 ∧ exitTo id k2 = none ∧ jump = some (.exit id)) ∨ (∃ g k2, k' = .code (.goto g) :: k2 ∧ gotoIn g k2 = none ∧ jump = some (.goto g))) →
                ∀ r2, H3.get l = some (.loop r2) → Q (.ret (.bool jump.isNone) (H3.upd l (.loop { r2 with state := if jump.isNone then .ready else .done, pending := jump }))) →
                ∃ r3, Q r3 ∧ RetOK P (lone (Frame.round l' r.fn ((r.params.zip vs).foldl (fun t p => t.setIfInBounds p.1 p.2) r'.tmps) r.assign r.body .normal) (c :: cs) w) ι H w c cs r3 := by
              intro k' jump hs hj r2 hgl2 hq2
              obtain ⟨l4, r2', hi2, hw2, hrel2⟩ := hc3.hr.loop hgl2 (he3.le _ _ (he1.le _ _ hl))
              have hi3 := he3.le _ _ (he1.le _ _ hl)
              rw [hi3] at hi2; cases hi2
              have s2 := m_roundEnd (P := P) (b := Frame.round l' r.fn ((r.params.zip vs).foldl (fun t p => t.setIfInBounds p.1 p.2) r'.tmps) r.assign r.body .normal) (t := t3) (c := c) (cs := cs) (e := .normal) rfl rfl hw2 hj
              obtain ⟨hr4, he4⟩ := hc3.hr.putLoop hgl2 hi3 hw2 (r2 := { r2 with state := if jump.isNone then .ready else .done, pending := jump }) (r2' := { r2' with state := if jump.isNone then .ready else .done, pending := jump }) ⟨rfl, rfl, hrel2.2.2⟩
              exact ⟨_, hq2, ι3, _, _, hr4, hext.trans he4, rfl, hsteps.trans (hs.trans (.one s2))⟩
            cases e with
            | panic v =>
              simp only at hq
              split at hq
              · rename_i hD _ a hF1
                cases hc3.D
                obtain ⟨k₁, v', hvr, hs⟩ := ha3
                obtain ⟨fn, hfn, _⟩ := hE.F _ _ hF1
                exact ⟨_, hq, ι3, v', w3, hc3.hr, hext, hvr, hsteps.trans (hs.trans (.one (m_panicked hfn)))⟩
              · exact hq.elim
            | normal =>
              simp only at hq
              split at hq
              · rename_i r2 hgl2
                cases hc3.D
                exact fin [] none ha3 (.inl ⟨rfl, rfl⟩) r2 hgl2 hq
              · exact hq.elim
            | ret =>
              simp only at hq
              split at hq
              · rename_i r2 hgl2
                cases hc3.D
                obtain ⟨k₁, hs⟩ := ha3
                exact fin _ (some .ret) hs (.inr (.inl ⟨_, rfl, rfl⟩)) r2 hgl2 hq
              · exact hq.elim
            | exit id =>
              simp only at hq
              split at hq
              · rename_i r2 hgl2
                cases hc3.D
                obtain ⟨k₁, hs, hx⟩ := ha3
                exact fin _ (some (.exit id)) hs (.inr (.inr (.inl ⟨id, _, rfl, hx, rfl⟩))) r2 hgl2 hq
              · exact hq.elim
            | goto g =>
              simp only at hq
              split at hq
              · rename_i r2 hgl2
                cases hc3.D
                obtain ⟨k₁, hs, hx⟩ := ha3
                exact fin _ (some (.goto g)) hs (.inr (.inr (.inr ⟨g, _, rfl, hx, rfl⟩))) r2 hgl2 hq
              · exact hq.elim
          · exact hq.elim
        · exact hq.elim
      · exact h.elim
  · exact h.elim

theorem invoke_ok (hE : E.OK P) (hF : FnsOK E P F) : ∀ f args H Q, runInvoke E F f args H Q → InvOK E P f args H Q := by
  intro f args H Q h ι w v args' hr hg hfv hav
  unfold runInvoke at h
  split at h
  · rename_i g first cap
    obtain ⟨fn', f', c', h1, h2, h3, rfl⟩ := hfv
    simp only [FnRel] at h1; subst h1
    refine ⟨_, _, _, rfl, ?_⟩
    have := hF.call _ _ _ _ h ι w (f' ++ args' ++ c') hr hg ((h2.append hav).append h3)
    simpa [invoke] using this
  · rename_i l first cap
    obtain ⟨fn', f', c', h1, h2, h3, rfl⟩ := hfv
    obtain ⟨l', hl, rfl⟩ := h1
    refine ⟨_, _, _, rfl, ?_⟩
    have := yield_ok hE hF h hr hg hl (h2.append hav)
    simpa [invoke] using this
  · exact h.elim
end
end Go.Am
