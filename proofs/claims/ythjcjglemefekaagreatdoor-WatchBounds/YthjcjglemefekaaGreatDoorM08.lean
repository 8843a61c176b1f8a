/- A machine that runs the program's code, right of the model for every tape; no condition. What the fast machine's operations that yield a value mean. What the fast machine's operations mean: values. What the fast machine's operations mean: memory. What the fast machine's calls and regions mean. What the fast machine's code means; it is right of the model. The fast machine is right of the model: calls, deferred calls, and all of it. -/
import Derived.Test.YthjcjglemefekaaGreatDoorM07
/-! FxD -/
namespace Go.Am

section
variable {E : Env} {r : AV × FHeap} {T : Fr} {H : FHeap}

theorem oAct_s {x : Operand} {k : AV → Ans} (h : (oAct E x).f T k = some r) : ∃ a, aEval E T.abs x = some a ∧ k a = some r := by
  cases x with
  | tmp t =>
    have h : (slN t).getK T k = some r := h
    obtain ⟨ht, v, hv, hk⟩ := slN_get h
    exact ⟨v, Fr.abs_get ht hv, hk⟩
  | const v =>
    unfold oAct at h
    simp only at h
    split at h
    · rename_i a ha; exact ⟨a, ha, h⟩
    · cases h
  | global g =>
    unfold oAct at h
    simp only at h
    split at h
    · rename_i hb; exact ⟨_, by simp only [aEval]; rw [if_pos (show g < E.nglob from Nat.le_of_ble_eq_true hb)], h⟩
    · cases h
  | func f => exact ⟨_, rfl, h⟩
theorem ooAct_s {x : Option Operand} {k : Option AV → Ans} (h : (ooAct E x).f T k = some r) : ∃ a, aEvalO E T.abs x = some a ∧ k a = some r := by
  cases x with
  | none => exact ⟨none, rfl, h⟩
  | some x =>
    have h : (oAct E x).f T (fun a => k (some a)) = some r := h
    obtain ⟨a, ha, h⟩ := oAct_s h
    exact ⟨some a, by simp only [aEvalO, ha], h⟩
theorem lAct_s : ∀ {l : List Operand} {k : List AV → Ans}, (lAct E l).f T k = some r → ∃ as, aEvals E T.abs l = some as ∧ k as = some r
  | [], k, h => ⟨[], rfl, h⟩
  | x :: l, k, h => by
    have h : (oAct E x).f T (fun a => (lAct E l).f T fun as => k (a :: as)) = some r := h
    obtain ⟨a, ha, h⟩ := oAct_s h
    obtain ⟨as, has, h⟩ := lAct_s h
    exact ⟨a :: as, by simp only [aEvals, ha, has], h⟩

theorem kmax_ok {k : IntKind} {n : Nat} (h : Nat.ble n (kmax k) = true) : fwrap k (.ofNat n) = .ofNat n := by
  have h := Nat.le_of_ble_eq_true h
  cases k
  case i64 =>
    show (bif Nat.ble n 9223372036854775807 then Int.ofNat n else IntKind.i64.wrap (.ofNat n)) = _
    rw [Nat.ble_eq_true_of_le (show n ≤ 9223372036854775807 from h)]; rfl
  case u8 => exact congrArg Int.ofNat (Nat.mod_eq_of_lt (show n < 256 from Nat.lt_succ_of_le h))
  case u16 => exact congrArg Int.ofNat (Nat.mod_eq_of_lt (show n < 65536 from Nat.lt_succ_of_le h))
  case u32 => exact congrArg Int.ofNat (Nat.mod_eq_of_lt (show n < 4294967296 from Nat.lt_succ_of_le h))
  case u64 => exact congrArg Int.ofNat (Nat.mod_eq_of_lt (show n < 18446744073709551616 from Nat.lt_succ_of_le h))
  all_goals (have : n = 0 := Nat.le_zero.1 h; subst this; decide)
theorem wrapK_eq (k : IntKind) (n : Nat) (q : AV → Ans) : wrapK k n q = q (.int k (fwrap k (.ofNat n))) := by
  unfold wrapK
  cases h : Nat.ble n (kmax k)
  · exact forceK_eq (.int k (fwrap k (.ofNat n))) q
  · rw [kmax_ok h]; rfl
theorem boolK_eq (b : Bool) (q : AV → Ans) : boolK b q = q (.bool b) := by cases b <;> rfl
theorem notK_eq (b : Bool) (q : AV → Ans) : notK b q = q (.bool !b) := by cases b <;> rfl
theorem slowI_s {op : BinOp} {k : IntKind} {x y : Int} {q : AV → Ans} (h : slowI op k x y q = some r) : ∃ v, aInt2 op k x y = some v ∧ q v = some r := by
  obtain ⟨v, hv, h⟩ := oK_s h
  rw [forceK_eq] at h
  exact ⟨v, hv, h⟩
theorem iAct_s {op : BinOp} {k : IntKind} {x y : Int} {q : AV → Ans} (h : (iAct op).f k x y q = some r) : ∃ v, aInt2 op k x y = some v ∧ q v = some r := by
  cases op
  case add =>
    have h : nnK x y (fun a b => wrapK k (Nat.add a b) q) (slowI .add k x y q) = some r := h
    cases x <;> cases y <;> first | exact slowI_s h | skip
    rename_i a b _
    have h : wrapK k (Nat.add a b) q = some r := h
    rw [wrapK_eq] at h
    exact ⟨_, rfl, h⟩
  case sub =>
    have h : nnK x y (fun a b => bK (Nat.ble b a) (wrapK k (Nat.sub a b) q) (slowI .sub k x y q)) (slowI .sub k x y q) = some r := h
    cases x <;> cases y <;> first | exact slowI_s h | skip
    rename_i a b _
    rcases bK_s (show bK (Nat.ble b a) (wrapK k (Nat.sub a b) q) (slowI .sub k (.ofNat a) (.ofNat b) q) = some r from h) with ⟨hb, h⟩ | ⟨_, h⟩
    · rw [wrapK_eq] at h
      have hb := Nat.le_of_ble_eq_true hb
      have e : (Int.ofNat a - Int.ofNat b) = Int.ofNat (Nat.sub a b) := by
        show (a : Int) - (b : Int) = ((a - b : Nat) : Int); omega
      exact ⟨_, by simp only [aInt2, e], h⟩
    · exact slowI_s h
  case mul =>
    have h : nnK x y (fun a b => wrapK k (Nat.mul a b) q) (slowI .mul k x y q) = some r := h
    cases x <;> cases y <;> first | exact slowI_s h | skip
    rename_i a b _
    have h : wrapK k (Nat.mul a b) q = some r := h
    rw [wrapK_eq] at h
    exact ⟨_, rfl, h⟩
  case eql => exact ⟨_, rfl, (boolK_eq _ q).symm.trans h⟩
  case neq => exact ⟨_, rfl, (notK_eq _ q).symm.trans h⟩
  case lss => exact ⟨_, rfl, (notK_eq _ q).symm.trans h⟩
  case leq => exact ⟨_, rfl, (boolK_eq _ q).symm.trans h⟩
  case gtr => exact ⟨_, rfl, (notK_eq _ q).symm.trans h⟩
  case geq => exact ⟨_, rfl, (boolK_eq _ q).symm.trans h⟩
  all_goals exact slowI_s h

theorem kcode_inj {a b : IntKind} (h : Nat.beq (kcode a) (kcode b) = true) : a = b := by
  have h := Nat.eq_of_beq_eq_true h
  cases a <;> cases b <;> first | rfl | (simp [kcode] at h)

theorem ldAct_s {t : TypeId} {p : Nat × Nat} {k : AV → Ans} (h : (ldAct E t).f H p k = some r) : ∃ v, aLoad E H.abs t p = some v ∧ k v = some r := by
  unfold ldAct at h
  split at h
  · cases h
  · rename_i i hi
    split at h
    · rename_i ha
      have h : H.cellsK p.1 (fun c => atK c p.2 i.size fun r => k (.agg r)) = some r := h
      obtain ⟨c, hc, h⟩ := cellsK_s h
      obtain ⟨h1, h⟩ := atK_s h
      exact ⟨_, by simp only [aLoad, hi, hc, ha, if_true, if_pos h1], h⟩
    · rename_i ha
      have h : H.cellsK p.1 (fun c => nthK c p.2 k) = some r := h
      obtain ⟨c, hc, h⟩ := cellsK_s h
      obtain ⟨a, h1, h⟩ := nthK_s h
      exact ⟨a, by simp only [aLoad, hi, hc, ha, Bool.false_eq_true, if_false, h1], h⟩

theorem pAct_s {j : TI} {off : Nat} {cs : List AV} {k : AV → Ans} (h : (pAct j).f cs off k = some r) : ∃ v, aPart j cs off = some v ∧ k v = some r := by
  unfold pAct at h
  split at h
  · rename_i ha
    obtain ⟨h1, h⟩ := atK_s h
    exact ⟨_, by simp only [aPart, ha, if_true, if_pos h1], h⟩
  · rename_i ha
    obtain ⟨a, h1, h⟩ := nthK_s h
    exact ⟨a, by simp only [aPart, ha, Bool.false_eq_true, if_false, h1], h⟩

theorem fieldOf_s {t : TypeId} {f : Nat} {off : Nat} {j : TI} (h : fieldOf E t f = some (off, j)) :
    ∃ i fs fd, E.T t = some i ∧ i.desc = .struct fs ∧ fs.toList[f]? = some fd ∧ E.T fd.type = some j ∧ fd.offset = off := by
  unfold fieldOf at h
  split at h
  · rename_i i hi
    split at h
    · rename_i fs hd
      split at h
      · rename_i fd hf
        split at h
        · rename_i j' hj; cases h; exact ⟨i, fs, fd, hi, hd, hf, hj, rfl⟩
        · cases h
      · cases h
    · cases h
  · cases h

/-! Keys. -/
theorem sameKey_int {k k' : IntKind} {a b : Int} (h : Nat.beq (kcode k') (kcode k) = true) : sameKey (.int k a) (.int k' b) = some (ieq a b) := by
  have := kcode_inj h; subst this
  simp [sameKey]
theorem findN_s {kd : IntKind} {n : Nat} {r : AV × FHeap} {k : Nat → AV → Ans} {d : Ans} : ∀ {es : List AEntry} {i : Nat}, findN (kcode kd) n es i k d = some r →
    (∃ j v, aFind (.int kd (.ofNat n)) es i = some (some (j, v)) ∧ k j v = some r) ∨ (aFind (.int kd (.ofNat n)) es i = some none ∧ d = some r)
  | [], i, h => .inr ⟨rfl, h⟩
  | ⟨key, val, born⟩ :: es, i, h => by
    have h : key.asInt (fun kd' m => bK (Nat.beq (kcode kd') (kcode kd)) (Int.rec (motive := fun _ => Ans) (fun m => bK (Nat.beq n m) (k i val) (findN (kcode kd) n es (i + 1) k d)) (fun _ => findN (kcode kd) n es (i + 1) k d) m) bad) bad = some r := h
    rcases asInt_s h with ⟨kd', m, rfl, h⟩ | ⟨_, h⟩
    · obtain ⟨hc, h⟩ := bK_t h
      have hs := sameKey_int (a := .ofNat n) (b := m) hc
      cases m with
      | ofNat m =>
        rcases bK_s (show bK (Nat.beq n m) (k i val) (findN (kcode kd) n es (i + 1) k d) = some r from h) with ⟨hb, h⟩ | ⟨hb, h⟩
        · refine .inl ⟨i, val, ?_, h⟩
          simp only [aFind, hs, ieq, hb]
        · have e : aFind (.int kd (.ofNat n)) (⟨.int kd' (.ofNat m), val, born⟩ :: es) i = aFind (.int kd (.ofNat n)) es (i + 1) := by simp only [aFind, hs, ieq, hb]
          rw [e]; exact findN_s h
      | negSucc m =>
        have e : aFind (.int kd (.ofNat n)) (⟨.int kd' (.negSucc m), val, born⟩ :: es) i = aFind (.int kd (.ofNat n)) es (i + 1) := by simp only [aFind, hs, ieq]
        rw [e]; exact findN_s h
    · cases h
theorem findK_s {key : AV} {es : List AEntry} {k : Nat → AV → Ans} {d : Ans} (h : findK key es k d = some r) :
    (∃ j v, aFind key es 0 = some (some (j, v)) ∧ k j v = some r) ∨ (aFind key es 0 = some none ∧ d = some r) := by
  have slow : oK (aFind key es 0) (fun q => eitherK q (fun q => pairK q k) d) = some r → (∃ j v, aFind key es 0 = some (some (j, v)) ∧ k j v = some r) ∨ (aFind key es 0 = some none ∧ d = some r) := by
    intro h
    obtain ⟨q, hq, h⟩ := oK_s h
    rcases eitherK_s h with ⟨⟨j, v⟩, rfl, h⟩ | ⟨rfl, h⟩
    · exact .inl ⟨j, v, hq, h⟩
    · exact .inr ⟨hq, h⟩
  unfold findK at h
  rcases asInt_s h with ⟨kd, n, rfl, h⟩ | ⟨_, h⟩
  · cases n with
    | ofNat n => exact findN_s h
    | negSucc n => exact slow h
  · exact slow h

theorem mapOf_s {t : TypeId} {mt : MapT} (h : mapOf E t = some mt) : ∃ i kt et ik ie, E.T t = some i ∧ i.desc = .map kt et ∧ E.T kt = some ik ∧ E.T et = some ie ∧ mt = ⟨ik.desc, ie.zero⟩ := by
  unfold mapOf at h
  split at h
  · rename_i i hi
    split at h
    · rename_i kt et hd
      split at h
      · rename_i ik ie h1 h2; cases h; exact ⟨i, kt, et, ik, ie, hi, hd, h1, h2, rfl⟩
      · cases h
    · cases h
  · cases h
theorem keyOf_s {t : TypeId} {kd : TypeDesc} (h : keyOf E t = some kd) : ∃ i kt et ik, E.T t = some i ∧ i.desc = .map kt et ∧ E.T kt = some ik ∧ kd = ik.desc := by
  unfold keyOf at h
  split at h
  · rename_i i hi
    split at h
    · rename_i kt et hd
      split at h
      · rename_i ik h1; cases h; exact ⟨i, kt, et, ik, hi, hd, h1, rfl⟩
      · cases h
    · cases h
  · cases h

theorem lookAct_s {t : TypeId} {x i : Operand} {ok : Bool} {k : AV → Ans} (h : (lookAct E t x i ok).f T H k = some r) :
    ∃ a b v, aEval E T.abs x = some a ∧ aEval E T.abs i = some b ∧ aLookup E H.abs t a b ok = some v ∧ k v = some r := by
  unfold lookAct at h
  split at h
  · cases h
  rename_i mt hmt
  split at h
  · cases h
  rename_i z hz
  obtain ⟨ti, kt, et, ik, ie, h1, h2, h3, h4, rfl⟩ := mapOf_s hmt
  obtain ⟨a, ha, h⟩ := oAct_s h
  obtain ⟨b, hb, h⟩ := oAct_s h
  obtain ⟨hk, h⟩ := bK_t h
  obtain ⟨m, rfl, h⟩ := asMap_s h
  have fin : ∀ (v : AV) (b : Bool), bK ok (k (.tuple [v, .bool b])) (k v) = some r → k (bif ok then .tuple [v, .bool b] else v) = some r := by
    intro v b h; cases ok <;> exact h
  have hz : ie.zero = some z := hz
  have hk : keyKind ik.desc b = true := hk
  rcases eitherK_s h with ⟨q, rfl, h⟩ | ⟨rfl, h⟩
  · obtain ⟨o, ho, h⟩ := objK_s h
    obtain ⟨es, cl, rfl, h⟩ := asMapO_s h
    have ho : H.abs.get q = some (.map es cl) := ho
    rcases findK_s h with ⟨j, v, hf, h⟩ | ⟨hf, h⟩
    · exact ⟨_, b, _, ha, hb, by simp only [aLookup, h1, h2, h3, h4, hk, cond_true, ho, hf], fin v true h⟩
    · exact ⟨_, b, _, ha, hb, by simp only [aLookup, h1, h2, h3, h4, hk, cond_true, ho, hf, hz], fin z false h⟩
  · exact ⟨_, b, _, ha, hb, by simp only [aLookup, h1, h2, h3, h4, hk, cond_true, aFind, hz], fin z false h⟩

theorem fillAct_s {place : Nat → Option (Nat × Nat)} : ∀ {ps : List (Nat × Operand)} {c : List AV} {k : List AV → Ans}, (fillAct E place ps).f T c k = some r →
    ∃ as c', aParts E T.abs ps = some as ∧ aFill place c as = some c' ∧ k c' = some r
  | [], c, k, h => ⟨[], c, rfl, rfl, h⟩
  | (i, x) :: ps, c, k, h => by
    have h : (match place i with
      | none => (⟨fun _ _ _ => bad⟩ : FillAct)
      | some q => ⟨fun T c k => (oAct E x).f T fun a => bK a.nt (bK (lenIs a.cells q.2) (spliceK c q.1 a.cells fun c => (fillAct E place ps).f T c k) bad) bad⟩).f T c k = some r := h
    split at h
    · cases h
    · rename_i q hq
      obtain ⟨a, ha, h⟩ := oAct_s h
      obtain ⟨hnt, h⟩ := bK_t h
      obtain ⟨hl, h⟩ := bK_t h
      have hl := lenIs_eq hl
      obtain ⟨h1, h⟩ := spliceK_s h
      obtain ⟨as, c', g1, g2, g3⟩ := fillAct_s h
      refine ⟨(i, a) :: as, c', by simp only [aParts, ha, g1], ?_, g3⟩
      obtain ⟨off, size⟩ := q
      simp only [aFill, hq]
      have e : (Nat.beq a.cells.length size && (Nat.ble (off + size) c.length && a.nt)) = true := by
        simp only [Bool.and_eq_true, Nat.beq_eq, Nat.ble_eq]
        exact ⟨hl, by simp only at hl h1; omega, hnt⟩
      rw [e]
      exact g2

theorem sourceK_s {size : Nat} {x : AV} {k : Nat → List AV → Ans} (h : sourceK H size x k = some r) : ∃ n c, aSource H.abs size x = some (n, c) ∧ k n c = some r := by
  unfold sourceK at h
  rcases asSlice_s h with ⟨p, n, c, m, rfl, h⟩ | ⟨_, h⟩
  · rcases eitherK_s h with ⟨⟨b, o⟩, rfl, h⟩ | ⟨rfl, h⟩
    · obtain ⟨cs, hc, h⟩ := cellsK_s (show H.cellsK b (fun c => dropK c o fun c => takeK c (Nat.mul n size) fun c => k n c) = some r from h)
      obtain ⟨h1, h⟩ := dropK_s h
      obtain ⟨h2, h⟩ := takeK_s h
      refine ⟨n, _, ?_, h⟩
      have e : Nat.ble (o + n * size) cs.length = true := by
        simp only [List.length_drop] at h2
        have h2 : n * size ≤ cs.length - o := h2
        simp only [Nat.ble_eq]; omega
      simp only [aSource, hc, e, cond_true]
      rfl
    · exact ⟨0, [], rfl, h⟩
  · split at h
    · rename_i s
      obtain ⟨hs, h⟩ := bK_t h
      exact ⟨_, _, by simp only [aSource, hs, cond_true], h⟩
    · cases h
end
end Go.Am
/-! FxE -/
namespace Go.Am

section
variable {E : Env} {r : AV × FHeap} {T : Fr} {H : FHeap}

theorem addPtr_s {p : Nat × Nat} {d : Nat} {k : AV → Ans} (h : addPtr p d k = some r) : k (.ptr (some (p.1, p.2 + d))) = some r := h

theorem buildAct_s {t : TypeId} {ps : List (Nat × Operand)} {k : AV → Ans} (h : (buildAct E t ps).f T H k = some r) :
    ∃ as v, aParts E T.abs ps = some as ∧ aBuild E t as = some v ∧ k v = some r := by
  unfold buildAct at h
  split at h
  · cases h
  rename_i i hi
  split at h
  · rename_i n e z hd hz
    split at h
    · rename_i ie hie
      split at h
      · rename_i hc
        obtain ⟨as, c', g1, g2, g3⟩ := fillAct_s h
        exact ⟨as, _, g1, by simp only [aBuild, hi, hd, hz, hie, hc, cond_true, g2], g3⟩
      · cases h
    · cases h
  · rename_i fs z hd hz
    split at h
    · rename_i places hp
      split at h
      · rename_i hc
        obtain ⟨as, c', g1, g2, g3⟩ := fillAct_s h
        exact ⟨as, _, g1, by simp only [aBuild, hi, hd, hz, hp, hc, cond_true, g2], g3⟩
      · cases h
    · cases h
  · cases h

theorem aIx_of {m n : Nat} {kd : IntKind} (h : Nat.blt m n = true) : aIx (.int kd (.ofNat m)) n = some m := by
  simp only [aIx, h, cond_true]

theorem ixAct_s {t : TypeId} {x i : Operand} {k : AV → Ans} (h : (ixAct E t x i).f T H k = some r) :
    ∃ a b v, aEval E T.abs x = some a ∧ aEval E T.abs i = some b ∧ aIndexAddr E t a b = some v ∧ k v = some r := by
  unfold ixAct at h
  split at h
  · cases h
  rename_i ti hti
  split at h
  · rename_i n e hd
    split at h
    · rename_i j hj
      obtain ⟨a, ha, h⟩ := oAct_s h
      obtain ⟨b, hb, h⟩ := oAct_s h
      obtain ⟨p, rfl, h⟩ := asPtr_s h
      obtain ⟨kd, m, rfl, h⟩ := asNat_s h
      obtain ⟨hm, h⟩ := bK_t h
      exact ⟨_, _, _, ha, hb, by simp only [aIndexAddr, hti, hd, hj, aIx_of hm]; rfl, addPtr_s h⟩
    · cases h
  · rename_i e hd
    split at h
    · rename_i j hj
      obtain ⟨a, ha, h⟩ := oAct_s h
      obtain ⟨b, hb, h⟩ := oAct_s h
      obtain ⟨p, n, c, mo, rfl, h⟩ := asSlice_b h
      rcases eitherK_s h with ⟨p, rfl, h⟩ | ⟨_, h⟩
      · obtain ⟨kd, m, rfl, h⟩ := asNat_s h
        obtain ⟨hm, h⟩ := bK_t h
        exact ⟨_, _, _, ha, hb, by simp only [aIndexAddr, hti, hd, hj, aIx_of hm]; rfl, addPtr_s h⟩
      · cases h
    · cases h
  · cases h

theorem indexAct_s {t : TypeId} {x i : Operand} {k : AV → Ans} (h : (indexAct E t x i).f T H k = some r) :
    ∃ a b v, aEval E T.abs x = some a ∧ aEval E T.abs i = some b ∧ aIndex E t a b = some v ∧ k v = some r := by
  unfold indexAct at h
  split at h
  · cases h
  rename_i ti hti
  split at h
  · rename_i n e hd
    split at h
    · rename_i j hj
      obtain ⟨a, ha, h⟩ := oAct_s h
      obtain ⟨b, hb, h⟩ := oAct_s h
      obtain ⟨cs, rfl, h⟩ := asAgg_s h
      obtain ⟨kd, m, rfl, h⟩ := asNat_s h
      obtain ⟨hm, h⟩ := bK_t h
      obtain ⟨v, hv, h⟩ := pAct_s h
      exact ⟨_, _, v, ha, hb, by simp only [aIndex, hti, hd, hj, aIx_of hm]; exact hv, h⟩
    · cases h
  · obtain ⟨a, ha, h⟩ := oAct_s h
    obtain ⟨b, hb, h⟩ := oAct_s h
    obtain ⟨v, hv, h⟩ := oK_s h
    rw [forceK_eq] at h
    exact ⟨a, b, v, ha, hb, hv, h⟩

theorem lenAct_s {t : TypeId} {x : Operand} {k : AV → Ans} (h : (lenAct E t x).f T H k = some r) :
    ∃ a v, aEval E T.abs x = some a ∧ aLen E H.abs t a = some v ∧ k v = some r := by
  unfold lenAct at h
  split at h
  · cases h
  rename_i i hi
  split at h
  · rename_i e hd
    obtain ⟨a, ha, h⟩ := oAct_s h
    obtain ⟨p, n, c, mo, rfl, h⟩ := asSlice_b h
    exact ⟨_, _, ha, by simp only [aLen, hi, hd], h⟩
  · rename_i e hd
    obtain ⟨a, ha, h⟩ := oAct_s h
    obtain ⟨m, rfl, h⟩ := asMap_s h
    rcases eitherK_s h with ⟨q, rfl, h⟩ | ⟨rfl, h⟩
    · obtain ⟨o, ho, h⟩ := objK_s h
      obtain ⟨es, cl, rfl, h⟩ := asMapO_s h
      have ho : H.abs.get q = some (.map es cl) := ho
      exact ⟨_, _, ha, by simp only [aLen, hi, hd, ho], h⟩
    · exact ⟨_, _, ha, by simp only [aLen, hi, hd], h⟩
  · rename_i n e hd
    obtain ⟨a, ha, h⟩ := oAct_s h
    exact ⟨a, _, ha, by simp only [aLen, hi, hd], h⟩
  · rename_i hd
    obtain ⟨a, ha, h⟩ := oAct_s h
    split at h
    · exact ⟨_, _, ha, by simp only [aLen, hi, hd], h⟩
    · cases h
  · cases h

theorem toStrOK_s {s d : TypeId} (h : toStrOK E s d = true) : ∃ i j e k, E.T s = some i ∧ E.T d = some j ∧ i.desc = .slice e ∧ j.desc = .string ∧ E.T e = some k ∧ k.desc = .int .u8 := by
  unfold toStrOK at h
  split at h
  · rename_i i j hi hj
    split at h
    · rename_i e hd1 hd2
      split at h
      · rename_i k hk
        split at h
        · rename_i hd3; exact ⟨i, j, e, k, hi, hj, hd1, hd2, hk, hd3⟩
        · cases h
      · cases h
    · cases h
  · cases h
theorem toBytesOK_s {s d : TypeId} (h : toBytesOK E s d = true) : ∃ i j e k, E.T s = some i ∧ E.T d = some j ∧ i.desc = .string ∧ j.desc = .slice e ∧ E.T e = some k ∧ k.desc = .int .u8 := by
  unfold toBytesOK at h
  split at h
  · rename_i i j hi hj
    split at h
    · rename_i e hd1 hd2
      split at h
      · rename_i k hk
        split at h
        · rename_i hd3; exact ⟨i, j, e, k, hi, hj, hd1, hd2, hk, hd3⟩
        · cases h
      · cases h
    · cases h
  · cases h

theorem vAct_s {op : Op} {k : AV → Ans} (h : (vAct E op).f T H k = some r) : ∃ v, aVal E T.abs H.abs op = some v ∧ k v = some r := by
  cases op
  case move x => exact oAct_s h
  case assign x => exact oAct_s h
  case pick c a b =>
    obtain ⟨v, hv, h⟩ := oAct_s (show (oAct E c).f T (fun v => v.asBool (fun r => bK r ((oAct E a).f T k) ((oAct E b).f T k)) bad) = some r from h)
    obtain ⟨b', rfl, h⟩ := asBool_b h
    rcases bK_s h with ⟨rfl, h⟩ | ⟨rfl, h⟩
    · obtain ⟨a, ha, h⟩ := oAct_s h; exact ⟨a, by simp only [aVal, hv, ha], h⟩
    · obtain ⟨a, ha, h⟩ := oAct_s h; exact ⟨a, by simp only [aVal, hv, ha], h⟩
  case nilCheck x =>
    obtain ⟨a, ha, h⟩ := oAct_s (show (oAct E x).f T (fun a => oK (aNil a) k) = some r from h)
    obtain ⟨v, hv, h⟩ := oK_s h
    exact ⟨v, by simp only [aVal, ha, hv], h⟩
  case binOp op t x y yt =>
    have slow : ∀ {a b : AV}, aEval E T.abs x = some a → aEval E T.abs y = some b → oK (aBin E op t (x.isLit || y.isLit) a b) (fun v => v.forceK k) = some r → ∃ v, aVal E T.abs H.abs (.binOp op t x y yt) = some v ∧ k v = some r := by
      intro a b ha hb h
      obtain ⟨v, hv, h⟩ := oK_s h
      rw [forceK_eq] at h
      exact ⟨v, by simp only [aVal, ha, hb, hv], h⟩
    unfold vAct at h
    simp only at h
    split at h
    · obtain ⟨a, ha, h⟩ := oAct_s h
      obtain ⟨b, hb, h⟩ := oAct_s h
      exact slow ha hb h
    · rename_i hs
      obtain ⟨a, ha, h⟩ := oAct_s h
      obtain ⟨b, hb, h⟩ := oAct_s h
      rcases asInt_s h with ⟨ka, n, rfl, h⟩ | ⟨_, h⟩
      · rcases asInt_s h with ⟨kb, m, rfl, h⟩ | ⟨_, h⟩
        · obtain ⟨hc, g⟩ := bK_t h
          have := kcode_inj hc; subst this
          obtain ⟨v, hv, g⟩ := iAct_s g
          refine ⟨v, ?_, g⟩
          simp only [aVal, ha, hb]
          cases op <;> first | (cases hs; done) | simpa [aBin] using hv
        · exact slow ha hb h
      · exact slow ha hb h
  case unOp op t x =>
    cases op
    case not =>
      obtain ⟨a, ha, h⟩ := oAct_s (show (oAct E x).f T (fun v => v.asBool (fun b => bK b (k (.bool false)) (k (.bool true))) bad) = some r from h)
      obtain ⟨b, rfl, h⟩ := asBool_b h
      exact ⟨.bool !b, by simp only [aVal, ha, aUn], by cases b <;> exact h⟩
    all_goals
      obtain ⟨a, ha, h⟩ := oAct_s h
      obtain ⟨v, hv, h⟩ := oK_s h
      rw [forceK_eq] at h
      exact ⟨v, by simp only [aVal, ha, hv], h⟩
  case convert s d x =>
    unfold vAct at h
    simp only at h
    split at h
    · rename_i ho
      obtain ⟨i, j, e, q, h1, h2, h3, h4, h5, h6⟩ := toStrOK_s ho
      obtain ⟨a, ha, h⟩ := oAct_s h
      obtain ⟨p, n, c, m, rfl, h⟩ := asSlice_b h
      obtain ⟨n', cs, hs, h⟩ := sourceK_s h
      obtain ⟨bs, hbs, h⟩ := oK_s h
      exact ⟨_, by simp only [aVal, ha, aConv, h1, h2, h3, h4, aToString, h5, h6, hs, hbs], h⟩
    · obtain ⟨a, ha, h⟩ := oAct_s h
      obtain ⟨v, hv, h⟩ := oK_s h
      rw [forceK_eq] at h
      exact ⟨v, by simp only [aVal, ha, hv], h⟩
  case makeFunc fn first cap =>
    unfold vAct at h
    simp only at h
    split at h
    · rename_i hp
      obtain ⟨f, hf, h⟩ := lAct_s h
      obtain ⟨c, hc, h⟩ := lAct_s h
      exact ⟨_, by simp only [aVal, hf, hc, hp, cond_true], h⟩
    · cases h
  case fieldAddr t x f =>
    unfold vAct at h
    simp only at h
    split at h
    · rename_i off j hfo
      obtain ⟨i, fs, fd, h1, h2, h3, h4, rfl⟩ := fieldOf_s hfo
      split at h
      · cases h
      · rename_i hz
        obtain ⟨a, ha, h⟩ := oAct_s h
        obtain ⟨p, rfl, h⟩ := asPtr_s h
        exact ⟨_, by simp only [aVal, ha, aFieldAddr, h1, h2, h3, h4, hz, cond_false], addPtr_s h⟩
    · cases h
  case field t x f =>
    unfold vAct at h
    simp only at h
    split at h
    · rename_i off j hfo
      obtain ⟨i, fs, fd, h1, h2, h3, h4, rfl⟩ := fieldOf_s hfo
      obtain ⟨a, ha, h⟩ := oAct_s h
      obtain ⟨cs, rfl, h⟩ := asAgg_s h
      obtain ⟨v, hv, h⟩ := pAct_s h
      exact ⟨v, by simp only [aVal, ha, aField, h1, h2, h3, h4]; exact hv, h⟩
    · cases h
  case extract x i =>
    obtain ⟨a, ha, h⟩ := oAct_s (show (oAct E x).f T (fun a => a.asTuple (fun vs => nthK vs i k) bad) = some r from h)
    obtain ⟨vs, rfl, h⟩ := asTuple_s h
    obtain ⟨v, hv, h⟩ := nthK_s h
    exact ⟨v, by simp only [aVal, ha, aExtract]; exact hv, h⟩
  case load t x =>
    obtain ⟨a, ha, h⟩ := oAct_s (show (oAct E x).f T (fun a => a.asPtr (fun p => (ldAct E t).f H p k) bad) = some r from h)
    obtain ⟨p, rfl, h⟩ := asPtr_s h
    obtain ⟨v, hv, h⟩ := ldAct_s h
    exact ⟨v, by simp only [aVal, ha, hv], h⟩
  case slice t x lo hi mx =>
    obtain ⟨a, ha, h⟩ := oAct_s (show (oAct E x).f T (fun a => (ooAct E lo).f T fun l => (ooAct E hi).f T fun h => (ooAct E mx).f T fun m => oK (aSlice E t a l h m) fun v => v.forceK k) = some r from h)
    obtain ⟨l, hl, h⟩ := ooAct_s h
    obtain ⟨hh, hhh, h⟩ := ooAct_s h
    obtain ⟨m, hm, h⟩ := ooAct_s h
    obtain ⟨v, hv, h⟩ := oK_s h
    rw [forceK_eq] at h
    exact ⟨v, by simp only [aVal, ha, hl, hhh, hm, hv], h⟩
  case indexAddr t x i =>
    obtain ⟨a, b, v, ha, hb, hv, h⟩ := ixAct_s h
    exact ⟨v, by simp only [aVal, ha, hb, hv], h⟩
  case index t x i =>
    obtain ⟨a, b, v, ha, hb, hv, h⟩ := indexAct_s h
    exact ⟨v, by simp only [aVal, ha, hb, hv], h⟩
  case lookup t x i ok =>
    obtain ⟨a, b, v, ha, hb, hv, h⟩ := lookAct_s h
    exact ⟨v, by simp only [aVal, ha, hb, hv], h⟩
  case build t ps =>
    obtain ⟨as, v, ha, hv, h⟩ := buildAct_s h
    exact ⟨v, by simp only [aVal, ha, hv], h⟩
  case makeInterface t x =>
    unfold vAct at h
    simp only at h
    split at h
    · rename_i ho
      obtain ⟨a, ha, h⟩ := oAct_s h
      split at ho
      · rename_i i hi
        refine ⟨_, ?_, h⟩
        simp only [aVal, ha, hi]
        split
        · rename_i hd; rw [hd] at ho; cases ho
        · rfl
      · cases ho
    · cases h
  case entry x =>
    obtain ⟨a, ha, h⟩ := oAct_s (show (oAct E x).f T (fun a => a.asPtr (fun p => pairK p fun b o => bK (Nat.beq o 0) (H.objK b fun it => it.asIter fun m _ seen last => oK m fun m => H.objK m fun o => o.asMap fun es clock =>
      bK (Nat.beq clock last) (oK seen.getLast? fun st => oK (es.find? fun e => Nat.beq e.born st) fun e => k (.tuple [e.key, e.val])) bad) bad) bad) = some r from h)
    obtain ⟨⟨b, o⟩, rfl, h⟩ := asPtr_s h
    obtain ⟨ho, h⟩ := bK_t (show bK (Nat.beq o 0) _ bad = some r from h)
    have ho := Nat.eq_of_beq_eq_true ho; subst ho
    obtain ⟨ob, hob, h⟩ := objK_s h
    obtain ⟨m, si, seen, last, rfl, h⟩ := asIter_s h
    obtain ⟨m, rfl, h⟩ := oK_s h
    obtain ⟨om, hom, h⟩ := objK_s h
    obtain ⟨es, cl, rfl, h⟩ := asMapO_s h
    obtain ⟨hcl, h⟩ := bK_t h
    obtain ⟨st, hst, h⟩ := oK_s h
    obtain ⟨e, he, h⟩ := oK_s h
    have hob : H.abs.get b = some (.miter (some m) si seen last) := hob
    have hom : H.abs.get m = some (.map es cl) := hom
    refine ⟨_, ?_, h⟩
    have eqf : (fun e : AEntry => e.born == st) = fun e => Nat.beq e.born st := by funext e; rw [Bool.eq_iff_iff]; simp
    have he : es.find? (fun e => e.born == st) = some e := by rw [eqf]; exact he
    simp only [aVal, ha, aEntry, hob, hom, hst, hcl, cond_true, he]
  case typeAssert x xt t ok =>
    obtain ⟨a, ha, h⟩ := oAct_s (show (oAct E x).f T (fun a => oK (aAssert E a t ok) k) = some r from h)
    obtain ⟨v, hv, h⟩ := oK_s h
    exact ⟨v, by simp only [aVal, ha, hv], h⟩
  case call c =>
    obtain ⟨callee, args, at'⟩ := c
    cases callee with
    | value f => cases h
    | invoke a b => cases h
    | builtin b =>
      cases b
      case len =>
        unfold vAct at h
        simp only at h
        split at h
        · rename_i a t h1 h2
          obtain ⟨a', v, ha, hv, h⟩ := lenAct_s h
          exact ⟨v, by simp only [aVal, h1, h2, aEvals, ha, hv], h⟩
        · cases h
      case cap =>
        unfold vAct at h
        simp only at h
        split at h
        · rename_i a t h1 h2
          obtain ⟨a', ha, h⟩ := oAct_s h
          obtain ⟨v, hv, h⟩ := oK_s h
          exact ⟨v, by simp only [aVal, h1, h2, aEvals, ha, hv], h⟩
        · cases h
      case max =>
        obtain ⟨as, ha, h⟩ := lAct_s (show (lAct E args.toList).f T (fun as => oK (aMax as) fun v => v.forceK k) = some r from h)
        obtain ⟨v, hv, h⟩ := oK_s h
        rw [forceK_eq] at h
        exact ⟨v, by simp only [aVal, ha, hv], h⟩
      case min =>
        obtain ⟨as, ha, h⟩ := lAct_s (show (lAct E args.toList).f T (fun as => oK (aMin as) fun v => v.forceK k) = some r from h)
        obtain ⟨v, hv, h⟩ := oK_s h
        rw [forceK_eq] at h
        exact ⟨v, by simp only [aVal, ha, hv], h⟩
      all_goals (cases h; done)
  all_goals (cases h; done)
end
end Go.Am
/-! FxF -/
namespace Go.Am

section
variable {E : Env} {r : AV × FHeap} {T : Fr} {H : FHeap}

theorem elemOf_s {t : TypeId} {ie : TI} (h : elemOf E t = some ie) : ∃ i e, E.T t = some i ∧ i.desc = .slice e ∧ E.T e = some ie := by
  unfold elemOf at h
  split at h
  · rename_i i hi
    split at h
    · rename_i e hd; exact ⟨i, e, hi, hd, h⟩
    · cases h
  · cases h

theorem stAct_s {t : TypeId} {p : Nat × Nat} {x : AV} {k : FHeap → Ans} (h : (stAct E t).f H p x k = some r) : ∃ H', aStore E H.abs t p x = some H'.abs ∧ k H' = some r := by
  unfold stAct at h
  split at h
  · cases h
  rename_i i hi
  obtain ⟨hnt, h⟩ := bK_t h
  obtain ⟨hl, h⟩ := bK_t h
  have hl := lenIs_eq hl
  obtain ⟨c, hc, h⟩ := cellsK_s (show H.cellsK p.1 (fun c => layK c p.2 x.cells i.size fun c => H.updK p.1 (.cells c) k) = some r from h)
  obtain ⟨h1, h⟩ := layK_s hl h
  obtain ⟨H', hH, h⟩ := updK_s h
  refine ⟨H', ?_, h⟩
  simp only [aStore, hi, hc]
  rw [if_pos ⟨hl, by omega, hnt⟩, hH]
  rfl

theorem newSlice_s {t : TypeId} {n : Nat} {ps : List (Nat × Operand)} {k : AV → FHeap → Ans} (h : (newSlice E t n ps).f T H k = some r) :
    ∃ as v H', aParts E T.abs ps = some as ∧ aBuildSlice E H.abs t n as = some (v, H'.abs) ∧ k v H' = some r := by
  unfold newSlice at h
  split at h
  · cases h
  rename_i ie hie
  obtain ⟨i, e, h1, h2, h3⟩ := elemOf_s hie
  split at h
  · cases h
  rename_i z hz
  split at h
  · rename_i hc
    have h : repK z.cells n (fun c => (fillAct E (fun i => some (i * ie.size, ie.size)) ps).f T c fun c => H.pushK (.cells c) fun H' => k (.slice (some (H.next, 0)) n n 0) H') = some r := h
    rw [repK_eq] at h
    obtain ⟨as, c', g1, g2, h⟩ := fillAct_s h
    obtain ⟨H', hH, h⟩ := pushK_s h
    refine ⟨as, _, H', g1, ?_, h⟩
    simp only [aBuildSlice, h1, h2, h3, hz, hc, cond_true, g2, hH]
    rfl
  · cases h

theorem feedK_s {ie : TI} {d : TypeDesc} {z x : AV} {k : Nat → List AV → Ans} (h : feedK H ie d z x k = some r) : ∃ n xs, aFeed H.abs ie d z x = some (n, xs) ∧ k n xs = some r := by
  unfold feedK at h
  split at h
  · obtain ⟨kk, n, rfl, h⟩ := asNat_s h
    obtain ⟨hb, h⟩ := bK_t h
    rw [repK_eq] at h
    refine ⟨n, _, ?_, h⟩
    have hb : (Nat.ble n 1099511627776 && Nat.ble (n * ie.bytes) 1099511627776) = true := hb
    show (bif (Nat.ble n 1099511627776 && Nat.ble (n * ie.bytes) 1099511627776) then some (n, aRep z.cells n) else none) = _
    rw [hb]; rfl
  · rename_i hne
    obtain ⟨hk, h⟩ := bK_t h
    obtain ⟨n, xs, hs, h⟩ := sourceK_s h
    refine ⟨n, xs, ?_, h⟩
    unfold aFeed
    split
    · exact absurd rfl (hne _)
    · rw [hk]; exact hs

theorem appendAct_s {st xt : TypeId} {s x : Operand} {k : AV → FHeap → Ans} (h : (appendAct E st xt s x).f T H k = some r) :
    ∃ a b v H', aEval E T.abs s = some a ∧ aEval E T.abs x = some b ∧ aAppend E H.abs st xt a b = some (v, H'.abs) ∧ k v H' = some r := by
  unfold appendAct at h
  split at h
  case h_2 => cases h
  rename_i ie ix hie hix
  obtain ⟨i, e, h1, h2, h3⟩ := elemOf_s hie
  split at h
  · cases h
  rename_i z hz
  split at h
  · cases h
  rename_i hc
  simp only [Bool.and_eq_true] at hc
  obtain ⟨⟨hc1, hc2⟩, hc3, hc4⟩ := hc
  obtain ⟨a, ha, h⟩ := oAct_s h
  obtain ⟨b, hb, h⟩ := oAct_s h
  obtain ⟨base, len, cap, more, rfl, h⟩ := asSlice_b h
  obtain ⟨n, xs, hs, h⟩ := feedK_s h
  rcases bK_s h with ⟨hn, h⟩ | ⟨hn, h⟩
  · obtain ⟨hle, h⟩ := bK_t h
    exact ⟨_, b, _, H, ha, hb, by simp only [aAppend, h1, h2, h3, hix, hc1, hc2, hs, hz, hc3, hc4, Bool.and_true, Bool.not_true, cond_false, hn, hle, cond_true], h⟩
  · have h : bK (Nat.ble (len + n) cap)
                (oK base fun p => pairK p fun b o => H.cellsK b fun c => spliceK c (Nat.add o (Nat.mul len ie.size)) xs fun c => H.updK b (.cells c) fun H' => k (.slice (some (b, o)) (len + n) cap more) H')
                (bK (Nat.ble (Nat.mul (len + n) ie.bytes) 1099511627776 && Nat.ble (len + n) 1099511627776)
                  (sourceK H ie.size (.slice base len cap more) fun _ old => appK old xs fun c =>
                    bK (Nat.beq more 0) (H.pushK (.cells c) fun H' => k (.slice (some (H.next, 0)) (len + n) (len + n) ie.size) H')
                      (bK (Nat.beq more ie.size) (oK base fun p => pairK p fun b _ => H.killK b fun H1 => H1.pushK (.cells c) fun H' => k (.slice (some (H1.next, 0)) (len + n) (len + n) ie.size) H') bad))
                  bad) = some r := h
    rcases bK_s h with ⟨hle, h⟩ | ⟨hle, h⟩
    · obtain ⟨p, rfl, h⟩ := oK_s h
      obtain ⟨c, hcc, h⟩ := cellsK_s (show H.cellsK p.1 (fun c => spliceK c (Nat.add p.2 (Nat.mul len ie.size)) xs fun c => H.updK p.1 (.cells c) fun H' => k (.slice (some (p.1, p.2)) (len + n) cap more) H') = some r from h)
      obtain ⟨hl, h⟩ := spliceK_s h
      obtain ⟨H', hH, h⟩ := updK_s h
      refine ⟨_, b, _, H', ha, hb, ?_, h⟩
      have hl : Nat.ble (p.2 + len * ie.size + xs.length) c.length = true := Nat.ble_eq_true_of_le hl
      simp only [aAppend, h1, h2, h3, hix, hc1, hc2, hs, hz, hc3, hc4, Bool.and_true, Bool.not_true, cond_false, hn, hle, cond_true, hcc, hl, hH]
      rfl
    · obtain ⟨hbo, h⟩ := bK_t h
      have hbo : (Nat.ble ((len + n) * ie.bytes) 1099511627776 && Nat.ble (len + n) 1099511627776) = true := hbo
      obtain ⟨m, old, ho, h⟩ := sourceK_s h
      rw [appK_eq] at h
      rcases bK_s h with ⟨hm, h⟩ | ⟨hm, h⟩
      · obtain ⟨H', hH, h⟩ := pushK_s h
        refine ⟨_, b, _, H', ha, hb, ?_, h⟩
        simp only [aAppend, h1, h2, h3, hix, hc1, hc2, hs, hz, hc3, hc4, Bool.and_true, Bool.not_true, cond_false, hn, hle, hbo, ho, hm, cond_true, hH]
        rfl
      · obtain ⟨hm2, h⟩ := bK_t h
        obtain ⟨p, rfl, h⟩ := oK_s h
        obtain ⟨H1, hH1, h⟩ := killK_s (show H.killK p.1 (fun H1 => H1.pushK (.cells (old ++ xs)) fun H' => k (.slice (some (H1.next, 0)) (len + n) (len + n) ie.size) H') = some r from h)
        obtain ⟨H', hH, h⟩ := pushK_s h
        refine ⟨_, b, _, H', ha, hb, ?_, h⟩
        have hnx : H1.next = H.abs.next := congrArg AHeap.next hH1
        simp only [aAppend, h1, h2, h3, hix, hc1, hc2, hs, hz, hc3, hc4, Bool.and_true, Bool.not_true, cond_false, hn, hle, hbo, ho, hm, hm2, cond_true, hH, hH1, hnx]
        rfl

theorem copyAct_s {dt xt : TypeId} {d x : Operand} {k : AV → FHeap → Ans} (h : (copyAct E dt d x).f T H k = some r) :
    ∃ a b v H', aEval E T.abs d = some a ∧ aEval E T.abs x = some b ∧ aCopy E H.abs dt xt a b = some (v, H'.abs) ∧ k v H' = some r := by
  unfold copyAct at h
  split at h
  · cases h
  rename_i ie hie
  obtain ⟨i, e, h1, h2, h3⟩ := elemOf_s hie
  obtain ⟨a, ha, h⟩ := oAct_s h
  obtain ⟨b, hb, g⟩ := oAct_s h
  obtain ⟨base, dl, cap, more, e0, g2⟩ := asSlice_b g
  clear h
  subst e0
  obtain ⟨n, xs, hs, h⟩ := sourceK_s g2
  have hmin : (bif Nat.ble n dl then n else dl) = min n dl := by
    cases hb : Nat.ble n dl
    · have : ¬ n ≤ dl := fun e => by rw [Nat.ble_eq_true_of_le e] at hb; cases hb
      show dl = _; omega
    · have := Nat.le_of_ble_eq_true hb
      show n = _; omega
  rw [natK_eq, hmin] at h
  rcases eitherK_s h with ⟨p, rfl, h⟩ | ⟨rfl, h⟩
  · rcases bK_s h with ⟨hk, h⟩ | ⟨hk, h⟩
    · exact ⟨_, b, _, H, ha, hb, by simp only [aCopy, h1, h2, h3, hs, hk, cond_true], h⟩
    · obtain ⟨c, hc, h⟩ := cellsK_s (show H.cellsK p.1 (fun c => takeK xs (Nat.mul (min n dl) ie.size) fun ys => spliceK c p.2 ys fun c => H.updK p.1 (.cells c) fun H' => k (.int .i64 (.ofNat (min n dl))) H') = some r from h)
      obtain ⟨hl1, h⟩ := takeK_s h
      obtain ⟨hl, h⟩ := spliceK_s h
      obtain ⟨H', hH, h⟩ := updK_s h
      refine ⟨_, b, _, H', ha, hb, ?_, h⟩
      have hl : Nat.ble (p.2 + (xs.take (min n dl * ie.size)).length) c.length = true := Nat.ble_eq_true_of_le hl
      simp only [aCopy, h1, h2, h3, hs, hk, cond_false, hc, hl, cond_true, hH]
      rfl
  · exact ⟨_, b, _, H, ha, hb, by simp only [aCopy, h1, h2, h3, hs], h⟩

theorem modK_eq (es : List AEntry) : ∀ (i : Nat) (v : AV) (k : List AEntry → Ans), modK es i v k = k (aMod es i v) := by
  induction es with
  | nil => intro i v k; rfl
  | cons e es ih =>
    intro i v k
    cases i with
    | zero => cases e; rfl
    | succ i => exact ih i v fun r => k (e :: r)
theorem eraseK_eq (es : List AEntry) : ∀ (i : Nat) (k : List AEntry → Ans), eraseK es i k = k (es.eraseIdx i) := by
  induction es with
  | nil => intro i k; rfl
  | cons e es ih =>
    intro i k
    cases i with
    | zero => rfl
    | succ i => exact ih i fun r => k (e :: r)

theorem mapSetAct_s {t : TypeId} {m key x : Operand} {k : AV → FHeap → Ans} (h : (mapSetAct E t m key x).f T H k = some r) :
    ∃ a b c H', aEval E T.abs m = some a ∧ aEval E T.abs key = some b ∧ aEval E T.abs x = some c ∧ aMapUpdate E H.abs t a b c = some H'.abs ∧ k undefA H' = some r := by
  unfold mapSetAct at h
  split at h
  · cases h
  rename_i kd hkd
  obtain ⟨i, kt, et, ik, h1, h2, h3, rfl⟩ := keyOf_s hkd
  obtain ⟨a, ha, h⟩ := oAct_s h
  obtain ⟨b, hb, h⟩ := oAct_s h
  obtain ⟨c, hc, h⟩ := oAct_s h
  obtain ⟨hk, h⟩ := bK_t h
  obtain ⟨q, rfl, h⟩ := asMap_s h
  obtain ⟨q, rfl, h⟩ := oK_s h
  obtain ⟨o, ho, h⟩ := objK_s h
  obtain ⟨es, cl, rfl, h⟩ := asMapO_s h
  have ho : H.abs.get q = some (.map es cl) := ho
  rcases findK_s h with ⟨j, v, hf, h⟩ | ⟨hf, h⟩
  · rw [modK_eq] at h
    obtain ⟨H', hH, h⟩ := updK_s h
    exact ⟨_, b, c, H', ha, hb, hc, by simp only [aMapUpdate, h1, h2, h3, hk, cond_true, ho, hf, hH]; rfl, h⟩
  · rw [appK_eq] at h
    obtain ⟨H', hH, h⟩ := updK_s (show H.updK q (.map (es ++ [⟨b, c, cl⟩]) (cl + 1)) (fun H' => k undefA H') = some r from h)
    exact ⟨_, b, c, H', ha, hb, hc, by simp only [aMapUpdate, h1, h2, h3, hk, cond_true, ho, hf, hH]; rfl, h⟩
theorem deleteAct_s {t : TypeId} {m key : Operand} {k : AV → FHeap → Ans} (h : (deleteAct E t m key).f T H k = some r) :
    ∃ a b H', aEval E T.abs m = some a ∧ aEval E T.abs key = some b ∧ aDelete E H.abs t a b = some (undefA, H'.abs) ∧ k undefA H' = some r := by
  unfold deleteAct at h
  split at h
  · cases h
  rename_i kd hkd
  obtain ⟨i, kt, et, ik, h1, h2, h3, rfl⟩ := keyOf_s hkd
  obtain ⟨a, ha, h⟩ := oAct_s h
  obtain ⟨b, hb, h⟩ := oAct_s h
  obtain ⟨hk, h⟩ := bK_t h
  obtain ⟨q, rfl, h⟩ := asMap_s h
  obtain ⟨q, rfl, h⟩ := oK_s h
  obtain ⟨o, ho, h⟩ := objK_s h
  obtain ⟨es, cl, rfl, h⟩ := asMapO_s h
  have ho : H.abs.get q = some (.map es cl) := ho
  rcases findK_s h with ⟨j, v, hf, h⟩ | ⟨hf, h⟩
  · rw [eraseK_eq] at h
    obtain ⟨H', hH, h⟩ := updK_s h
    exact ⟨_, b, H', ha, hb, by simp only [aDelete, h1, h2, h3, hk, cond_true, ho, hf, hH]; rfl, h⟩
  · exact ⟨_, b, H, ha, hb, by simp only [aDelete, h1, h2, h3, hk, cond_true, ho, hf]; rfl, h⟩

theorem isMapT_s {t : TypeId} (h : isMapT E t = true) : ∃ i kt et, E.T t = some i ∧ i.desc = .map kt et := by
  unfold isMapT at h
  split at h
  · rename_i i hi
    split at h
    · rename_i kt et hd; exact ⟨i, kt, et, hi, hd⟩
    · cases h
  · cases h

/-- Is it a step of a range over a map? -/
def isNext : Op → Bool
  | .next _ _ => true
  | _ => false

theorem eAct_s {op : Op} (hn : isNext op = false) {k : AV → FHeap → Ans} (h : (eAct E op).f T H k = some r) : ∃ v H', aEff E T.abs H.abs op = some (v, H'.abs) ∧ k v H' = some r := by
  cases op
  case alloc t =>
    unfold eAct at h
    simp only at h
    split at h
    · rename_i i hi
      split at h
      · rename_i z hz
        split at h
        · rename_i hnt
          obtain ⟨H', hH, h⟩ := pushK_s h
          exact ⟨_, H', by simp only [aEff, aAlloc, hi, hz, aBox, hnt, cond_true, hH]; rfl, h⟩
        · cases h
      · cases h
    · cases h
  case box t x =>
    obtain ⟨a, ha, h⟩ := oAct_s (show (oAct E x).f T (fun a => bK a.nt (H.pushK (.cells a.cells) fun H' => k (.ptr (some (H.next, 0))) H') bad) = some r from h)
    obtain ⟨hnt, h⟩ := bK_t h
    obtain ⟨H', hH, h⟩ := pushK_s h
    exact ⟨_, H', by simp only [aEff, ha, aBox, hnt, cond_true, hH]; rfl, h⟩
  case store t a x =>
    obtain ⟨p, hp, h⟩ := oAct_s (show (oAct E a).f T (fun a => (oAct E x).f T fun v => a.asPtr (fun p => (stAct E t).f H p v fun H' => k undefA H') bad) = some r from h)
    obtain ⟨v, hv, h⟩ := oAct_s h
    obtain ⟨p, rfl, h⟩ := asPtr_s h
    obtain ⟨H', hH, h⟩ := stAct_s h
    exact ⟨_, H', by simp only [aEff, hp, hv, hH], h⟩
  case buildSlice t n ps =>
    obtain ⟨as, v, H', ha, hv, h⟩ := newSlice_s h
    exact ⟨v, H', by simp only [aEff, ha, hv], h⟩
  case makeMap t q =>
    cases q with
    | some q => cases h
    | none =>
      obtain ⟨H', hH, h⟩ := pushK_s (show H.pushK (.map [] 0) (fun H' => k (.map (some H.next)) H') = some r from h)
      exact ⟨_, H', by simp only [aEff, aEvalO, aMakeMap, hH]; rfl, h⟩
  case range t x =>
    unfold eAct at h
    simp only at h
    split at h
    · cases h
    rename_i ht
    obtain ⟨i, kt, et, h1, h2⟩ := isMapT_s ht
    obtain ⟨a, ha, h⟩ := oAct_s h
    obtain ⟨q, rfl, h⟩ := asMap_s h
    rcases eitherK_s h with ⟨q, rfl, h⟩ | ⟨rfl, h⟩
    · obtain ⟨o, ho, h⟩ := objK_s h
      obtain ⟨es, cl, rfl, h⟩ := asMapO_s h
      have ho : H.abs.get q = some (.map es cl) := ho
      obtain ⟨H', hH, h⟩ := pushK_s h
      exact ⟨_, H', by simp only [aEff, ha, aRange, h1, h2, ho, hH]; rfl, h⟩
    · obtain ⟨H', hH, h⟩ := pushK_s h
      exact ⟨_, H', by simp only [aEff, ha, aRange, h1, h2, hH]; rfl, h⟩
  case makeSlice t l c =>
    unfold eAct at h
    simp only at h
    split at h
    · cases h
    rename_i ie hie
    obtain ⟨i, e, h1, h2, h3⟩ := elemOf_s hie
    split at h
    · cases h
    rename_i z hz
    split at h
    · cases h
    rename_i hc
    simp only [Bool.and_eq_true] at hc
    obtain ⟨hc1, hc2, hc3⟩ := hc
    obtain ⟨a, ha, h⟩ := oAct_s h
    obtain ⟨b, hb, h⟩ := oAct_s h
    obtain ⟨k1, n, e1, g1⟩ := asNat_s h
    obtain ⟨k2, m, e2, g2⟩ := asNat_s g1
    clear h g1
    subst e1; subst e2
    obtain ⟨hc4, h⟩ := bK_t g2
    simp only [Bool.and_eq_true] at hc4
    obtain ⟨hc4, hc5, hc6⟩ := hc4
    have hc5 : Nat.ble (m * ie.bytes) 1099511627776 = true := hc5
    rw [repK_eq] at h
    obtain ⟨H', hH, h⟩ := pushK_s h
    exact ⟨_, H', by simp only [aEff, ha, hb, aMakeSlice, h1, h2, h3, hz, hc1, hc2, hc3, hc4, hc5, hc6, Bool.and_true, cond_true, hH]; rfl, h⟩
  case convert s d x =>
    unfold eAct at h
    simp only at h
    split at h
    · cases h
    rename_i hto
    obtain ⟨i, j, e, q, h1, h2, h3, h4, h5, h6⟩ := toBytesOK_s hto
    obtain ⟨a, ha, h⟩ := oAct_s h
    split at h
    · rename_i t
      obtain ⟨H', hH, h⟩ := pushK_s (show H.pushK (.cells (t.map fun b => .int .u8 (.ofNat b.toNat))) (fun H' => k (.slice (some (H.next, 0)) t.length t.length 1) H') = some r from h)
      exact ⟨_, H', by simp only [aEff, ha, aToBytes, h1, h2, h3, h4, h5, h6, hH]; rfl, h⟩
    · cases h
  case mapEntry t m key =>
    unfold eAct at h
    simp only at h
    split at h
    · cases h
    rename_i mt hmt
    split at h
    · cases h
    rename_i z hz
    obtain ⟨i, kt, et, ik, ie, h1, h2, h3, h4, e0⟩ := mapOf_s hmt
    subst e0
    have hz : ie.zero = some z := hz
    obtain ⟨a, ha, h⟩ := oAct_s h
    obtain ⟨b, hb, h⟩ := oAct_s h
    obtain ⟨hk, h⟩ := bK_t h
    have hk : keyKind ik.desc b = true := hk
    obtain ⟨q, e0, g⟩ := asMap_s h
    clear h
    subst e0
    obtain ⟨q, e0, g3⟩ := oK_s g
    clear g
    subst e0
    obtain ⟨o, ho, g4⟩ := objK_s g3
    obtain ⟨es, cl, e0, g⟩ := asMapO_s g4
    clear g3 g4
    subst e0
    have ho : H.abs.get q = some (.map es cl) := ho
    rcases findK_s g with ⟨j, v, hf, h⟩ | ⟨hf, h⟩
    · cases h
    · rw [appK_eq] at h
      obtain ⟨H', hH, h⟩ := updK_s (show H.updK q (.map (es ++ [⟨b, z, cl⟩]) (cl + 1)) (fun H' => k (.tuple [z, .int .i64 (.ofNat cl)]) H') = some r from h)
      exact ⟨_, H', by simp only [aEff, ha, hb, aMapEntry, h1, h2, h3, h4, hk, cond_true, ho, hf, hz, hH]; rfl, h⟩
  case entryStore t m s x =>
    obtain ⟨a, ha, h⟩ := oAct_s h
    obtain ⟨b, hb, h⟩ := oAct_s h
    obtain ⟨c, hc, h⟩ := oAct_s h
    obtain ⟨q, e0, g⟩ := asMap_s h
    clear h
    subst e0
    obtain ⟨q, e0, g3⟩ := oK_s g
    clear g
    subst e0
    obtain ⟨kd, n, e0, g4⟩ := asNat_s g3
    clear g3
    subst e0
    obtain ⟨o, ho, g5⟩ := objK_s g4
    obtain ⟨es, cl, e0, g⟩ := asMapO_s g5
    clear g4 g5
    subst e0
    have ho : H.abs.get q = some (.map es cl) := ho
    obtain ⟨j, hj, h⟩ := oK_s g
    rw [modK_eq] at h
    obtain ⟨H', hH, h⟩ := updK_s h
    exact ⟨_, H', by simp only [aEff, ha, hb, hc, aEntryStore, ho, hj, hH]; rfl, h⟩
  case mapUpdate t m key x =>
    obtain ⟨a, b, c, H', ha, hb, hc, hH, h⟩ := mapSetAct_s h
    exact ⟨_, H', by simp only [aEff, ha, hb, hc, hH], h⟩
  case insert t m key x =>
    obtain ⟨a, b, c, H', ha, hb, hc, hH, h⟩ := mapSetAct_s h
    exact ⟨_, H', by simp only [aEff, ha, hb, hc, hH], h⟩
  case call c =>
    obtain ⟨callee, args, at'⟩ := c
    cases callee with
    | value f => cases h
    | invoke a b => cases h
    | builtin b =>
      cases b
      case append =>
        unfold eAct at h
        simp only at h
        split at h
        · rename_i a b s t h1 h2
          obtain ⟨a', b', v, H', ha, hb, hv, h⟩ := appendAct_s h
          exact ⟨v, H', by simp only [aEff, h1, h2, aEvals, ha, hb, hv], h⟩
        · cases h
      case copy =>
        unfold eAct at h
        simp only at h
        split at h
        · rename_i a b s t h1 h2
          obtain ⟨a', b', v, H', ha, hb, hv, h⟩ := copyAct_s (xt := t) h
          exact ⟨v, H', by simp only [aEff, h1, h2, aEvals, ha, hb, hv], h⟩
        · cases h
      case delete =>
        unfold eAct at h
        simp only at h
        split at h
        · rename_i a b s t h1 h2
          obtain ⟨a', b', H', ha, hb, hv, h⟩ := deleteAct_s h
          exact ⟨_, H', by simp only [aEff, h1, h2, aEvals, ha, hb, hv], h⟩
        · cases h
      all_goals (cases h; done)
  case next x b => cases hn
  all_goals (cases h; done)

theorem next_s {x : Operand} {b : Bool} {k : AV → FHeap → Ans} (h : (eAct E (.next x b)).f T H k = some r) :
    b = false ∧ ∃ a v H', aEval E T.abs x = some a ∧ aNext H.abs a = some [(v, H'.abs)] ∧ k v H' = some r := by
  cases b with
  | true => cases h
  | false =>
    refine ⟨rfl, ?_⟩
    obtain ⟨a, ha, h⟩ := oAct_s h
    obtain ⟨⟨b, o⟩, rfl, h⟩ := asPtr_s h
    obtain ⟨ho, h⟩ := bK_t (show bK (Nat.beq o 0) _ bad = some r from h)
    have ho := Nat.eq_of_beq_eq_true ho; subst ho
    obtain ⟨ob, hob, h⟩ := objK_s h
    obtain ⟨m, si, seen, last, rfl, h⟩ := asIter_s h
    rcases eitherK_s h with ⟨m, rfl, h⟩ | ⟨rfl, h⟩
    · obtain ⟨om, hom, h⟩ := objK_s h
      obtain ⟨es, cl, rfl, h⟩ := asMapO_s h
      have hob : H.abs.get b = some (.miter (some m) si seen last) := hob
      have hom : H.abs.get m = some (.map es cl) := hom
      obtain ⟨hc, h⟩ := bK_t h
      rcases listK_s h with ⟨hl, h⟩ | ⟨e, l, hl, h⟩
      · refine ⟨_, _, H, ha, ?_, h⟩
        simp only [aNext, hob, hom, hc, cond_true, hl]
      · rcases listK_s h with ⟨rfl, h⟩ | ⟨_, _, _, h⟩
        · obtain ⟨H', hH, h⟩ := updK_s h
          refine ⟨_, _, H', ha, ?_, h⟩
          simp only [aNext, hob, hom, hc, cond_true, hl, List.map_cons, List.map_nil, hH]
          rfl
        · cases h
    · have hob : H.abs.get b = some (.miter none si seen last) := hob
      exact ⟨_, _, H, ha, by simp only [aNext, hob], h⟩
end
end Go.Am
/-! FxG -/
namespace Go.Am

section
variable {E : Env} {P : Program}

def KK (N : N1) (X : KF) (r : AV × FHeap) : K := fun e T' D R H' => ∃ T H, Fr.abs T = T' ∧ FHeap.abs H = H' ∧ (match e with
  | .normal => N T D R H = some r
  | e => X e T D R H = some r)
def RR (ret pan : AV → FHeap → Ans) (r : AV × FHeap) : Res → Prop
  | .ret v H' => ∃ H, FHeap.abs H = H' ∧ ret v H = some r
  | .pan v H' => ∃ H, FHeap.abs H = H' ∧ pan v H = some r
def QQ (Q : AMode → FHeap → Ans) (r : AV × FHeap) : AMode → AHeap → Prop := fun m H' => ∃ H, FHeap.abs H = H' ∧ Q m H = some r

structure FFOK (E : Env) (P : Program) (F : FF) : Prop where
  run : ∀ {fn n rnd c T D R H N X r}, F.run fn n rnd c T D R H N X = some r → RunOK E P ⟨fn, n, rnd⟩ c (Fr.abs T) D R (FHeap.abs H) (KK N X r)
  loop : ∀ {fn n rnd c T D R H N X r}, F.loop fn n rnd c T D R H N X = some r → LoopOK E P ⟨fn, n, rnd⟩ c (Fr.abs T) D R (FHeap.abs H) (KK N X r)
  scope : ∀ {fn n rnd b c T D R H N X r}, F.scope fn n rnd b c T D R H N X = some r → ScopeOK E P ⟨fn, n, rnd⟩ b c (Fr.abs T) D R (FHeap.abs H) (KK N X r)
  call : ∀ {f args H ret pan r}, F.call f args H ret pan = some r → CallOK E P f args (FHeap.abs H) (RR ret pan r)
  defs : ∀ {D m H Q r}, F.defs D m H Q = some r → DefsOK E P D m (FHeap.abs H) (QQ Q r)

theorem setDst_mono {n : Nat} {d : Option Tmp} {v : AV} {T : Tr AV} {k k' : Tr AV → Prop} (hk : ∀ T, k T → k' T) (h : setDst n d v T k) : setDst n d v T k' := by
  cases d with
  | none => exact hk _ h
  | some d =>
    simp only [setDst] at h ⊢
    split at h
    · exact hk _ h
    · exact h.elim

section
variable {r : AV × FHeap} {T : Fr} {H : FHeap}

theorem dAct_s {n : Nat} {d : Option Tmp} {v : AV} {k : Fr → Ans} (h : (dAct n d).f T v k = some r) : setDst n d v T.abs fun T' => ∃ T1, Fr.abs T1 = T' ∧ k T1 = some r := by
  cases d with
  | none => exact ⟨T, rfl, h⟩
  | some d =>
    unfold dAct at h
    simp only at h
    split at h
    · rename_i hb
      obtain ⟨hd, h⟩ := slN_put h
      simp only [setDst, hb]
      exact ⟨_, Fr.abs_put hd, h⟩
    · cases h

theorem wAct_s {ops : List Oper} {arr : Array Oper} (ha : arr.toList = ops) {o : Oper} {y n : Ans} (h : (wAct ops o).f T y n = some r) :
    (aWanted arr T.abs o = some true ∧ y = some r) ∨ (aWanted arr T.abs o = some false ∧ n = some r) := by
  subst ha
  unfold wAct at h
  unfold aWanted
  cases hg : o.guard with
  | none => rw [hg] at h; exact .inl ⟨rfl, h⟩
  | some jw =>
    obtain ⟨j, want⟩ := jw
    rw [hg] at h
    simp only at h ⊢
    split at h
    · rename_i q hq
      simp only [hq]
      split at h
      · rename_i d hd
        simp only [hd]
        have key : ∀ {y n : Ans} (want : Bool), (slN d).getK T (fun v => v.asBool (fun b => bK b y n) (v.asTuple (fun l => listK l (bif want then n else y) fun _ _ => bad) bad)) = some r →
            ∃ v, T.abs.get d = some v ∧ ((v = .bool true ∧ y = some r) ∨ (v = .bool false ∧ n = some r) ∨ (v = .tuple [] ∧ (bif want then n else y) = some r)) := by
          intro y n want h
          obtain ⟨hd, v, hv, h⟩ := slN_get h
          refine ⟨v, Fr.abs_get hd hv, ?_⟩
          rcases asBool_s h with ⟨b, rfl, h⟩ | h
          · rcases bK_s h with ⟨rfl, h⟩ | ⟨rfl, h⟩
            · exact .inl ⟨rfl, h⟩
            · exact .inr (.inl ⟨rfl, h⟩)
          · obtain ⟨c, rfl, h⟩ := asTuple_s h
            rcases listK_s h with ⟨rfl, h⟩ | ⟨_, _, _, h⟩
            · exact .inr (.inr ⟨rfl, h⟩)
            · cases h
        cases want with
        | true =>
          obtain ⟨v, hv, h⟩ := key (y := y) (n := n) true h
          simp only [hv]
          rcases h with ⟨rfl, h⟩ | ⟨rfl, h⟩ | ⟨rfl, h⟩
          · exact .inl ⟨rfl, h⟩
          · exact .inr ⟨rfl, h⟩
          · exact .inr ⟨rfl, h⟩
        | false =>
          obtain ⟨v, hv, h⟩ := key (y := n) (n := y) false h
          simp only [hv]
          rcases h with ⟨rfl, h⟩ | ⟨rfl, h⟩ | ⟨rfl, h⟩
          · exact .inr ⟨rfl, h⟩
          · exact .inl ⟨rfl, h⟩
          · exact .inr ⟨rfl, h⟩
      · cases h
    · cases h

theorem paramsK_s : ∀ {args : List AV} {i : Nat} {T : Fr} {k : Fr → Ans}, paramsK args i T k = some r → ∃ T1, Fr.abs T1 = params args i T.abs ∧ k T1 = some r
  | [], i, T, k, h => ⟨T, rfl, h⟩
  | a :: args, i, T, k, h => by
    obtain ⟨hi, h⟩ := slN_put (show (slN i).putK T (some a) (fun T => paramsK args (i + 1) T k) = some r from h)
    obtain ⟨T1, h1, h⟩ := paramsK_s h
    exact ⟨T1, by rw [h1, Fr.abs_put hi]; rfl, h⟩

theorem bindK_s : ∀ {ps : List Tmp} {as : List AV} {n : Nat} {T : Fr} {k : Fr → Ans}, bindK ps as n T k = some r →
    (ps.length == as.length) = true ∧ ps.all (fun p => Nat.blt p n) = true ∧ ∃ T1, Fr.abs T1 = (ps.zip as).foldl (fun T p => T.put p.1 (some p.2)) T.abs ∧ k T1 = some r
  | [], [], n, T, k, h => ⟨rfl, rfl, T, rfl, h⟩
  | [], _ :: _, _, _, _, h => by cases h
  | _ :: _, [], _, _, _, h => by cases h
  | p :: ps, a :: as, n, T, k, h => by
    obtain ⟨hb, h⟩ := bK_t (show bK (Nat.blt p n) ((slN p).putK T (some a) fun T => bindK ps as n T k) bad = some r from h)
    obtain ⟨hp, h⟩ := slN_put h
    obtain ⟨h1, h2, T1, h3, h⟩ := bindK_s h
    refine ⟨by simpa using h1, by simp only [List.all_cons, hb, h2, Bool.and_self], T1, ?_, h⟩
    rw [h3, Fr.abs_put hp]; rfl

theorem elimK_s {f : Fn} {k : FuncId → Ans} {y : Nat → Ans} (h : Fn.elimK f k y = some r) : (∃ g, f = .func g ∧ k g = some r) ∨ ∃ l, f = .yield l ∧ y l = some r := by
  cases f <;> first | exact .inl ⟨_, rfl, h⟩ | exact .inr ⟨_, rfl, h⟩ | cases h

variable {F : FF} (hF : FFOK E P F)
include hF

theorem yieldK_s {l : Nat} {args : List AV} {ret pan : AV → FHeap → Ans} {Q : Res → Prop} (hQ : ∀ q, RR ret pan r q → Q q) (h : yieldK E F l args H ret pan = some r) : runYield E (Fsem E P) l args H.abs Q := by
  unfold yieldK at h
  obtain ⟨o, ho, h⟩ := objK_s h
  obtain ⟨q, e0, g0⟩ := asLoop_s h
  clear h
  subst e0
  have h := g0
  clear g0
  have ho : H.abs.get l = some (.loop q.abs) := ho
  split at h
  case h_2 => cases h
  rename_i hst
  obtain ⟨h1, h2, T0, h3, h⟩ := bindK_s h
  have hst' : q.abs.state = .ready := hst
  unfold runYield
  simp only [ho]
  have h1' : (q.abs.params.length == args.length) = true := h1
  have h2' : q.abs.params.all (fun p => Nat.blt p q.abs.n) = true := h2
  simp only [h1', h2', hst']
  have hr := hF.run h
  rw [h3] at hr
  refine RunOK.mono ?_ hr
  rintro e T D R H' ⟨T1, H1, rfl, rfl, hk⟩
  cases e with
  | normal =>
    simp only at hk
    rcases listK_s hk with ⟨rfl, hk⟩ | ⟨_, _, _, hk⟩
    · obtain ⟨o1, ho1, hk⟩ := objK_s hk
      obtain ⟨q1, e0, g0⟩ := asLoop_s hk
      clear hk
      subst e0
      have hk := g0
      clear g0
      have ho1 : H1.abs.get l = some (.loop q1.abs) := ho1
      split at hk
      case h_2 => cases hk
      rename_i hst1
      have hst1' : q1.abs.state = .ready := hst1
      simp only [ho1, hst1']
      obtain ⟨H2, hH2, hk⟩ := updK_s hk
      have hr := hF.run hk
      have e2 : H2.abs = H1.abs.upd l (.loop { q1.abs with state := .busy }) := hH2
      rw [e2] at hr
      refine RunOK.mono ?_ hr
      rintro e T D R H' ⟨T3, H3, rfl, rfl, hk⟩
      cases e with
      | normal =>
        rcases listK_s hk with ⟨rfl, hk⟩ | ⟨_, _, _, hk⟩
        · obtain ⟨o2, ho2, hk⟩ := objK_s hk
          obtain ⟨q2, e0, g0⟩ := asLoop_s hk
          clear hk
          subst e0
          have hk := g0
          clear g0
          have ho2 : H3.abs.get l = some (.loop q2.abs) := ho2
          obtain ⟨H4, hH4, hk⟩ := updK_s hk
          simp only [ho2]
          exact hQ (.ret _ _) ⟨H4, hH4, hk⟩
        · cases hk
      | ret =>
        rcases listK_s hk with ⟨rfl, hk⟩ | ⟨_, _, _, hk⟩
        · obtain ⟨o2, ho2, hk⟩ := objK_s hk
          obtain ⟨q2, e0, g0⟩ := asLoop_s hk
          clear hk
          subst e0
          have hk := g0
          clear g0
          have ho2 : H3.abs.get l = some (.loop q2.abs) := ho2
          obtain ⟨H4, hH4, hk⟩ := updK_s hk
          simp only [ho2]
          exact hQ (.ret _ _) ⟨H4, hH4, hk⟩
        · cases hk
      | exit id =>
        rcases listK_s hk with ⟨rfl, hk⟩ | ⟨_, _, _, hk⟩
        · obtain ⟨o2, ho2, hk⟩ := objK_s hk
          obtain ⟨q2, e0, g0⟩ := asLoop_s hk
          clear hk
          subst e0
          have hk := g0
          clear g0
          have ho2 : H3.abs.get l = some (.loop q2.abs) := ho2
          obtain ⟨H4, hH4, hk⟩ := updK_s hk
          simp only [ho2]
          exact hQ (.ret _ _) ⟨H4, hH4, hk⟩
        · cases hk
      | goto g =>
        rcases listK_s hk with ⟨rfl, hk⟩ | ⟨_, _, _, hk⟩
        · obtain ⟨o2, ho2, hk⟩ := objK_s hk
          obtain ⟨q2, e0, g0⟩ := asLoop_s hk
          clear hk
          subst e0
          have hk := g0
          clear g0
          have ho2 : H3.abs.get l = some (.loop q2.abs) := ho2
          obtain ⟨H4, hH4, hk⟩ := updK_s hk
          simp only [ho2]
          exact hQ (.ret _ _) ⟨H4, hH4, hk⟩
        · cases hk
      | panic v =>
        rcases listK_s hk with ⟨rfl, hk⟩ | ⟨_, _, _, hk⟩
        · rcases eitherK_s hk with ⟨a, ha, hk⟩ | ⟨_, hk⟩
          · have ha : E.F q.abs.fn = some a := ha
            simp only [ha]
            exact hQ (.pan _ _) ⟨H3, rfl, hk⟩
          · cases hk
        · cases hk
    · cases hk
  | _ => cases hk

theorem invokeK_s {f : AV} {args : List AV} {ret pan : AV → FHeap → Ans} {Q : Res → Prop} (hQ : ∀ q, RR ret pan r q → Q q) (h : invokeK E F f args H ret pan = some r) : runInvoke E (Fsem E P) f args H.abs Q := by
  unfold invokeK at h
  obtain ⟨fn, first, cap, e0, g0⟩ := asFunc_s h
  clear h
  subst e0
  have h := g0
  clear g0
  rcases elimK_s h with ⟨g, e0, g0⟩ | ⟨l, e0, g0⟩ <;> clear h <;> subst e0 <;> have h := g0 <;> clear g0
  · rw [appK_eq] at h
    show CallOK E P g (first ++ args ++ cap) H.abs Q
    rcases listK_s h with ⟨rfl, h⟩ | ⟨c, cs, rfl, h⟩
    · rw [List.append_nil]; exact (hF.call h).mono hQ
    · rw [appK_eq] at h
      exact (hF.call h).mono hQ
  · rw [appK_eq] at h
    exact yieldK_s hF hQ h

theorem opAct_s {n : Nat} {o : Oper} {fn : FuncId} {rnd : Option Nat} {D : List ADef} {R : Rc} {N : N1} {X : KF} {Q : K} (hQ : ∀ e T D R H, KK N X r e T D R H → Q e T D R H) (h : (opAct E n o).run F fn rnd T D R H N X = some r) :
    runOp E (Fsem E P) ⟨fn, n, rnd⟩ o T.abs D R H.abs Q := by
  have fin : ∀ {v : AV} {H1 : FHeap} {R : Rc}, (dAct n o.dst).f T v (fun T => N T D R H1) = some r → setDst n o.dst v T.abs fun T => Q .normal T D R H1.abs := by
    intro v H1 R h
    exact setDst_mono (fun T' ⟨T1, h1, h2⟩ => hQ _ _ _ _ _ ⟨T1, H1, h1, rfl, h2⟩) (dAct_s h)
  unfold opAct at h
  split at h
  · obtain ⟨v, hv, h⟩ := vAct_s h
    unfold runOp
    simp only [hv]
    exact fin h
  · rename_i hval
    -- an effect, by 'eAct'
    have eff : ∀ (hn : isNext o.op = false) (hno : aVal E T.abs H.abs o.op = none), (eAct E o.op).f T H (fun v H => (dAct n o.dst).f T v fun T => N T D R H) = some r → runOp E (Fsem E P) ⟨fn, n, rnd⟩ o T.abs D R H.abs Q := by
      intro hn hno h
      obtain ⟨v, H', hv, h⟩ := eAct_s hn h
      unfold runOp
      simp only [hno, hv]
      exact fin h
    split at h
    · -- a call
      rename_i c hop
      split at h
      · rename_i f hc
        obtain ⟨g, hg, h⟩ := oAct_s h
        obtain ⟨as, has, h⟩ := lAct_s h
        unfold runOp
        have e1 : aVal E T.abs H.abs o.op = none := by rw [hop]; simp only [aVal, hc]
        have e2 : aEff E T.abs H.abs o.op = none := by rw [hop]; simp only [aEff, hc]
        simp only [e1]
        simp only [e2]
        simp only [hop, hc, hg, has]
        refine invokeK_s hF ?_ h
        intro q hq
        cases q with
        | ret v H' =>
          obtain ⟨H1, rfl, hq⟩ := hq
          exact fin hq
        | pan v H' =>
          obtain ⟨H1, rfl, hq⟩ := hq
          exact hQ _ _ _ _ _ ⟨T, H1, rfl, rfl, hq⟩
      · rename_i hc
        unfold runOp
        have e1 : aVal E T.abs H.abs o.op = none := by rw [hop]; simp only [aVal, hc]
        have e2 : aEff E T.abs H.abs o.op = none := by rw [hop]; simp only [aEff, hc]
        simp only [e1]
        simp only [e2]
        simp only [hop, hc]
        cases R <;> cases rnd <;> first | (cases h; done) | exact fin h
      · rename_i b hnr hc
        refine eff (by rw [hop]; rfl) ?_ h
        rw [hop]
        cases b <;> first | (simp only [aVal, hc]; done) | (exfalso; rw [hop] at hval; simp [isValE, isVal, hc] at hval)
      · cases h
    · -- a deferred call
      rename_i c hop
      split at h
      · rename_i f hc
        cases rnd with
        | some q => cases h
        | none =>
          obtain ⟨g, hg, h⟩ := oAct_s h
          obtain ⟨as, has, h⟩ := lAct_s h
          obtain ⟨fn', first, cap, e0, g0⟩ := asFunc_s h
          clear h
          subst e0
          have h := g0
          clear g0
          rcases elimK_s h with ⟨g, e0, g0⟩ | ⟨l, e0, g0⟩ <;> clear h <;> subst e0 <;> have h := g0 <;> clear g0
          · unfold runOp
            have e1 : aVal E T.abs H.abs o.op = none := by rw [hop]; rfl
            have e2 : aEff E T.abs H.abs o.op = none := by rw [hop]; rfl
            simp only [e1]
            simp only [e2]
            simp only [hop, hc, hg, has]
            exact setDst_mono (fun T' ⟨T1, h1, h2⟩ => hQ _ _ _ _ _ ⟨T1, H, h1, rfl, h2⟩) (dAct_s h)
          · cases h
      · cases h
    · -- a panic
      rename_i x hop
      obtain ⟨v, hv, h⟩ := oAct_s h
      split at h
      · unfold runOp
        have e1 : aVal E T.abs H.abs o.op = none := by rw [hop]; rfl
        have e2 : aEff E T.abs H.abs o.op = none := by rw [hop]; rfl
        simp only [e1]
        simp only [e2]
        simp only [hop, hv]
        exact hQ _ _ _ _ _ ⟨T, H, rfl, rfl, h⟩
      · cases h
    · -- the rest
      rename_i hn1 hn2 hn3
      cases hx : isNext o.op with
      | true =>
        cases hop : o.op <;> rw [hop] at hx <;> try (cases hx; done)
        rename_i x b
        rw [hop] at h
        obtain ⟨rfl, a, v, H', ha, hnx, h⟩ := next_s h
        unfold runOp
        have e1 : aVal E T.abs H.abs o.op = none := by rw [hop]; rfl
        have e2 : aEff E T.abs H.abs o.op = none := by rw [hop]; rfl
        simp only [e1]
        simp only [e2]
        simp only [hop, ha, hnx]
        intro q hq
        rw [List.mem_singleton] at hq
        subst hq
        exact fin h
      | false =>
        refine eff hx ?_ h
        cases hop : o.op <;> rw [hop] at hval hn1 <;> first | rfl | (exfalso; revert hval; simp [isValE, isVal]; done) | (exfalso; exact hn1 _ rfl) | skip
        case convert s d x =>
          have hto : toBytesOK E s d = true := by simpa [isValE] using hval
          obtain ⟨i, j, e, q, h1, h2, h3, h4, h5, h6⟩ := toBytesOK_s hto
          simp only [aVal]
          split
          · rename_i a _
            have c1 : aConv E s d a = none := by simp only [aConv, h1, h2, h3, h4]
            have c2 : aToString E H.abs s d a = none := by cases a <;> simp only [aToString, h1, h2, h3, h4]
            simp only [c1, c2]
          · rfl
end
end
end Go.Am
/-! FxH -/
namespace Go.Am

section
variable {E : Env} {P : Program} {r : AV × FHeap}

theorem dAct_some {n : Nat} {d : Tmp} {v : AV} {T : Fr} {k : Fr → Ans} (h : (dAct n (some d)).f T v k = some r) : Nat.blt d n = true ∧ ∃ T1, Fr.abs T1 = T.abs.put d (some v) ∧ k T1 = some r := by
  unfold dAct at h
  simp only at h
  split at h
  · rename_i hb
    obtain ⟨hd, h⟩ := slN_put h
    exact ⟨hb, _, Fr.abs_put hd, h⟩
  · cases h

theorem oneB_cells {c : List AV} (h : c.all AV.one = true) : oneB (.cells c) = true := h

theorem newK_s {op : Op} {T : Fr} {H : FHeap} {k : AV → FHeap → Ans} (h : (newK E op).f T H k = some r) :
    ∃ y ob H', aVal E T.abs H.abs op = none ∧ aNew E T.abs H.abs.next op = some (y, ob) ∧ oneB ob = true ∧ FHeap.abs H' = H.abs.push ob ∧ k y H' = some r := by
  cases op
  case alloc t =>
    unfold newK at h
    simp only at h
    split at h
    · rename_i i hi
      split at h
      · rename_i z hz
        split at h
        · rename_i hc
          simp only [Bool.and_eq_true] at hc
          obtain ⟨H', hH, h⟩ := pushK_s h
          exact ⟨_, _, H', rfl, by simp only [aNew, hi, hz, hc.1, cond_true]; rfl, oneB_cells hc.2, hH, h⟩
        · cases h
      · cases h
    · cases h
  case box t x =>
    obtain ⟨a, ha, h⟩ := oAct_s (show (oAct E x).f T (fun a => bK a.nt (bK (a.cells.all AV.one) (H.pushK (.cells a.cells) fun H' => k (.ptr (some (H.next, 0))) H') bad) bad) = some r from h)
    obtain ⟨hnt, h⟩ := bK_t h
    obtain ⟨h1, h⟩ := bK_t h
    obtain ⟨H', hH, h⟩ := pushK_s h
    exact ⟨_, _, H', rfl, by simp only [aNew, ha, hnt, cond_true]; rfl, oneB_cells h1, hH, h⟩
  case buildSlice t n ps =>
    unfold newK at h
    simp only at h
    split at h
    · cases h
    rename_i ie hie
    obtain ⟨i, e, h1, h2, h3⟩ := elemOf_s hie
    split at h
    · cases h
    rename_i z hz
    split at h
    · rename_i hc
      have h : repK z.cells n (fun c => (fillAct E (fun i => some (i * ie.size, ie.size)) ps.toList).f T c fun c => bK (c.all AV.one) (H.pushK (.cells c) fun H' => k (.slice (some (H.next, 0)) n n 0) H') bad) = some r := h
      rw [repK_eq] at h
      obtain ⟨as, c', g1, g2, h⟩ := fillAct_s h
      obtain ⟨g3, h⟩ := bK_t h
      obtain ⟨H', hH, h⟩ := pushK_s h
      exact ⟨_, _, H', rfl, by simp only [aNew, g1, aNewSlice, h1, h2, h3, hz, hc, cond_true, g2]; rfl, oneB_cells g3, hH, h⟩
    · cases h
  case makeSlice t l c =>
    unfold newK at h
    simp only at h
    split at h
    · cases h
    rename_i ie hie
    obtain ⟨i, e, h1, h2, h3⟩ := elemOf_s hie
    split at h
    · cases h
    rename_i z hz
    split at h
    · cases h
    rename_i hc
    simp only [Bool.and_eq_true] at hc
    obtain ⟨hc1, hc2, hc3, hone⟩ := hc
    obtain ⟨a, ha, h⟩ := oAct_s h
    obtain ⟨b, hb, h⟩ := oAct_s h
    obtain ⟨k1, n, e1, g1⟩ := asNat_s h
    obtain ⟨k2, m, e2, g2⟩ := asNat_s g1
    clear h g1
    subst e1; subst e2
    obtain ⟨hc4, h⟩ := bK_t g2
    simp only [Bool.and_eq_true] at hc4
    obtain ⟨hc4, hc5, hc6⟩ := hc4
    have hc5 : Nat.ble (m * ie.bytes) 1099511627776 = true := hc5
    rw [repK_eq] at h
    obtain ⟨H', hH, h⟩ := pushK_s h
    have hrep : ∀ m, (aRep z.cells m).all AV.one = true := by
      intro m; induction m with
      | zero => rfl
      | succ m ih => simp only [aRep, List.all_append, hone, ih, Bool.and_self]
    exact ⟨_, _, H', rfl, by simp only [aNew, ha, hb, aNewMake, h1, h2, h3, hz, hc1, hc2, hc3, hc4, hc5, hc6, Bool.and_true, cond_true]; rfl, oneB_cells (hrep m), hH, h⟩
  case makeMap t q =>
    cases q with
    | some q => cases h
    | none =>
      obtain ⟨H', hH, h⟩ := pushK_s (show H.pushK (.map [] 0) (fun H' => k (.map (some H.next)) H') = some r from h)
      exact ⟨_, _, H', rfl, rfl, rfl, hH, h⟩
  all_goals (cases h; done)

theorem eager0_s {n : Nat} {o : Oper} {T : Fr} {H : FHeap} {k : Fr → FHeap → Ans} (h : (eager0 E n o).f T H k = some r) :
    ∃ d T1 H1, o.dst = some d ∧ Nat.blt d n = true ∧ k T1 H1 = some r ∧
      ((∃ a, aVal E T.abs H.abs o.op = some a ∧ Fr.abs T1 = T.abs.put d (some a) ∧ FHeap.abs H1 = H.abs) ∨
       (∃ y ob, aVal E T.abs H.abs o.op = none ∧ aNew E T.abs H.abs.next o.op = some (y, ob) ∧ oneB ob = true ∧ Fr.abs T1 = T.abs.put d (some y) ∧ FHeap.abs H1 = H.abs.push ob)) := by
  unfold eager0 at h
  cases hd : o.dst with
  | none => rw [hd] at h; cases h
  | some d =>
    rw [hd] at h
    simp only at h
    split at h
    · obtain ⟨v, hv, h⟩ := vAct_s h
      obtain ⟨hb, T1, h1, h⟩ := dAct_some h
      exact ⟨d, T1, H, rfl, hb, h, .inl ⟨v, hv, h1, rfl⟩⟩
    · obtain ⟨y, ob, H', g1, g2, g3, g4, h⟩ := newK_s h
      obtain ⟨hb, T1, h1, h⟩ := dAct_some h
      exact ⟨d, T1, H', rfl, hb, h, .inr ⟨y, ob, g1, g2, g3, h1, g4⟩⟩

theorem eagerA_s {n : Nat} {ops : List Oper} {arr : Array Oper} (ha : arr.toList = ops) {i : Nat} {T : Fr} {H : FHeap} {k : Fr → FHeap → Ans} (h : (eagerA E n ops i).f T H k = some r) :
    ∃ T1 H1, eager1 E n arr T.abs H.abs i = some (Fr.abs T1, FHeap.abs H1) ∧ k T1 H1 = some r := by
  subst ha
  unfold eagerA at h
  split at h
  · cases h
  rename_i o ho
  have yes : aWanted arr T.abs o = some true → (eager0 E n o).f T H k = some r → ∃ T1 H1, eager1 E n arr T.abs H.abs i = some (Fr.abs T1, FHeap.abs H1) ∧ k T1 H1 = some r := by
    intro hw h
    obtain ⟨d, T1, H1, hd, hb, h, hor⟩ := eager0_s h
    refine ⟨T1, H1, ?_, h⟩
    unfold eager1
    simp only [ho, hd, hb, hw]
    rcases hor with ⟨a, g1, g2, g3⟩ | ⟨y, ob, g1, g2, g3, g4, g5⟩
    · simp only [g1, g2, g3]
    · simp only [g1, g2, g3, cond_true, g4, g5]
  split at h
  · rename_i hg
    exact yes (by unfold aWanted; rw [hg]) h
  · split at h
    · cases h
    · rename_i d hd
      rcases wAct_s (arr := arr) rfl h with ⟨hw, h⟩ | ⟨hw, h⟩
      · exact yes hw h
      · rw [hd] at h
        obtain ⟨hb, T1, h1, h⟩ := dAct_some h
        refine ⟨T1, H, ?_, h⟩
        unfold eager1
        simp only [ho, hd, hb, hw, h1]

theorem eagersA_s {n : Nat} {arr : Array Oper} {Q : Tr AV → AHeap → Prop} : ∀ {l : List Nat} {T : Fr} {H : FHeap} {k : Fr → FHeap → Ans}, (∀ T H, k T H = some r → Q (Fr.abs T) (FHeap.abs H)) →
    (eagersA E n arr.toList l).f T H k = some r → runEager E n arr l T.abs H.abs Q
  | [], T, H, k, hk, h => hk T H h
  | i :: l, T, H, k, hk, h => by
    obtain ⟨T1, H1, h1, h⟩ := eagerA_s (arr := arr) rfl (show (eagerA E n arr.toList i).f T H (fun T H => (eagersA E n arr.toList l).f T H k) = some r from h)
    simp only [runEager, h1]
    exact eagersA_s hk h

theorem stillA_s {arr : Array Oper} {i : Nat} {T : Fr} {H : FHeap} {k : Ans} (h : (stillA E arr.toList i).f T H k = some r) : still E arr T.abs H.abs i = true ∧ k = some r := by
  unfold stillA at h
  split at h
  · cases h
  rename_i o ho
  split at h
  · rename_i d hd hv
    rcases wAct_s (arr := arr) rfl h with ⟨hw, h⟩ | ⟨hw, h⟩
    · obtain ⟨a, ha, h⟩ := vAct_s h
      obtain ⟨hd2, b, hb, h⟩ := slN_get h
      obtain ⟨he, h⟩ := bK_t h
      refine ⟨?_, h⟩
      unfold still
      simp only [ho, hd, hw, ha, Fr.abs_get hd2 hb, he]
    · refine ⟨?_, h⟩
      unfold still
      simp only [ho, hd, hw]
  · cases h
theorem stillsA_s {arr : Array Oper} {T : Fr} {H : FHeap} {k : Ans} : ∀ {l : List Nat}, (stillsA E arr.toList l).f T H k = some r → allStill E arr T.abs H.abs l = true ∧ k = some r
  | [], h => ⟨rfl, h⟩
  | i :: l, h => by
    obtain ⟨h1, h⟩ := stillA_s (show (stillA E arr.toList i).f T H ((stillsA E arr.toList l).f T H k) = some r from h)
    obtain ⟨h2, h⟩ := stillsA_s h
    exact ⟨by simp only [allStill, h1, h2], h⟩

theorem forgetK_s : ∀ {os : List Oper} {T : Fr} {k : Fr → Ans}, forgetK os T k = some r → ∃ T1, Fr.abs T1 = forget os T.abs ∧ k T1 = some r
  | [], T, k, h => ⟨T, rfl, h⟩
  | o :: os, T, k, h => by
    obtain ⟨T1, h1, h⟩ := forgetK_s (show forgetK os T (fun T => match o.dst with | some d => (slN d).putK T none k | none => k T) = some r from h)
    split at h
    · rename_i d hd
      obtain ⟨hd2, h⟩ := slN_put h
      exact ⟨_, by rw [Fr.abs_put hd2, h1]; simp only [forget, hd], h⟩
    · rename_i hd
      exact ⟨T1, by rw [h1]; simp only [forget, hd], h⟩

section
variable {F : FF} (hF : FFOK E P F) {fn : FuncId} {n : Nat} {rnd : Option Nat}
include hF

theorem opsAct_s {arr : Array Oper} : ∀ {l : List Oper} {T : Fr} {D : List ADef} {R : Rc} {H : FHeap} {N : N1} {X : KF}, (opsAct E n arr.toList l).run F fn rnd T D R H N X = some r →
    runOps E (Fsem E P) ⟨fn, n, rnd⟩ arr l T.abs D R H.abs (KK N X r)
  | [], T, D, R, H, N, X, h => ⟨T, H, rfl, rfl, h⟩
  | o :: l, T, D, R, H, N, X, h => by
    have h : (match o.guard with
      | none => (⟨fun F fn rnd T D R H N X => (opAct E n o).run F fn rnd T D R H (fun T D R H => (opsAct E n arr.toList l).run F fn rnd T D R H N X) X⟩ : CAct)
      | some _ => ⟨fun F fn rnd T D R H N X => (wAct arr.toList o).f T ((opAct E n o).run F fn rnd T D R H (fun T D R H => (opsAct E n arr.toList l).run F fn rnd T D R H N X) X)
        ((dAct n o.dst).f T undefA fun T => (opsAct E n arr.toList l).run F fn rnd T D R H N X)⟩).run F fn rnd T D R H N X = some r := h
    have yes : aWanted arr T.abs o = some true → (opAct E n o).run F fn rnd T D R H (fun T D R H => (opsAct E n arr.toList l).run F fn rnd T D R H N X) X = some r →
        runOps E (Fsem E P) ⟨fn, n, rnd⟩ arr (o :: l) T.abs D R H.abs (KK N X r) := by
      intro hw h
      simp only [runOps, hw]
      refine opAct_s hF ?_ h
      rintro e T D R H ⟨T1, H1, rfl, rfl, hk⟩
      cases e with
      | normal => exact opsAct_s hk
      | _ => exact ⟨T1, H1, rfl, rfl, hk⟩
    split at h
    · rename_i hg
      exact yes (by unfold aWanted; rw [hg]) h
    · rcases wAct_s (arr := arr) rfl h with ⟨hw, h⟩ | ⟨hw, h⟩
      · exact yes hw h
      · simp only [runOps, hw]
        refine setDst_mono ?_ (dAct_s h)
        rintro T' ⟨T1, rfl, hk⟩
        exact opsAct_s hk

theorem stepsAct_s {arr : Array Oper} : ∀ {l : List PStep} {T : Fr} {D : List ADef} {R : Rc} {H : FHeap} {N : N1} {X : KF}, (stepsAct E n arr.toList l).run F fn rnd T D R H N X = some r →
    runSteps E (Fsem E P) ⟨fn, n, rnd⟩ arr l T.abs D R H.abs (KK N X r)
  | [], T, D, R, H, N, X, h => ⟨T, H, rfl, rfl, h⟩
  | s :: l, T, D, R, H, N, X, h => by
    have h : (match arr.toList[s.eff]? with
      | none => CAct.bad
      | some o => (⟨fun F fn rnd T D R H N X => (wAct arr.toList o).f T
          ((opAct E n o).run F fn rnd T D R H
            (fun T D R H => (stillsA E arr.toList s.check).f T H ((eagersA E n arr.toList s.eager).f T H fun T H => (stepsAct E n arr.toList l).run F fn rnd T D R H N X))
            (fun e T D R H => match e with | .panic v => forgetK arr.toList T fun T => X (.panic v) T D R H | _ => bad))
          ((dAct n o.dst).f T undefA fun T => (eagersA E n arr.toList s.eager).f T H fun T H => (stepsAct E n arr.toList l).run F fn rnd T D R H N X)⟩ : CAct)).run F fn rnd T D R H N X = some r := h
    split at h
    · cases h
    rename_i o ho
    rcases wAct_s (arr := arr) rfl h with ⟨hw, h⟩ | ⟨hw, h⟩
    · simp only [runSteps, ho, hw]
      refine opAct_s hF ?_ h
      rintro e T D R H ⟨T1, H1, rfl, rfl, hk⟩
      cases e with
      | normal =>
        obtain ⟨h1, hk⟩ := stillsA_s hk
        simp only [h1]
        exact eagersA_s (fun T H hk => stepsAct_s hk) hk
      | panic v =>
        obtain ⟨T2, h2, hk⟩ := forgetK_s hk
        exact ⟨T2, H1, h2, rfl, hk⟩
      | _ => cases hk
    · simp only [runSteps, ho, hw]
      refine setDst_mono ?_ (dAct_s h)
      rintro T' ⟨T1, rfl, hk⟩
      exact eagersA_s (fun T H hk => stepsAct_s hk) hk

theorem drawAct_s {arr : Array Oper} {T : Fr} {D : List ADef} {R : Rc} {H : FHeap} {N : N1} {X : KF} (h : (drawAct E n arr.toList).run F fn rnd T D R H N X = some r) :
    runDraw E (Fsem E P) ⟨fn, n, rnd⟩ arr T.abs D R H.abs (KK N X r) := by
  unfold drawAct at h
  split at h
  · rename_i p hp
    simp only [runDraw, hp]
    exact eagersA_s (fun T H hk => stepsAct_s hF hk) h
  · cases h

omit hF in
theorem afterK_s {l : Nat} {T : Fr} {D : List ADef} {R : Rc} {N : N1} {X : KF} {H : FHeap} {v : AV} (h : afterK l T D R N X H = some r) : afterLoop l T.abs D R (KK N X r) (.ret v H.abs) := by
  unfold afterK at h
  obtain ⟨o, ho, h⟩ := objK_s h
  obtain ⟨q, e0, g⟩ := asLoop_s h
  clear h
  subst e0
  have ho : H.abs.get l = some (.loop q.abs) := ho
  obtain ⟨st, pd, f0, n0, tm, ps, asg, bd, df⟩ := q
  simp only [afterLoop, ho, FLoop.abs]
  cases pd with
  | none =>
    cases st <;> first | (cases g; done) | (obtain ⟨H1, hH, g⟩ := updK_s g; exact ⟨T, H1, rfl, hH, g⟩)
  | some c =>
    cases c <;> cases st <;> first | (cases g; done) | (obtain ⟨H1, hH, g⟩ := updK_s g; exact ⟨T, H1, rfl, hH, g⟩)

theorem rangeAct_s {f : Operand} {ps : Array Tmp} {a b : Code} {T : Fr} {D : List ADef} {R : Rc} {H : FHeap} {N : N1} {X : KF} (h : (rangeAct E n f ps a b).run F fn rnd T D R H N X = some r) :
    runRange E (Fsem E P) ⟨fn, n, rnd⟩ f ps a b T.abs D R H.abs (KK N X r) := by
  obtain ⟨v, hv, h⟩ := oAct_s h
  obtain ⟨g, first, cap, e0, g0⟩ := asFunc_s h
  clear h
  subst e0
  rcases elimK_s g0 with ⟨g, e0, h⟩ | ⟨l, e0, h⟩
  · clear g0
    subst e0
    simp only [runRange, hv]
    cases rnd with
    | none =>
      obtain ⟨H1, hH1, h⟩ := pushK_s h
      obtain ⟨H2, hH2, h⟩ := pushK_s h
      rw [appK_eq] at h
      have hc := hF.call h
      have e1 : H1.next = H.abs.next + 1 := congrArg AHeap.next hH1
      rw [hH2, hH1] at hc
      have e2 : first ++ AV.func (.yield H1.next) [] [] :: cap = first ++ [AV.func (.yield (H.abs.push (.deferred (some []))).next) [] []] ++ cap := by rw [e1]; simp
      rw [e2] at hc
      refine CallOK.mono ?_ hc
      intro q hq
      cases q with
      | ret v H' =>
        obtain ⟨H3, rfl, hq⟩ := hq
        rw [e1] at hq
        exact afterK_s hq
      | pan v H' =>
        obtain ⟨H3, rfl, hq⟩ := hq
        exact ⟨T, H3, rfl, rfl, hq⟩
    | some q =>
      obtain ⟨o, ho, h⟩ := objK_s h
      obtain ⟨q1, e0, g1⟩ := asLoop_s h
      clear h
      subst e0
      have ho : H.abs.get q = some (.loop q1.abs) := ho
      simp only [ho]
      obtain ⟨H2, hH2, h⟩ := pushK_s g1
      rw [appK_eq] at h
      have hc := hF.call h
      rw [hH2] at hc
      have e2 : first ++ AV.func (.yield H.next) [] [] :: cap = first ++ [AV.func (.yield H.abs.next) [] []] ++ cap := by simp; rfl
      rw [e2] at hc
      refine CallOK.mono ?_ hc
      intro q hq
      cases q with
      | ret v H' =>
        obtain ⟨H3, rfl, hq⟩ := hq
        exact afterK_s hq
      | pan v H' =>
        obtain ⟨H3, rfl, hq⟩ := hq
        exact ⟨T, H3, rfl, rfl, hq⟩
  · cases h

theorem codeAct_s (hE : E.OK P) : ∀ {c : Code} {T : Fr} {D : List ADef} {R : Rc} {H : FHeap} {N : N1} {X : KF}, (codeAct E n c).run F fn rnd T D R H N X = some r →
    RunOK E P ⟨fn, n, rnd⟩ c T.abs D R H.abs (KK N X r) := by
  intro c
  induction c with
  | skip => intro T D R H N X h; exact run_ok hE (Fsem_ok E P) (c := .skip) (show KK N X r .normal _ _ _ _ from ⟨T, H, rfl, rfl, h⟩)
  | label l => intro T D R H N X h; exact run_ok hE (Fsem_ok E P) (c := .label l) (show KK N X r .normal _ _ _ _ from ⟨T, H, rfl, rfl, h⟩)
  | ret => intro T D R H N X h; exact run_ok hE (Fsem_ok E P) (c := .ret) (show KK N X r .ret _ _ _ _ from ⟨T, H, rfl, rfl, h⟩)
  | exit id => intro T D R H N X h; exact run_ok hE (Fsem_ok E P) (c := .exit id) (show KK N X r (.exit id) _ _ _ _ from ⟨T, H, rfl, rfl, h⟩)
  | goto l => intro T D R H N X h; exact run_ok hE (Fsem_ok E P) (c := .goto l) (show KK N X r (.goto l) _ _ _ _ from ⟨T, H, rfl, rfl, h⟩)
  | refuse w => intro T D R H N X h; cases h
  | seq a b iha ihb =>
    intro T D R H N X h
    have h : (codeAct E n a).run F fn rnd T D R H (fun T D R H => (codeAct E n b).run F fn rnd T D R H N X) X = some r := h
    refine run_ok hE (Fsem_ok E P) (c := .seq a b) ?_
    refine RunOK.mono ?_ (iha h)
    rintro e T D R H ⟨T1, H1, rfl, rfl, hk⟩
    cases e with
    | normal => exact ihb hk
    | _ => exact ⟨T1, H1, rfl, rfl, hk⟩
  | cond c a b iha ihb =>
    intro T D R H N X h
    obtain ⟨v, hv, h⟩ := oAct_s (show (oAct E c).f T (fun v => v.asBool (fun q => bK q ((codeAct E n a).run F fn rnd T D R H N X) ((codeAct E n b).run F fn rnd T D R H N X)) bad) = some r from h)
    obtain ⟨q, e0, g0⟩ := asBool_b h
    clear h
    subst e0
    refine run_ok hE (Fsem_ok E P) (c := .cond c a b) ?_
    simp only [stepRun, hv]
    rcases bK_s g0 with ⟨e1, g⟩ | ⟨e1, g⟩
    · subst e1; exact iha g
    · subst e1; exact ihb g
  | block id a iha =>
    intro T D R H N X h
    have h : (codeAct E n a).run F fn rnd T D R H N (fun e T D R H =>
      AExit.rec (motive := fun _ => Ans) bad (fun i => bK (Nat.beq i id) (N T D R H) (X (.exit i) T D R H)) (fun l => X (.goto l) T D R H) (X .ret T D R H) (fun v => X (.panic v) T D R H) e) = some r := h
    refine run_ok hE (Fsem_ok E P) (c := .block id a) ?_
    refine RunOK.mono ?_ (iha h)
    rintro e T D R H ⟨T1, H1, rfl, rfl, hk⟩
    cases e with
    | exit i =>
      rcases bK_s hk with ⟨e1, g⟩ | ⟨e1, g⟩
      · have e1 := Nat.eq_of_beq_eq_true e1
        simp only
        rw [if_pos e1]
        exact ⟨T1, H1, rfl, rfl, g⟩
      · have e1 : ¬ i = id := fun e => by rw [e, Nat.beq_refl] at e1; cases e1
        simp only
        rw [if_neg e1]
        exact ⟨T1, H1, rfl, rfl, g⟩
    | _ => exact ⟨T1, H1, rfl, rfl, hk⟩
  | loop b _ => intro T D R H N X h; exact run_ok hE (Fsem_ok E P) (c := .loop b) (hF.loop h)
  | scope b _ => intro T D R H N X h; exact run_ok hE (Fsem_ok E P) (c := .scope b) (hF.scope h)
  | region id ops draw =>
    intro T D R H N X h
    cases draw with
    | false => exact run_ok hE (Fsem_ok E P) (c := .region id ops false) (opsAct_s hF h)
    | true => exact run_ok hE (Fsem_ok E P) (c := .region id ops true) (drawAct_s hF h)
  | rangeFunc f ps a b _ _ => intro T D R H N X h; exact run_ok hE (Fsem_ok E P) (c := .rangeFunc f ps a b) (rangeAct_s hF h)
end
end
end Go.Am
/-! FxI -/
namespace Go.Am

section
variable {E : Env} {P : Program} {r : AV × FHeap}

theorem resList_s : ∀ {rs : List ResultVar} {T : Fr} {H : FHeap} {k : List AV → Ans}, (resList E rs).f T H k = some r → ∃ vs, aResults E rs T.abs H.abs = some vs ∧ k vs = some r
  | [], T, H, k, h => ⟨[], rfl, h⟩
  | .tmp t :: rs, T, H, k, h => by
    obtain ⟨ht, v, hv, h⟩ := slN_get (show (slN t).getK T (fun a => (resList E rs).f T H fun as => k (a :: as)) = some r from h)
    obtain ⟨vs, hvs, h⟩ := resList_s h
    exact ⟨v :: vs, by simp only [aResults, Fr.abs_get ht hv, hvs], h⟩
  | .cell a t :: rs, T, H, k, h => by
    obtain ⟨ht, v, hv, h⟩ := slN_get (show (slN a).getK T (fun v => v.asPtr (fun p => (ldAct E t).f H p fun a => (resList E rs).f T H fun as => k (a :: as)) bad) = some r from h)
    obtain ⟨p, e0, g⟩ := asPtr_s h
    clear h
    subst e0
    obtain ⟨x, hx, h⟩ := ldAct_s g
    obtain ⟨vs, hvs, h⟩ := resList_s h
    exact ⟨x :: vs, by simp only [aResults, Fr.abs_get ht hv, hx, hvs], h⟩
theorem resAct_s {rs : List ResultVar} {T : Fr} {H : FHeap} {k : AV → Ans} (h : (resAct E rs).f T H k = some r) : ∃ vs, aResults E rs T.abs H.abs = some vs ∧ k (oneOf vs) = some r := by
  unfold resAct at h
  split at h
  · exact ⟨[], rfl, h⟩
  · rename_i t
    obtain ⟨ht, v, hv, h⟩ := slN_get h
    exact ⟨[v], by simp only [aResults, Fr.abs_get ht hv], h⟩
  · rename_i a t
    obtain ⟨ht, v, hv, h⟩ := slN_get h
    obtain ⟨p, e0, g⟩ := asPtr_s h
    clear h
    subst e0
    obtain ⟨x, hx, h⟩ := ldAct_s g
    exact ⟨[x], by simp only [aResults, Fr.abs_get ht hv, hx], h⟩
  · exact resList_s h

variable {F : FF} (hF : FFOK E P F) (hE : E.OK P)

def BB (ret : Rc → AV → FHeap → Ans) (pan : AV → FHeap → Ans) (r : AV × FHeap) : Rc → Res → Prop
  | R, .ret v H' => ∃ H, FHeap.abs H = H' ∧ ret R v H = some r
  | _, .pan v H' => ∃ H, FHeap.abs H = H' ∧ pan v H = some r

include hF hE
theorem fAct_s {f : FuncId} {args : List AV} {R : Rc} {H : FHeap} {ret : Rc → AV → FHeap → Ans} {pan : AV → FHeap → Ans} {Q : Rc → Res → Prop} (hQ : ∀ R q, BB ret pan r R q → Q R q)
    (h : (fAct E f).run F args R H ret pan = some r) : runBody E (Fsem E P) f args R H.abs Q := by
  unfold fAct at h
  unfold runBody
  split at h
  · cases h
  rename_i a ha
  simp only [ha]
  obtain ⟨hb, h⟩ := bK_t h
  obtain ⟨T0, h0, h⟩ := paramsK_s h
  rw [Fr.abs_empty] at h0
  simp only [hb]
  have hr := codeAct_s hF hE h
  rw [h0] at hr
  refine RunOK.mono ?_ hr
  -- the end by a return
  have back : ∀ {T1 : Fr} {D : List ADef} {R : Rc} {H1 : FHeap}, (listK D ((resAct E a.results).f T1 H1 fun v => ret R v H1) fun _ _ => F.defs D .ret H1 fun m H => match m with | .ret => (resAct E a.results).f T1 H fun v => ret R v H | .pan _ => bad) = some r →
      DefsOK E P D .ret H1.abs fun m H => match m with
            | .ret => match aResults E a.results T1.abs H with
              | some vs => Q R (.ret (oneOf vs) H)
              | none => False
            | .pan _ => False := by
    intro T1 D R H1 h
    rcases listK_s h with ⟨e0, g⟩ | ⟨_, _, _, g⟩
    · subst e0
      obtain ⟨vs, hvs, g⟩ := resAct_s g
      refine defs_ok hE (Fsem_ok E P) ?_
      simp only [stepDefs, hvs]
      exact hQ _ _ ⟨H1, rfl, g⟩
    · have hd := hF.defs g
      intro ι fr M d cs w g1 g2 g3 g4
      obtain ⟨m', H', ι', M', w', hq, rest⟩ := hd ι fr M d cs w g1 g2 g3 g4
      refine ⟨m', H', ι', M', w', ?_, rest⟩
      obtain ⟨H2, rfl, hq⟩ := hq
      cases m' with
      | ret =>
        obtain ⟨vs, hvs, hq⟩ := resAct_s hq
        simp only [hvs]
        exact hQ _ _ ⟨H2, rfl, hq⟩
      | pan v => cases hq
  rintro e T D R H' ⟨T1, H1, rfl, rfl, hk⟩
  cases e with
  | normal => exact back hk
  | ret => exact back hk
  | panic v =>
    have hd := hF.defs hk
    intro ι fr M d cs w g1 g2 g3 g4
    obtain ⟨m', H', ι', M', w', hq, rest⟩ := hd ι fr M d cs w g1 g2 g3 g4
    refine ⟨m', H', ι', M', w', ?_, rest⟩
    obtain ⟨H2, rfl, hq⟩ := hq
    cases m' with
    | ret =>
      obtain ⟨vs, hvs, hq⟩ := resAct_s hq
      simp only [hvs]
      exact hQ _ _ ⟨H2, rfl, hq⟩
    | pan v => exact hQ _ _ ⟨H2, rfl, hq⟩
  | _ => cases hk

theorem defsK_s {D : List ADef} {m : AMode} {H : FHeap} {Q : AMode → FHeap → Ans} (h : defsK E F D m H Q = some r) : stepDefs E (Fsem E P) D m H.abs (QQ Q r) := by
  unfold defsK at h
  unfold stepDefs
  split at h
  · exact ⟨H, rfl, h⟩
  · rename_i q D
    obtain ⟨o, ho, h⟩ := objK_s h
    split at h
    · rename_i ds
      have ho : H.abs.get q = some (.deferred (some ds)) := ho
      obtain ⟨H1, hH, h⟩ := updK_s h
      simp only [ho]
      have hd := hF.defs h
      rw [hH] at hd
      exact hd
    · cases h
  · rename_i g cap args D
    simp only
    refine fAct_s hF hE ?_ h
    intro R q hq
    cases q with
    | ret v H' =>
      obtain ⟨H1, rfl, hq⟩ := hq
      exact hF.defs hq
    | pan v H' =>
      obtain ⟨H1, rfl, hq⟩ := hq
      cases hq
  · cases h
omit hF hE

def PrimsKOK (E : Env) (P : Program) (pr : PrimsK) : Prop := ∀ F, FFOK E P F → ∀ f p, pr f = some p → ∀ args H ret pan r, p F args H ret = some r → CallOK E P f args (FHeap.abs H) (RR ret pan r)

theorem gcAct_s (hF : FFOK E P F) (hE : E.OK P) {pr : PrimsK} (hp : PrimsKOK E P pr) {f : FuncId} {args : List AV} {H : FHeap} {ret pan : AV → FHeap → Ans} (h : (gcAct E pr f).f F args H ret pan = some r) :
    CallOK E P f args H.abs (RR ret pan r) := by
  unfold gcAct at h
  split at h
  · rename_i p hpf
    exact hp F hF f p hpf args H ret pan r h
  · have hb : runBody E (Fsem E P) f args .off H.abs (fun _ q => RR ret pan r q) := by
      refine fAct_s hF hE ?_ h
      intro R q hq
      cases q <;> exact hq
    have : stepCall E (fun _ => none) (Fsem E P) f args H.abs (RR ret pan r) := hb
    exact call_ok hE (Fsem_ok E P) (pr := fun _ => none) (fun f p h => by cases h) this

theorem ff_ok (hE : E.OK P) {pr : PrimsK} (hp : PrimsKOK E P pr) : ∀ n, FFOK E P (ff E pr n)
  | 0 => by constructor <;> (intros; rename_i h; cases h)
  | n + 1 => by
    have ih := ff_ok hE hp n
    refine ⟨fun {fn n' rnd c T D R H N X r} h => codeAct_s ih hE h, fun {fn n' rnd c T D R H N X r} h => ?_, fun {fn n' rnd b c T D R H N X r} h => ?_, fun {f args H ret pan r} h => gcAct_s ih hE hp h, fun {D m H Q r} h => defs_ok hE (Fsem_ok E P) (defsK_s ih hE h)⟩
    · have h : (codeAct E n' c).run (ff E pr n) fn rnd T D R H (fun T D R H => (ff E pr n).loop fn n' rnd c T D R H N X) X = some r := h
      refine loop_ok (Fsem_ok E P) ?_
      refine RunOK.mono ?_ (codeAct_s ih hE h)
      rintro e T D R H ⟨T1, H1, rfl, rfl, hk⟩
      cases e with
      | normal => exact ih.loop hk
      | _ => exact ⟨T1, H1, rfl, rfl, hk⟩
    · have h : (codeAct E n' c).run (ff E pr n) fn rnd T D R H N (fun e T D R H => match e with
        | .goto l => match findLabel b l with
          | some rest => (ff E pr n).scope fn n' rnd b rest T D R H N X
          | none => X (.goto l) T D R H
        | e => X e T D R H) = some r := h
      refine scope_ok (Fsem_ok E P) ?_
      refine RunOK.mono ?_ (codeAct_s ih hE h)
      rintro e T D R H ⟨T1, H1, rfl, rfl, hk⟩
      cases e with
      | goto l =>
        simp only at hk ⊢
        split at hk
        · rename_i rest hl
          simp only [hl]
          exact ih.scope hk
        · rename_i hl
          simp only [hl]
          exact ⟨T1, H1, rfl, rfl, hk⟩
      | _ => exact ⟨T1, H1, rfl, rfl, hk⟩
end
end Go.Am
