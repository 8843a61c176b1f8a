/- A machine that runs the program's code, right of the model for every tape; no condition. append, copy, writes to maps, conversions between texts and bytes, lengths. What is appended: the cells of a slice, of a string; or so many zeros (append of make). append, as the model has it. copy, writes to maps, deletions, conversions that make memory or read it, lengths. Texts and bytes, lengths, least and greatest; the value operations and the memory operations as one function each. Ranges over maps: the iterator, its steps (whichever entry the model picks), what it stands at. All operations that are no calls: those that yield a value, those that turn memory. The operations that turn memory, as one. New variables, apart from any heap: what a new block holds, and what names it. A region whose order the machine draws: the order in which the abstract machine does it, and when that stands for every order. -/
import Derived.Test.YthjcjglemefekaaGreatDoorM00
import Derived.Deep.AppendSrc
import Derived.Deep.Upon
import Derived.Laws.BytesString
import Derived.Maps.RangeRun
/-! AmJ -/
namespace Go.Am

section
variable {E : Env} {P : Program} (hE : E.OK P) {ι : Ren} {H : AHeap} {w : World}

/-- What is appended or copied: so many elements, and their cells. -/
noncomputable def aSource (H : AHeap) (size : Nat) (x : AV) : Option (Nat × List AV) :=
  match x with
  | .slice none _ _ _ => some (0, [])
  | .slice (some q) n _ _ =>
    match H.get q.1 with
    | some (.cells c) => bif Nat.ble (q.2 + n * size) c.length then some (n, (c.drop q.2).take (n * size)) else none
    | _ => none
  | .str s => bif Nat.beq size 1 then some (s.length, s.map fun b => .int .u8 (.ofNat b.toNat)) else none
  | _ => none

theorem str_cells (s : List UInt8) : VRels ι (s.map fun b => AV.int .u8 (.ofNat b.toNat)) (s.map fun b => Value.int .u8 (b.toNat : Int)) := by
  induction s with
  | nil => rfl
  | cons b s ih => exact ⟨_, _, rfl, rfl, ih⟩

/-- The first k of a source's elements. -/
theorem aSource_sound (hr : HRel ι H w) {size : Nat} {x : AV} {v : Value} (hx : VRel ι x v) {n : Nat} {cs : List AV} (h : aSource H size x = some (n, cs)) :
    (∀ w', (Builtin.lenOf v).run P w' = .ok n w') ∧ cs.length = n * size ∧ (∀ c ∈ cs, c.one = true) ∧
      ∀ k, k ≤ n → ∃ vs, (∀ w', w'.heap = w.heap → (Builtin.firstCells size k v).run P w' = .ok ⟨vs⟩ w') ∧ VRels ι (cs.take (k * size)) vs := by
  unfold aSource at h
  split at h
  · cases h
    obtain ⟨rfl, _, _, rfl⟩ := hx
    refine ⟨fun _ => rfl, by simp, by simp, fun k hk => ⟨[], fun _ _ => rfl, ?_⟩⟩
    have : k = 0 := by omega
    subst this; simp [VRels]
  · rename_i q m c mo
    split at h
    · rename_i cc hg
      cases hb : Nat.ble (q.2 + m * size) cc.length
      · rw [hb] at h; cases h
      · rw [hb] at h
        simp only [cond_true, Option.some.injEq, Prod.mk.injEq] at h
        obtain ⟨rfl, rfl⟩ := h
        have hle : q.2 + m * size ≤ cc.length := Nat.le_of_ble_eq_true hb
        obtain ⟨a, c', rfl, hlc, hcc, _, _, hor⟩ := hx
        refine ⟨fun _ => rfl, by simp; omega, ?_, ?_⟩
        · intro y hy
          have hy' := List.mem_of_mem_take hy
          obtain ⟨j, hj, rfl⟩ := List.getElem_of_mem hy'
          rw [List.getElem_drop]
          exact hr.one _ _ hg _ (List.getElem_mem _)
        · intro k hk
          have hks : k * size ≤ m * size := Nat.mul_le_mul_right _ hk
          rcases hor with ha | h0
          · have hsome : ∀ j, j < k * size → ∃ v, w.cell? (a.add j) = some v := by
              intro j hj
              obtain ⟨v, hv, _⟩ := cells_load hr ha hg (i := j) (x := cc[q.2 + j]'(by omega)) (List.getElem?_eq_getElem (by omega))
              exact ⟨v, hv⟩
            let f : Nat → Value := fun j => (w.cell? (a.add j)).getD undef
            have hf : ∀ j, j < k * size → w.cell? (a.add j) = some (f j) := by
              intro j hj; obtain ⟨v, hv⟩ := hsome j hj; simp [f, hv]
            refine ⟨(List.range (k * size)).map f, ?_, ?_⟩
            · intro w' hw'
              have hc : ∀ b, w'.cell? b = w.cell? b := fun b => by simp only [World.cell?, hw']
              simp only [Builtin.firstCells, run_loadCells w' a (k * size) f (fun j hj => by rw [hc]; exact hf j hj)]
            · rw [List.take_take, Nat.min_eq_left hks]
              refine take_drop_rel (by omega) fun j y hj hy => ?_
              obtain ⟨v, hv, hx, _⟩ := cells_load hr ha hg (i := j) hy
              have := hf j hj
              rw [hv] at this; cases this; exact hx
          · have hm0 : m = 0 := by omega
            have hk0 : k = 0 := by omega
            subst hk0
            refine ⟨[], fun w' _ => ?_, by simp [VRels]⟩
            simp only [Builtin.firstCells, Nat.zero_mul]
            rfl
    · cases h
  · rename_i s
    cases hb : Nat.beq size 1
    · rw [hb] at h; cases h
    · rw [hb] at h
      simp only [cond_true, Option.some.injEq, Prod.mk.injEq] at h
      obtain ⟨rfl, rfl⟩ := h
      have hs : size = 1 := Nat.eq_of_beq_eq_true hb
      subst hs
      simp only [VRel] at hx; subst hx
      refine ⟨fun _ => rfl, by simp, fun c hc => by obtain ⟨b, _, rfl⟩ := List.mem_map.1 hc; rfl, fun k hk => ?_⟩
      refine ⟨(s.take k).map fun b => Value.int .u8 (b.toNat : Int), fun w' _ => ?_, ?_⟩
      · simp only [Builtin.firstCells, Sem.run_pure]
        congr 1
        apply Array.ext'
        simp [ByteArray.data_extract, List.take_drop]
      · rw [Nat.mul_one, ← List.map_take]; exact str_cells _
  · cases h

/-! append -/
def srcKind (d : TypeDesc) (x : AV) : Bool :=
  match d, x with
  | .slice _, .slice _ _ _ _ => true
  | .string, .str _ => true
  | _, _ => false

theorem aSource_src (hE : E.OK P) (hr : HRel ι H w) {size : Nat} {tx : TypeId} {ix : TI} (htx : E.T tx = some ix) {x : AV} (hk : srcKind ix.desc x = true) {v : Value} (hx : VRel ι x v) {n : Nat} {cs : List AV}
    (h : aSource H size x = some (n, cs)) : ∃ vs, Src P size tx v n vs w ∧ VRels ι cs vs ∧ ∀ c ∈ cs, c.one = true := by
  obtain ⟨h1, h2, h3, h4⟩ := aSource_sound (P := P) hr hx h
  obtain ⟨vs, h5, h6⟩ := h4 n (Nat.le_refl n)
  rw [List.take_of_length_le (by omega)] at h6
  obtain ⟨_, _, hund, _⟩ := hE.T tx ix htx
  have hkind : (∃ e', P.underlying tx = some (.slice e')) ∨ P.underlying tx = some .string := by
    cases hd : ix.desc <;> rw [hd] at hk hund <;> cases x <;> simp only [srcKind] at hk <;> try (cases hk; done)
    · exact .inr hund
    · exact .inl ⟨_, hund⟩
  refine ⟨vs, ⟨hkind, h1, h5 w rfl, h5 w.drew rfl, by have := h6.length; omega, fun u hu => ?_⟩, h6, h3⟩
  obtain ⟨j, hj, rfl⟩ := List.getElem_of_mem hu
  have := h6.length
  obtain ⟨u, hu', hxu⟩ := h6.get (i := j) (a := cs[j]'(by omega)) (List.getElem?_eq_getElem (by omega))
  rw [List.getElem?_eq_getElem hj] at hu'; cases hu'
  rw [hxu.one]; exact h3 _ (List.getElem_mem _)

/-- A row is taken over: its old name is forgotten, and it is known anew, by what it holds now. -/
theorem HRel.moved (h : HRel ι H w) {b b' : Nat} {s s' : Nat × Nat} {o0 o : AObj} {o' : Obj} {w' : World} (hb : H.get b = some o0) (hi : ι b = some (b', s))
    (hw : w'.heap[b']? = some o') (hsize : w'.heap.size = w.heap.size) (hoth : ∀ c, c ≠ b' → w'.heap[c]? = w.heap[c]?) (ho : ORel (ι.add H.next b' s') s' o o') (hside : Side w w') :
    HRel (ι.add H.next b' s') ((H.kill b).push o) w' ∧ Ext ι H w (ι.add H.next b' s') ((H.kill b).push o) w' := by
  have hle : ι.le (ι.add H.next b' s') := Ren.le_add (h.none_next (Nat.le_refl _))
  have hbn : b < H.next := h.lt_next hb
  have hg : ∀ c p, c ≠ H.next → ((H.kill b).push o).get c = some p → H.get c = some p ∧ c ≠ b := by
    intro c p hc hp
    rw [AHeap.get_push, AHeap.next_kill, if_neg hc, AHeap.get_kill] at hp
    by_cases e : c = b
    · rw [if_pos e] at hp; cases hp
    · rw [if_neg e] at hp; exact ⟨hp, e⟩
  refine ⟨⟨?_, ?_, ?_, ?_, ?_, ?_⟩, ⟨hle, by simp, by rw [hsize]; exact Nat.le_refl _, ?_, ?_, by simp; omega, ?_, ?_, hside⟩⟩
  · intro c p c0 t0 hc hi0
    by_cases e : c = H.next
    · subst e
      rw [AHeap.get_push, AHeap.next_kill, if_pos rfl] at hc; cases hc
      exact ⟨b', s', o', Ren.add_same _ _ _ _, hw, ho⟩
    · obtain ⟨hp, hne⟩ := hg c p e hc
      rw [Ren.add_ne _ _ _ e] at hi0
      obtain ⟨c', t, q, hic, hwc, hr⟩ := h.obj c p c0 t0 hp hi0
      refine ⟨c', t, q, hle _ _ hic, ?_, hr.mono hle⟩
      rw [hoth c' ?_]; exact hwc
      rintro rfl
      exact hne (h.inj c b p o0 c' t s hp hb hic hi)
  · intro c d p q c' t t' hc hd hic hid
    by_cases e : c = H.next
    · subst e
      by_cases e' : d = H.next
      · exact e'.symm
      · obtain ⟨hq, hne⟩ := hg d q e' hd
        rw [Ren.add_same] at hic
        rw [Ren.add_ne _ _ _ e'] at hid
        cases hic
        exact absurd (h.inj d b q o0 b' t' s hq hb hid hi) hne
    · obtain ⟨hp, hne⟩ := hg c p e hc
      rw [Ren.add_ne _ _ _ e] at hic
      by_cases e' : d = H.next
      · subst e'
        rw [Ren.add_same] at hid
        cases hid
        exact absurd (h.inj c b p o0 b' t s hp hb hic hi) hne
      · obtain ⟨hq, _⟩ := hg d q e' hd
        rw [Ren.add_ne _ _ _ e'] at hid
        exact h.inj c d p q c' t t' hp hq hic hid
  · intro c hc
    by_cases e : c = H.next
    · subst e; simp
    · rw [Ren.add_ne _ _ _ e] at hc; have := h.dom c hc; simp; omega
  · intro c p hc
    by_cases e : c = H.next
    · subst e; simp
    · have := h.lt c p (hg c p e hc).1; simp; omega
  · intro c p hc
    by_cases e : c = H.next
    · subst e
      rw [AHeap.get_push, AHeap.next_kill, if_pos rfl] at hc; cases hc
      exact ho.oneObj
    · exact h.one c p (hg c p e hc).1
  · intro c c' t hc
    rw [hsize]
    by_cases e : c = H.next
    · subst e; rw [Ren.add_same] at hc; cases hc; exact h.ran b _ _ hi
    · rw [Ren.add_ne _ _ _ e] at hc; exact h.ran c c' t hc
  · rintro c' _ ⟨c, p, t, hc, hic⟩
    by_cases e : c = H.next
    · subst e; rw [Ren.add_same] at hic; cases hic; exact ⟨b, o0, s, hb, hi⟩
    · rw [Ren.add_ne _ _ _ e] at hic; exact ⟨c, p, t, (hg c p e hc).1, hic⟩
  · intro c' _ hl
    refine hoth c' ?_
    rintro rfl
    exact hl ⟨b, o0, s, hb, hi⟩
  · intro c hlow hn
    rw [AHeap.get_push, AHeap.next_kill, if_neg (by omega), AHeap.get_kill, if_neg]
    simp at hlow; omega
  · intro c hc hn
    have e : c ≠ H.next := by omega
    have e2 : c ≠ b := by rintro rfl; rw [hi] at hn; cases hn
    rw [AHeap.get_push, AHeap.next_kill, if_neg e, AHeap.get_kill, if_neg e2, Ren.add_ne _ _ _ e]
    exact ⟨hn, rfl⟩

/-- There is room: what is stored, wherever the row begins. -/
theorem run_append_room_any (t tx ty e : TypeId) (i : TypeInfo) (ht : P.underlying t = some (.slice e)) (hi : P.info? e = some i) (a : Addr) (sLen sCap : Nat) (x : Value) (n : Nat) (news : List Value) (hs : Src P i.size tx x n news w)
    (hroom : sLen + n ≤ sCap) {w' : World} (hst : (storeCells (a.add (sLen * i.size)) news).run P w = .ok () w') :
    (Builtin.append_ #[t, tx] ty #[.slice (some a) sLen sCap, x]).run P w = .ok (.slice (some a) (sLen + n) sCap) w' := by
  rcases hs.kind with ⟨e', hk⟩ | hk <;> simp [Builtin.append_, run_underlying ht, run_underlying hk, sizeOf, typeInfo, hi, hs.len, hroom, hs.cells, hst]

/-- What is appended: so many zeros, or what a slice or a string holds. -/
noncomputable def aFeed (H : AHeap) (ie : TI) (d : TypeDesc) (z x : AV) : Option (Nat × List AV) :=
  match d, x with
  | .int _, .int _ (.ofNat n) => bif Nat.ble n 1099511627776 && Nat.ble (n * ie.bytes) 1099511627776 then some (n, aRep z.cells n) else none
  | _, _ => bif srcKind d x then aSource H ie.size x else none

noncomputable def aAppend (E : Env) (H : AHeap) (st xt : TypeId) (s x : AV) : Option (AV × AHeap) :=
  match E.T st, E.T xt, s with
  | some i, some ix, .slice base len cap more =>
    match i.desc with
    | .slice e =>
      match E.T e with
      | none => none
      | some ie =>
        bif !(Nat.ble 1 ie.size && Nat.ble ie.bytes 1048576) then none else
        match ie.zero with
        | none => none
        | some z =>
          bif !(z.nt && Nat.beq z.cells.length ie.size) then none else
          match aFeed H ie ix.desc z x with
          | none => none
          | some (n, xs) =>
          bif Nat.beq n 0 then (bif Nat.ble len cap then some (s, H) else none) else
          bif Nat.ble (len + n) cap then
            match base with
            | none => none
            | some p =>
              match H.get p.1 with
              | some (.cells c) =>
                bif Nat.ble (p.2 + len * ie.size + xs.length) c.length then some (.slice (some p) (len + n) cap more, H.upd p.1 (.cells (splice c (p.2 + len * ie.size) xs))) else none
              | _ => none
          else bif !(Nat.ble ((len + n) * ie.bytes) 1099511627776 && Nat.ble (len + n) 1099511627776) then none else
            match aSource H ie.size s with
            | some (_, old) =>
              bif Nat.beq more 0 then some (.slice (some (H.next, 0)) (len + n) (len + n) ie.size, H.push (.cells (old ++ xs)))
              else bif Nat.beq more ie.size then
                (match base with
                 | some p => some (.slice (some (H.next, 0)) (len + n) (len + n) ie.size, (H.kill p.1).push (.cells (old ++ xs)))
                 | none => none)
              else none
            | none => none
    | _ => none
  | _, _, _ => none
end
end Go.Am
/-! AmJz -/
namespace Go.Am

section
variable {P : Program}

/-- What is appended, as the model's append meets it. -/
structure Fed (P : Program) (st xt ty e : TypeId) (i : TypeInfo) (z : Value) (v : Value) (n : Nat) (vs : List Value) (w : World) : Prop where
  len : vs.length = n * i.size
  one : ∀ u ∈ vs, u.oneCell' = true
  nothing : vs = [] → n = 0 → ∀ (base : Option Addr) (l c : Nat), l ≤ c → (Builtin.append_ #[st, xt] ty #[.slice base l c, v]).run P w = .ok (.slice base l c) w
  room : ∀ (a : Addr) (l c : Nat), l + n ≤ c → ∀ {w' : World}, (storeCells (a.add (l * i.size)) vs).run P w = .ok () w' →
    (Builtin.append_ #[st, xt] ty #[.slice (some a) l c, v]).run P w = .ok (.slice (some a) (l + n) c) w'
  grow : ∀ (base : Option Addr) (l c : Nat) (olds : List Value), (Builtin.firstCells i.size l (.slice base l c)).run P w.drew = .ok olds.toArray w.drew → c < l + n →
    ((l + n : Nat) : Int) ≤ 9223372036854775807 → Builtin.nextslicecap (l + n) c * i.bytes ≤ 281474976710656 →
    (Builtin.append_ #[st, xt] ty #[.slice base l c, v]).run P w = .ok (.slice (some ⟨w.heap.size, 0, none⟩) (l + n) (grownCap w (l + n) c e))
      (w.drew.alloc (.cells ((olds ++ vs).toArray ++ Builtin.zeroCells z.cells (grownCap w (l + n) c e - (l + n))) e))

theorem Fed.ofZeros {st xt ty e : TypeId} {i : TypeInfo} {z : Value} {w : World} {k k' : IntKind} {n : Nat} (ht : P.underlying st = some (.slice e)) (hx : P.underlying xt = some (.int k)) (hi : P.info? e = some i) (hz : i.zero = some z)
    (hsz : z.cells.size = i.size) (hone : ∀ u ∈ z.cells, u.oneCell' = true) (hn : (n : Int) ≤ 1099511627776) (hb : n * i.bytes ≤ 1099511627776) :
    Fed P st xt ty e i z (.int k' n) n (Builtin.zeroCells z.cells n).toList w := by
  have hw : IntKind.i64.wrap (n : Int) = n := by
    have e : IntKind.i64.bits = 64 := rfl
    have e' : IntKind.i64.signed = true := rfl
    have e2 : ((n : Int) % 2 ^ 64) = n := by omega
    unfold IntKind.wrap
    rw [e, e', e2]
    rw [if_neg (by simp; omega)]
  have hb' : ¬ (281474976710656 < (n : Int) * (i.bytes : Int)) := by
    have h1 := Int.ofNat_le.2 hb
    rw [Int.natCast_mul] at h1; omega
  have h0 : ¬ ((n : Int) < 0) := by omega
  refine ⟨by simp [Builtin.zeroCells, hsz], ?_, ?_, ?_, ?_⟩
  · intro u hu
    simp only [Builtin.zeroCells, Array.toList_map, List.mem_map] at hu
    obtain ⟨q, hq, rfl⟩ := hu
    have hp : 0 < z.cells.size := by
      rcases Nat.eq_zero_or_pos z.cells.size with h | h
      · rw [h] at hq; simp at hq
      · exact h
    have hlt : q % z.cells.size < z.cells.size := Nat.mod_lt _ hp
    rw [getElem!_pos z.cells _ hlt]
    exact hone _ (Array.getElem_mem hlt)
  · intro hv hn0 base l c hle
    have hle' : l + n ≤ c := by omega
    have h : n * i.size = 0 := by rw [hn0, Nat.zero_mul]
    have e0 : l + n = l := by omega
    cases base <;> simp [Builtin.append_, run_underlying ht, run_underlying hx, asInt, asIntOf, sizeOf, typeInfo, hi, hle', hw, h0, hb', h, storeCells] <;> omega
  · intro a l c hle w' hst
    by_cases h : n * i.size = 0
    · have hv : (Builtin.zeroCells z.cells n).toList = [] := List.length_eq_zero_iff.1 (by simp [Builtin.zeroCells, hsz]; simpa using h)
      rw [hv] at hst
      simp [Builtin.append_, run_underlying ht, run_underlying hx, asInt, asIntOf, sizeOf, typeInfo, hi, hle, hw, h0, hb', h, hst]
    · simp [Builtin.append_, run_underlying ht, run_underlying hx, asInt, asIntOf, sizeOf, typeInfo, zeroValue, hz, hi, hle, hw, h0, hb', h, hst]
  · intro base l c olds hold hg h63 hfit
    have hn' : ¬ (l + n ≤ c) := by omega
    have h63' : ¬ (9223372036854775807 < ((l : Int) + (n : Int))) := by omega
    have h48' : ¬ (281474976710656 < Builtin.nextslicecap (l + n) c * i.bytes) := by omega
    by_cases h : n * i.size = 0
    · have hv : Builtin.zeroCells z.cells n = #[] := Array.eq_empty_of_size_eq_zero (by simp [Builtin.zeroCells, hsz]; simpa using h)
      simp [Builtin.append_, run_underlying ht, run_underlying hx, asInt, asIntOf, sizeOf, typeInfo, zeroValue, hi, hz, hw, h0, hb', hv, hn', h63', h48', Question.forced, hold, newRow, grownCap]
    · simp [Builtin.append_, run_underlying ht, run_underlying hx, asInt, asIntOf, sizeOf, typeInfo, zeroValue, hi, hz, hw, h0, hb', h, hn', h63', h48', Question.forced, hold, newRow, grownCap]
      congr 2
      apply Array.ext'
      simp [List.append_assoc]
theorem Fed.ofSrc {st xt ty e : TypeId} {i : TypeInfo} {z : Value} {w : World} {v : Value} {n : Nat} {vs : List Value} (ht : P.underlying st = some (.slice e)) (hi : P.info? e = some i) (hz : i.zero = some z)
    (hs : Src P i.size xt v n vs w) : Fed P st xt ty e i z v n vs w := by
  refine ⟨hs.newsLen, hs.one, ?_, ?_, ?_⟩
  · rintro rfl rfl base l c hle
    exact run_append_nothing w st xt ty e i ht hi base l c hle v hs
  · intro a l c hle w' hst
    exact run_append_room_any st xt ty e i ht hi a l c v n vs hs hle hst
  · intro base l c olds hold hg h63 hfit
    exact run_append_grow_src w st xt ty e i z ht hi hz base l c olds hold v n vs hs hg h63 hfit

theorem aFeed_fed {E : Env} (hE : E.OK P) {ι : Ren} {H : AHeap} {w : World} (hr : HRel ι H w) {st xt ty e : TypeId} {ix ie : TI} {info : TypeInfo} {z : AV} {zv : Value} (hxt : E.T xt = some ix) (ht : P.underlying st = some (.slice e)) (hi : P.info? e = some info)
    (hsz : info.size = ie.size) (hbz : info.bytes = ie.bytes) (hz : info.zero = some zv) (hzr : ∀ ι, VRel ι z zv) (hnt : z.nt = true) (hzl : z.cells.length = ie.size) {x : AV} {v : Value} (hx : VRel ι x v) {n : Nat} {xs : List AV} (h : aFeed H ie ix.desc z x = some (n, xs)) :
    ∃ vs, Fed P st xt ty e info zv v n vs w ∧ VRels ι xs vs ∧ ∀ c ∈ xs, c.one = true := by
  unfold aFeed at h
  split at h
  · rename_i k k' m hd
    obtain ⟨_, _, hund, _⟩ := hE.T xt ix hxt
    rw [hd] at hund
    cases hb : (Nat.ble m 1099511627776 && Nat.ble (m * ie.bytes) 1099511627776)
    · rw [hb] at h; cases h
    rw [hb] at h
    simp only [cond_true, Option.some.injEq, Prod.mk.injEq] at h
    obtain ⟨rfl, rfl⟩ := h
    simp only [Bool.and_eq_true, Nat.ble_eq] at hb
    obtain ⟨hc1, hc2⟩ := (hzr ι).cells hnt
    have hvl : zv.cells.size = ie.size := by have := hc1.length; simp only [Array.length_toList] at this; omega
    cases hx
    refine ⟨_, Fed.ofZeros ht hund hi hz (by omega) ?_ (by omega) (by rw [hbz]; exact hb.2), ?_, aRep_one hc2 m⟩
    · intro u hu
      obtain ⟨j, hj, rfl⟩ := List.getElem_of_mem (Array.mem_toList_iff.2 hu)
      obtain ⟨q, hq, hqu⟩ : ∃ q, z.cells[j]? = some q ∧ VRel ι q zv.cells.toList[j] := by
        have hj' : j < z.cells.length := by have := hc1.length; omega
        obtain ⟨u, hu', hr'⟩ := hc1.get (List.getElem?_eq_getElem hj')
        rw [List.getElem?_eq_getElem hj] at hu'; cases hu'
        exact ⟨_, List.getElem?_eq_getElem hj', hr'⟩
      rw [hqu.one]; exact hc2 _ (List.mem_of_getElem? hq)
    · have := aRep_rel hc1 m
      have e : z.cells.length = zv.cells.size := by omega
      rw [e] at this
      exact this
  · rename_i x0 _ _ hne
    cases hk : srcKind ix.desc x0
    · rw [hk] at h; cases h
    rw [hk] at h
    obtain ⟨vs, hS, h1, h2⟩ := aSource_src hE hr hxt hk hx h
    rw [← hsz] at hS
    exact ⟨vs, Fed.ofSrc ht hi hz hS, h1, h2⟩
end
end Go.Am
/-! AmK -/
namespace Go.Am

section
variable {E : Env} {P : Program} (hE : E.OK P) {ι : Ren} {H : AHeap} {w : World}

theorem zeroCells_size (z : Array Value) (n : Nat) : (Builtin.zeroCells z n).size = n * z.size := by simp [Builtin.zeroCells]

include hE in
theorem aAppend_sound (hr : HRel ι H w) {st xt ty : TypeId} {s x : AV} {u v : Value} (hs : VRel ι s u) (hx : VRel ι x v) {y : AV} {H' : AHeap} (h : aAppend E H st xt s x = some (y, H')) :
    Makes P ι H w (Builtin.append_ #[st, xt] ty #[u, v]) y H' := by
  unfold aAppend at h
  split at h
  case h_2 => cases h
  rename_i i ix base len cap more hst hxt
  split at h
  case h_2 => cases h
  rename_i e hd
  split at h
  · cases h
  rename_i ie hie
  obtain ⟨i0, hi0, hu0, _⟩ := hE.T st i hst
  rw [hd] at hu0
  obtain ⟨info, hinfo, _, hsz, hbz, hzz⟩ := hE.T e ie hie
  cases hq : (Nat.ble 1 ie.size && Nat.ble ie.bytes 1048576)
  · rw [hq] at h; simp at h
  rw [hq] at h
  simp only [Bool.not_true, cond_false] at h
  simp only [Bool.and_eq_true, Nat.ble_eq] at hq
  obtain ⟨h1s, hbytes⟩ := hq
  split at h
  · cases h
  rename_i z hz
  obtain ⟨zv, hzv, hzr⟩ := hzz z hz
  cases hq3 : (z.nt && Nat.beq z.cells.length ie.size)
  · rw [hq3] at h; simp at h
  rw [hq3] at h
  simp only [Bool.not_true, cond_false] at h
  simp only [Bool.and_eq_true, Nat.beq_eq] at hq3
  have hzsize : zv.cells.size = ie.size := by
    have := ((hzr ι).cells hq3.1).1.length
    simp only [Array.length_toList] at this; omega
  split at h
  · cases h
  rename_i n xs hsrc
  obtain ⟨vs, hS, hvs, hone⟩ := aFeed_fed hE hr hxt hu0 hinfo hsz hbz hzv hzr hq3.1 hq3.2 hx (ty := ty) hsrc
  have hxl : xs.length = n * ie.size := by have := hvs.length; have := hS.len; rw [hsz] at this; omega
  cases hn0 : Nat.beq n 0
  case true =>
    rw [hn0] at h
    simp only [cond_true] at h
    have hn : n = 0 := Nat.eq_of_beq_eq_true hn0
    subst hn
    cases hlc : Nat.ble len cap
    · rw [hlc] at h; cases h
    rw [hlc] at h
    cases h
    have hle : len ≤ cap := Nat.le_of_ble_eq_true hlc
    have hvs0 : vs = [] := List.length_eq_zero_iff.1 (by have := hS.len; omega)
    subst hvs0
    cases base with
    | none =>
      obtain ⟨rfl, rfl, rfl, rfl⟩ := hs
      exact ⟨ι, _, w, hS.nothing rfl rfl none 0 0 (Nat.le_refl _), ⟨rfl, rfl, rfl, rfl⟩, hr, .refl _ _ _⟩
    | some p =>
      have hs0 := hs
      obtain ⟨a, c', rfl, hlc', hcc, hex, hblk, hor⟩ := hs
      exact ⟨ι, _, w, hS.nothing rfl rfl (some a) len c' (by omega), hs0, hr, .refl _ _ _⟩
  rw [hn0] at h
  simp only [cond_false] at h
  have hnpos : 0 < n := by rcases Nat.eq_zero_or_pos n with rfl | h; · cases hn0
                           · exact h
  cases hfit : Nat.ble (len + n) cap
  case true =>
    rw [hfit] at h
    simp only [cond_true] at h
    have hle : len + n ≤ cap := Nat.le_of_ble_eq_true hfit
    split at h
    · cases h
    rename_i p
    split at h
    case h_2 => cases h
    rename_i c hg
    cases hb : Nat.ble (p.2 + len * ie.size + xs.length) c.length
    · rw [hb] at h; cases h
    rw [hb] at h
    cases h
    have hbl := Nat.le_of_ble_eq_true hb
    obtain ⟨a, c', rfl, hlc', hcc, hex, hblk, hor⟩ := hs
    have hadr : AddrRel ι p a := hor.resolve_right (by omega)
    obtain ⟨w', hrun, g1, g2⟩ := cells_store P hr (hadr.add (len * ie.size)) hg hvs hone hbl
    rw [← hsz] at hrun
    refine ⟨ι, _, w', hS.room a len c' (by omega) hrun, ?_, ?_, ?_⟩
    · exact ⟨a, c', rfl, by omega, hcc, hex, hblk, .inl hadr⟩
    · exact g1
    · exact g2
  rw [hfit] at h
  simp only [cond_false] at h
  have hgt : cap < len + n := by
    rcases Nat.lt_or_ge cap (len + n) with h | h
    · exact h
    · rw [Nat.ble_eq_true_of_le h] at hfit; cases hfit
  cases hq2 : (Nat.ble ((len + n) * ie.bytes) 1099511627776 && Nat.ble (len + n) 1099511627776)
  · rw [hq2] at h; simp at h
  rw [hq2] at h
  simp only [Bool.not_true, cond_false] at h
  simp only [Bool.and_eq_true, Nat.ble_eq] at hq2
  split at h
  case h_2 => cases h
  rename_i m old hold
  have hskind : srcKind i.desc (.slice base len cap more) = true := by rw [hd]; rfl
  obtain ⟨os, hO, hos, hoone⟩ := aSource_src hE hr hst hskind hs hold
  have hm : m = len := by
    unfold aSource at hold
    cases base with
    | none => simp only at hold; cases hold; obtain ⟨rfl, _⟩ := hs; rfl
    | some p =>
      simp only at hold
      split at hold
      · rename_i c hg
        cases hb : Nat.ble (p.2 + len * ie.size) c.length
        · rw [hb] at hold; cases hold
        · rw [hb] at hold; simp only [cond_true, Option.some.injEq, Prod.mk.injEq] at hold; exact hold.1.symm
      · cases hold
  subst hm
  rw [← hsz] at hO
  have hol : old.length = m * ie.size := by have := hos.length; have := hO.newsLen; rw [hsz] at this; omega
  have hnext : ∀ c', c' < m + n → Builtin.nextslicecap (m + n) c' * info.bytes ≤ 281474976710656 := by
    intro c' hc'
    rw [hbz]
    exact growslice_fits hc' (by omega)
  -- a new row, whatever the room that was there
  have grow : ∀ (b' : Option Addr) (c' : Nat), u = .slice b' m c' → c' < m + n →
      ∃ N k, (Builtin.append_ #[st, xt] ty #[u, v]).run P w = .ok (.slice (some ⟨w.heap.size, 0, none⟩) (m + n) N) (w.drew.alloc (.cells ((os ++ vs).toArray ++ Builtin.zeroCells zv.cells k) e)) ∧ m + n ≤ N ∧ k = N - (m + n) := by
    intro b' c' hu hc'
    subst hu
    have hrun := hS.grow b' m c' os hO.cellsD hc' (by omega) (hnext c' hc')
    refine ⟨_, _, hrun, ?_, rfl⟩
    exact Nat.le_add_right _ _
  have hcells : VRels ι (old ++ xs) (os ++ vs) := hos.append hvs
  have hcone : ∀ c ∈ old ++ xs, c.one = true := by
    intro c hc; rw [List.mem_append] at hc; rcases hc with hc | hc
    · exact hoone c hc
    · exact hone c hc
  -- what the new row is worth
  have fresh : ∀ (H0 : AHeap) (N k : Nat), HRel ι H0 w.drew → H0.next = H.next → Ext ι H w ι H0 w.drew → m + n ≤ N → k = N - (m + n) →
      ∃ κ, VRel κ (.slice (some (H.next, 0)) (m + n) (m + n) ie.size) (.slice (some ⟨w.heap.size, 0, none⟩) (m + n) N) ∧
        HRel κ (H0.push (.cells (old ++ xs))) (w.drew.alloc (.cells ((os ++ vs).toArray ++ Builtin.zeroCells zv.cells k) e)) ∧
        Ext ι H w κ (H0.push (.cells (old ++ xs))) (w.drew.alloc (.cells ((os ++ vs).toArray ++ Builtin.zeroCells zv.cells k) e)) := by
    intro H0 N k hr0 hnx hext hN hkk
    have hsize : N * ie.size = (os ++ vs).length + k * zv.cells.size := by
      have h1 := hos.length
      have h2 := hvs.length
      have e : N * ie.size = (m + n) * ie.size + (N - (m + n)) * ie.size := by rw [← Nat.add_mul]; congr 1; omega
      rw [hzsize, hkk, e, List.length_append, h1, h2, hol, hxl, Nat.add_mul]
    have e1 : ((os ++ vs).toArray ++ Builtin.zeroCells zv.cells k) = ⟨(os ++ vs) ++ (Builtin.zeroCells zv.cells k).toList⟩ := by apply Array.ext'; simp
    rw [e1]
    obtain ⟨g1, g2⟩ := push_cells hr0 hcells hcone e (Builtin.zeroCells zv.cells k).toList (0, 0) _ rfl (fun i _ => by omega)
    refine ⟨_, ?_, g1, hext.trans g2⟩
    refine ⟨⟨w.heap.size, 0, none⟩, N, rfl, Nat.le_refl _, hN, fun h => by omega, fun _ => ⟨w.heap.size, (0, (os ++ vs).length + (Builtin.zeroCells zv.cells k).toList.length), ?_, rfl, ?_⟩, .inl ⟨w.heap.size, (0, (os ++ vs).length + (Builtin.zeroCells zv.cells k).toList.length), ?_, by simp⟩⟩
    · rw [← hnx]; exact Ren.add_same _ _ _ _
    · simp only [Nat.zero_add, Array.length_toList, zeroCells_size]; omega
    · rw [← hnx]; exact Ren.add_same _ _ _ _
  have hdrew : HRel ι H w.drew ∧ Ext ι H w ι H w.drew := ⟨hr.of_heap rfl, .of_heap rfl ⟨rfl, rfl, rfl⟩⟩
  cases hmo : Nat.beq more 0
  case true =>
    rw [hmo] at h
    simp only [cond_true] at h
    cases h
    have hm0 : more = 0 := Nat.eq_of_beq_eq_true hmo
    have hform : ∃ b' c', u = .slice b' m c' ∧ c' < m + n := by
      cases base with
      | none => obtain ⟨rfl, rfl, _, rfl⟩ := hs; exact ⟨none, 0, rfl, by omega⟩
      | some p => obtain ⟨a, c', rfl, _, _, hex, _⟩ := hs; exact ⟨some a, c', rfl, by rw [hex hm0]; exact hgt⟩
    obtain ⟨b', c', hu, hc'⟩ := hform
    obtain ⟨N, k, hrun, hN, hkk⟩ := grow b' c' hu hc'
    obtain ⟨κ, g1, g2, g3⟩ := fresh H N k hdrew.1 rfl hdrew.2 hN hkk
    exact ⟨κ, _, _, hrun, g1, g2, g3⟩
  rw [hmo] at h
  simp only [cond_false] at h
  cases hme : Nat.beq more ie.size
  · rw [hme] at h; cases h
  rw [hme] at h
  simp only [cond_true] at h
  have hes : more = ie.size := Nat.eq_of_beq_eq_true hme
  split at h
  case h_2 => cases h
  rename_i p
  cases h
  obtain ⟨a, c', rfl, hlc', hcc, hex, hblk, hor⟩ := hs
  obtain ⟨b, s, hbs, hab, hsize⟩ := hblk (by omega)
  have hgp : ∃ c, H.get p.1 = some (.cells c) ∧ p.2 + m * ie.size ≤ c.length := by
    unfold aSource at hold
    simp only at hold
    split at hold
    · rename_i c hg
      cases hb : Nat.ble (p.2 + m * ie.size) c.length
      · rw [hb] at hold; cases hold
      · exact ⟨c, hg, Nat.le_of_ble_eq_true hb⟩
    · cases hold
  obtain ⟨c, hg, hcl⟩ := hgp
  by_cases hfits : m + n ≤ c'
  · -- in its place
    have hadr : AddrRel ι p a := hor.resolve_right (by omega)
    obtain ⟨b2, s2, hb2, rfl⟩ := hadr
    rw [hbs] at hb2; cases hb2
    obtain ⟨b3, s3, o', hb3, hw, cc', t, fz, rfl, hc, hcs, hf⟩ := hr.obj _ _ _ _ hg hbs
    rw [hbs] at hb3; cases hb3
    simp only at hsize
    have hmul : (m + n) * ie.size ≤ c' * more := by rw [hes]; exact Nat.mul_le_mul_right _ hfits
    have hmul' : (m + n) * ie.size = m * ie.size + n * ie.size := Nat.add_mul _ _ _
    have hvl : vs.length = n * ie.size := by have := hS.len; rw [hsz] at this; exact this
    obtain ⟨cur', w', hrun, h2, h3, h4, h5, h6, h7⟩ := run_storeCells_row P b (p.2 + s.1 + m * ie.size) t fz vs 0 cc' w hw
      (fun j hj hj' => hf j (by omega) (by omega)) (by omega) hS.one
    rw [← add_off, ← hsz] at hrun
    have hap := hS.room ⟨b, p.2 + s.1, none⟩ m c' hfits hrun
    have hle : ι.le (ι.add H.next b (p.2 + s.1, s.2)) := Ren.le_add (hr.none_next (Nat.le_refl _))
    have hcr : ∀ j q, (old ++ xs)[j]? = some q → q.one = true ∧ ∃ v, cur'[j + (p.2 + s.1)]? = some v ∧ VRel (ι.add H.next b (p.2 + s.1, s.2)) q v := by
      intro j q hj
      have hq1 := hcone q (List.mem_of_getElem? hj)
      refine ⟨hq1, ?_⟩
      rw [h6 (j + (p.2 + s.1))]
      by_cases hjm : j < m * ie.size
      · rw [if_neg (by omega)]
        rw [List.getElem?_append_left (by omega)] at hj
        -- an old cell
        have hjo : c[p.2 + j]? = some q := by
          unfold aSource at hold
          simp only [hg] at hold
          rw [Nat.ble_eq_true_of_le hcl] at hold
          simp only [cond_true, Option.some.injEq, Prod.mk.injEq] at hold
          rw [← hold.2, List.getElem?_take, if_pos hjm, List.getElem?_drop] at hj
          exact hj
        obtain ⟨_, x2, hx2, hx3⟩ := hc _ _ hjo
        exact ⟨x2, by rw [← hx2]; congr 1; omega, hx3.mono hle⟩
      · have hjl : j < (old ++ xs).length := (List.getElem?_eq_some_iff.1 hj).1
        rw [List.length_append] at hjl
        rw [if_pos (by omega)]
        rw [List.getElem?_append_right (by omega)] at hj
        obtain ⟨x2, hx2, hx3⟩ := hvs.get hj
        exact ⟨x2, by rw [← hx2]; congr 1; omega, hx3.mono hle⟩
    obtain ⟨g1, g2⟩ := hr.moved (s' := (p.2 + s.1, s.2)) (o := .cells (old ++ xs)) hg hbs h2 h3 h4 ⟨cur', t, fz, rfl, hcr, by rw [h5]; exact hcs, fun i hi hi' => hf i (by simp at hi; omega) hi'⟩ h7
    refine ⟨_, _, w', hap, ⟨⟨b, p.2 + s.1, none⟩, c', rfl, Nat.le_refl _, hfits, fun h => by omega, fun _ => ⟨b, (p.2 + s.1, s.2), Ren.add_same _ _ _ _, rfl, by simp only; rw [← hes]; omega⟩, .inl ⟨b, (p.2 + s.1, s.2), Ren.add_same _ _ _ _, by simp⟩⟩, g1, g2⟩
  · obtain ⟨N, k, hrun, hN, hkk⟩ := grow (some a) c' rfl (by omega)
    obtain ⟨k1, k2⟩ := hdrew.1.kill p.1 (by rw [hbs]; rfl)
    obtain ⟨κ, g1, g2, g3⟩ := fresh (H.kill p.1) N k k1 rfl (hdrew.2.trans k2) hN hkk
    exact ⟨κ, _, _, hrun, g1, g2, g3⟩
end
end Go.Am
/-! AmL -/
namespace Go.Am

section
variable {E : Env} {P : Program} (hE : E.OK P) {ι : Ren} {H : AHeap} {w : World}

/-! copy -/
noncomputable def aCopy (E : Env) (H : AHeap) (dt xt : TypeId) (d x : AV) : Option (AV × AHeap) :=
  match E.T dt, d with
  | some i, .slice base dl _ _ =>
    match i.desc with
    | .slice e =>
      match E.T e with
      | none => none
      | some ie =>
        match aSource H ie.size x with
        | none => none
        | some (n, xs) =>
          let k := min n dl
          match base with
          | none => some (.int .i64 (.ofNat k), H)
          | some p =>
            bif Nat.beq k 0 then some (.int .i64 (.ofNat k), H) else
            match H.get p.1 with
            | some (.cells c) =>
              let ys := xs.take (k * ie.size)
              bif Nat.ble (p.2 + ys.length) c.length then some (.int .i64 (.ofNat k), H.upd p.1 (.cells (splice c p.2 ys))) else none
            | _ => none
    | _ => none
  | _, _ => none

include hE in
theorem aCopy_sound (hr : HRel ι H w) {dt xt ty : TypeId} {d x : AV} {u v : Value} (hd : VRel ι d u) (hx : VRel ι x v) {y : AV} {H' : AHeap} (h : aCopy E H dt xt d x = some (y, H')) :
    Makes P ι H w (Builtin.copy_ #[dt, xt] ty #[u, v]) y H' := by
  unfold aCopy at h
  split at h
  case h_2 => cases h
  rename_i i base dl cap more hdt
  have hu := hE.und (w := w) hdt
  split at h
  case h_2 => cases h
  rename_i e hde
  rw [hde] at hu
  split at h
  · cases h
  rename_i ie hie
  split at h
  · cases h
  rename_i n xs hsrc
  obtain ⟨h1, h2, h3, h4⟩ := aSource_sound (P := P) hr hx hsrc
  obtain ⟨vs, h5, h6⟩ := h4 (min n dl) (Nat.min_le_left _ _)
  have hf := h5 w rfl
  have hf' : (Builtin.firstCells ie.size (Nat.min n dl) v).run P w = .ok ⟨vs⟩ w := hf
  simp only at h
  have key : ∀ (b' : Option Addr) (c' : Nat), u = .slice b' dl c' → ∀ {w' : World}, ((match b' with | some a => storeCells a vs | none => pure ()) : Sem Unit).run P w = .ok () w' →
      (Builtin.copy_ #[dt, xt] ty #[u, v]).run P w = .ok (.int .i64 ((min n dl : Nat) : Int)) w' := by
    intro b' c' hu' w' hst
    subst hu'
    cases b' with
    | none => simp only [Sem.run_pure, Result.ok.injEq, true_and] at hst; subst hst
              simp only [Builtin.copy_, List.getElem?_toArray, List.getElem?_cons_zero, List.getElem?_cons_succ, Sem.run_bind, hu, Result.andThen_ok, h1, hE.sizeOf hie, hf', goInt, Sem.run_pure]
    | some a => simp only at hst; simp only [Builtin.copy_, List.getElem?_toArray, List.getElem?_cons_zero, List.getElem?_cons_succ, Sem.run_bind, hu, Result.andThen_ok, h1, hE.sizeOf hie, hf', goInt, Sem.run_pure, hst]
  cases base with
  | none =>
    cases h
    obtain ⟨rfl, rfl, rfl, rfl⟩ := hd
    exact ⟨ι, _, w, key none 0 rfl rfl, rfl, hr, .refl _ _ _⟩
  | some p =>
    simp only at h
    obtain ⟨a, c', rfl, hlc, hcc, hex, hblk, hor⟩ := hd
    cases hk0 : Nat.beq (min n dl) 0
    case true =>
      rw [hk0] at h
      cases h
      have hk : min n dl = 0 := Nat.eq_of_beq_eq_true hk0
      have hvs : vs = [] := List.length_eq_zero_iff.1 (by have := h6.length; rw [hk] at this; simpa using this)
      subst hvs
      exact ⟨ι, _, w, key (some a) c' rfl rfl, rfl, hr, .refl _ _ _⟩
    rw [hk0] at h
    simp only [cond_false] at h
    have hkpos : min n dl ≠ 0 := by intro e; rw [e] at hk0; cases hk0
    split at h
    case h_2 => cases h
    rename_i c hg
    cases hb : Nat.ble (p.2 + (xs.take (min n dl * ie.size)).length) c.length
    · rw [hb] at h; cases h
    rw [hb] at h
    cases h
    have hadr : AddrRel ι p a := hor.resolve_right (by omega)
    obtain ⟨w', hrun, g1, g2⟩ := cells_store P hr hadr hg h6 (fun c hc => h3 c (List.mem_of_mem_take hc)) (Nat.le_of_ble_eq_true hb)
    exact ⟨ι, _, w', key (some a) c' rfl hrun, rfl, g1, g2⟩

/-! Maps. -/
def aMod (es : List AEntry) (i : Nat) (v : AV) : List AEntry :=
  match es, i with
  | [], _ => []
  | e :: es, 0 => { e with val := v } :: es
  | e :: es, i + 1 => e :: aMod es i v

noncomputable def aMapUpdate (E : Env) (H : AHeap) (t : TypeId) (m k v : AV) : Option AHeap :=
  match E.T t, m with
  | some i, .map (some r) =>
    match i.desc, H.get r with
    | .map kt _, some (.map es clock) =>
      match E.T kt with
      | some ik =>
        bif keyKind ik.desc k then
          match aFind k es 0 with
          | some (some (j, _)) => some (H.upd r (.map (aMod es j v) clock))
          | some none => some (H.upd r (.map (es ++ [⟨k, v, clock⟩]) (clock + 1)))
          | none => none
        else none
      | none => none
    | _, _ => none
  | _, _ => none

theorem aMod_rel {v : AV} {v' : Value} (hv : VRel ι v v') {k : Value} : ∀ {es : List AEntry} {es' : List MapEntry} {j : Nat}, AllRel (EntRel ι) es es' → (∀ e, es'[j]? = some e → e.key = k) →
    AllRel (EntRel ι) (aMod es j v) (es'.modify j fun e => { e with key := k, val := v' })
  | _, _, _, .nil, _ => by simp [aMod]; exact .nil
  | _, _, 0, .cons h hs, hk => by
    simp only [aMod, List.modify_zero_cons]
    refine .cons ⟨?_, hv, h.2.2⟩ hs
    have := hk _ (by simp; rfl)
    simp only; rw [← this]; exact h.1
  | _, _, j + 1, .cons h hs, hk => by
    simp only [aMod, List.modify_succ_cons]
    exact .cons h (aMod_rel hv hs fun e he => hk e (by simpa using he))

theorem findNow_same {d : TypeDesc} {k : Value} : ∀ {es : List MapEntry} {i j : Nat} {u : Value}, Instr.findNow d k es i = some (some (j, u)) → ∃ e, es[j - i]? = some e ∧ i ≤ j ∧ Instr.sameNow d k e.key = some true
  | [], i, j, u, h => by simp [Instr.findNow] at h
  | e :: es, i, j, u, h => by
    simp only [Instr.findNow] at h
    split at h
    · rename_i hs
      simp only [Option.some.injEq, Prod.mk.injEq] at h
      obtain ⟨rfl, rfl⟩ := h
      exact ⟨e, by simp, Nat.le_refl _, hs⟩
    · obtain ⟨e2, h1, h2, h3⟩ := findNow_same h
      exact ⟨e2, by rw [show j - i = (j - (i + 1)) + 1 by omega]; simpa using h1, by omega, h3⟩
    · cases h

theorem sameNow_eq {d : TypeDesc} {k a : AV} {u v : Value} (hkk : keyKind d k = true) (hk : VRel ι k u) (h : Instr.sameNow d u v = some true) : v = u ∧ Instr.sameBits 10000 v u = true := by
  cases d <;> cases k <;> simp only [keyKind] at hkk <;> try (cases hkk; done)
  · simp only [VRel] at hk; subst hk
    cases v <;> simp only [Instr.sameNow] at h <;> try (cases h; done)
    split at h
    · rename_i e; subst e
      simp only [Option.some.injEq, beq_iff_eq] at h
      subst h
      exact ⟨rfl, by simp [Instr.sameBits]⟩
    · cases h
  · simp only [VRel] at hk; subst hk
    cases v <;> simp only [Instr.sameNow] at h <;> try (cases h; done)
    rename_i s
    obtain ⟨⟨s⟩⟩ := s
    simp only [Option.some.injEq] at h
    rw [bytes_beq, beq_iff_eq] at h
    subst h
    exact ⟨rfl, by simp only [Instr.sameBits]; rw [bytes_beq]; simp⟩

theorem run_setObj {r : Nat} {o o' : Obj} (hw : w.heap[r]? = some o) (hn : ∀ c t f, o ≠ .cells c t f) : (setObj r o').run P w = .ok () { w with heap := w.heap.setIfInBounds r o' } := by
  cases o <;> first | exact absurd rfl (hn _ _ _) | simp only [setObj, Sem.run, hw]

theorem upd_obj (hr : HRel ι H w) {r r' : Nat} {s : Nat × Nat} {o0 o : AObj} {o' p' : Obj} (hg : H.get r = some o0) (hi : ι r = some (r', s)) (hw : w.heap[r']? = some p') (ho : ORel ι s o o') :
    HRel ι (H.upd r o) { w with heap := w.heap.setIfInBounds r' o' } ∧ Ext ι H w ι (H.upd r o) { w with heap := w.heap.setIfInBounds r' o' } := by
  obtain ⟨h1, h2⟩ := MapKept.heap_set (o' := o') hw
  exact hr.upd hg hi h1 (by simp) h2 ho ⟨rfl, rfl, rfl⟩

include hE in
theorem aMapUpdate_sound (hr : HRel ι H w) {t : TypeId} {m k v : AV} {m' k' v' : Value} (hm : VRel ι m m') (hk : VRel ι k k') (hv : VRel ι v v') {H' : AHeap} (h : aMapUpdate E H t m k v = some H') :
    ∃ w', (Instr.mapUpdate t m' k' v').run P w = .ok () w' ∧ HRel ι H' w' ∧ Ext ι H w ι H' w' := by
  unfold aMapUpdate at h
  split at h
  case h_2 => cases h
  rename_i i r ht
  have hu := hE.und (w := w) ht
  split at h
  case h_2 => cases h
  rename_i kt et es clock hd hg
  rw [hd] at hu
  split at h
  case h_2 => cases h
  rename_i ik hik
  cases hkk : keyKind ik.desc k
  · rw [hkk] at h; cases h
  rw [hkk] at h
  simp only [cond_true] at h
  obtain ⟨r', hr', rfl⟩ := hm
  obtain ⟨b', s, o', hb, hw, h0, es', rfl, hall⟩ := hr.obj _ _ _ _ hg hr'
  rw [hr'] at hb; cases hb
  have hchk : ∀ b, (Instr.checkKey b 10000 kt k').run P w = .ok () w := fun b => run_checkKey hE hik hkk hk b 9999
  have hget : (getObj r').run P w = .ok (.map ⟨es'⟩ clock) w := by simp only [getObj, Sem.run, hw]
  obtain ⟨_, _, hund, _⟩ := hE.T kt ik hik
  cases hf : aFind k es 0 with
  | none => rw [hf] at h; cases h
  | some q =>
    rw [hf] at h
    obtain ⟨q', hf', hor⟩ := aFind_sound hkk hk hall hf
    have hfind : (Instr.findKey kt k' es').run P w = .ok q' w := MapKept.run_findKey hund hf'
    rcases hor with ⟨rfl, rfl⟩ | ⟨j, a, c, rfl, rfl, hac, hj1, hj2⟩
    · simp only at h
      cases h
      obtain ⟨g1, g2⟩ := upd_obj hr (o := .map (es ++ [⟨k, v, clock⟩]) (clock + 1)) (o' := .map ((⟨es'⟩ : Array MapEntry).push { key := k', val := v', born := clock }) (clock + 1)) hg hr' hw ⟨rfl, es' ++ [{ key := k', val := v', born := clock }], by simp, hall.append (.cons ⟨hk, hv, rfl⟩ .nil)⟩
      refine ⟨_, ?_, g1, g2⟩
      simp only [Instr.mapUpdate, Sem.run_bind, hu, Result.andThen_ok, hget, hchk, hfind]
      exact run_setObj hw (by intro c t f e; cases e)
    · simp only at h
      cases h
      obtain ⟨e, he, _, hsame⟩ := findNow_same hf'
      simp only [Nat.sub_zero] at he
      obtain ⟨hek, hbits⟩ := sameNow_eq (a := k) hkk hk hsame
      have hall' := aMod_rel (k := k') hv (j := j) hall (fun e2 he2 => by rw [he] at he2; cases he2; exact hek)
      obtain ⟨g1, g2⟩ := upd_obj hr (o := .map (aMod es j v) clock) (o' := .map ((⟨es'⟩ : Array MapEntry).modify j fun e => { e with key := k', val := v' }) clock) hg hr' hw ⟨rfl, es'.modify j (fun e => { e with key := k', val := v' }), by simp, hall'⟩
      refine ⟨_, ?_, g1, g2⟩
      have hkey : ((((⟨es'⟩ : Array MapEntry)[j]?).map (·.key)).getD k') = k' := by
        have : (⟨es'⟩ : Array MapEntry)[j]? = some e := by simpa using he
        rw [this]; simpa using hek
      simp only [Instr.mapUpdate, Sem.run_bind, hu, Result.andThen_ok, hget, hchk, hfind, hkey, Instr.keyThatStays]
      rw [if_pos (by rw [← hek] at hbits ⊢; rw [hek] at hbits ⊢; exact hbits)]
      simp only [Sem.run_pure, Result.andThen_ok]
      exact run_setObj hw (by intro c t f e; cases e)

def aErase (es : List AEntry) (i : Nat) : List AEntry := es.eraseIdx i
theorem aErase_rel : ∀ {es : List AEntry} {es' : List MapEntry} {j : Nat}, AllRel (EntRel ι) es es' → AllRel (EntRel ι) (es.eraseIdx j) (es'.eraseIdx j)
  | _, _, _, .nil => by simp; exact .nil
  | _, _, 0, .cons h hs => by simpa using hs
  | _, _, j + 1, .cons h hs => by simp only [List.eraseIdx_cons_succ]; exact .cons h (aErase_rel hs)

noncomputable def aDelete (E : Env) (H : AHeap) (t : TypeId) (m k : AV) : Option (AV × AHeap) :=
  match E.T t, m with
  | some i, .map (some r) =>
    match i.desc, H.get r with
    | .map kt _, some (.map es clock) =>
      match E.T kt with
      | some ik =>
        bif keyKind ik.desc k then
          match aFind k es 0 with
          | some (some (j, _)) => some (.tuple [], H.upd r (.map (es.eraseIdx j) clock))
          | some none => some (.tuple [], H)
          | none => none
        else none
      | none => none
    | _, _ => none
  | _, _ => none

include hE in
theorem aDelete_sound (hr : HRel ι H w) {t kt2 ty : TypeId} {m k : AV} {m' k' : Value} (hm : VRel ι m m') (hk : VRel ι k k') {y : AV} {H' : AHeap} (h : aDelete E H t m k = some (y, H')) :
    Makes P ι H w (Builtin.delete_ #[t, kt2] ty #[m', k']) y H' := by
  unfold aDelete at h
  split at h
  case h_2 => cases h
  rename_i i r ht
  have hu := hE.und (w := w) ht
  split at h
  case h_2 => cases h
  rename_i kt et es clock hd hg
  rw [hd] at hu
  split at h
  case h_2 => cases h
  rename_i ik hik
  cases hkk : keyKind ik.desc k
  · rw [hkk] at h; cases h
  rw [hkk] at h
  simp only [cond_true] at h
  obtain ⟨r', hr', rfl⟩ := hm
  obtain ⟨b', s, o', hb, hw, h0, es', rfl, hall⟩ := hr.obj _ _ _ _ hg hr'
  rw [hr'] at hb; cases hb
  have hchk : ∀ b, (Instr.checkKey b 10000 kt k').run P w = .ok () w := fun b => run_checkKey hE hik hkk hk b 9999
  have hget : (getObj r').run P w = .ok (.map ⟨es'⟩ clock) w := by simp only [getObj, Sem.run, hw]
  obtain ⟨_, _, hund, _⟩ := hE.T kt ik hik
  have hset : ∀ o', (setObj r' o').run P w = .ok () { w with heap := w.heap.setIfInBounds r' o' } := fun o' => run_setObj hw (by intro c t f e; cases e)
  cases hf : aFind k es 0 with
  | none => rw [hf] at h; cases h
  | some q =>
    rw [hf] at h
    obtain ⟨q', hf', hor⟩ := aFind_sound hkk hk hall hf
    have hfind : (Instr.findKey kt k' es').run P w = .ok q' w := MapKept.run_findKey hund hf'
    rcases hor with ⟨rfl, rfl⟩ | ⟨j, a, c, rfl, rfl, hac, hj1, hj2⟩
    · simp only at h
      cases h
      have hself : ({ w with heap := w.heap.setIfInBounds r' (.map ⟨es'⟩ clock) } : World).heap = w.heap := by
        have hlt : r' < w.heap.size := (Array.getElem?_eq_some_iff.1 hw).1
        have hv := (Array.getElem?_eq_some_iff.1 hw).2
        apply Array.ext
        · simp
        · intro n h1 h2
          by_cases e : n = r'
          · subst e; simp [hv]
          · exact Array.getElem_setIfInBounds_ne _ (Ne.symm e)
      refine ⟨ι, .tuple #[], _, ?_, ⟨[], rfl, rfl⟩, hr.of_heap hself, .of_heap hself ⟨rfl, rfl, rfl⟩⟩
      simp [Builtin.delete_, hu, hget, hchk, hfind, hset]
    · simp only at h
      cases h
      obtain ⟨g1, g2⟩ := upd_obj hr (o := .map (es.eraseIdx j) clock) (o' := .map ((⟨es'⟩ : Array MapEntry).eraseIdxIfInBounds j) clock) hg hr' hw ⟨rfl, es'.eraseIdx j, by
        congr 1
        have hl := hall.length
        have : j < es'.length := by omega
        simp [Array.eraseIdxIfInBounds, this], aErase_rel hall⟩
      refine ⟨ι, .tuple #[], _, ?_, ⟨[], rfl, rfl⟩, g1, g2⟩
      simp [Builtin.delete_, hu, hget, hchk, hfind, hset]
end
end Go.Am
/-! AmM -/
namespace Go.Am

section
variable {E : Env} {P : Program} (hE : E.OK P) {ι : Ren} {H : AHeap} {w : World}

theorem freeze_push (w : World) (c : Array Value) (e : TypeId) (cap : Nat) :
    ((w.alloc (.cells c e)).freeze { block := w.heap.size, off := cap } 1).heap = w.heap.push (.cells c e (cap, cap + 1)) := by
  simp only [World.freeze, World.alloc]
  rw [if_neg (by omega)]
  apply Array.ext
  · simp
  · intro n h1 h2
    simp only [Array.size_modify, Array.size_push] at h1
    rw [Array.getElem_modify]
    by_cases hn' : w.heap.size = n
    · subst hn'
      rw [if_pos rfl, Array.getElem_push_eq, Array.getElem_push_eq]
      simp
    · rw [if_neg hn', Array.getElem_push_lt (by omega), Array.getElem_push_lt (by omega)]

noncomputable def aToBytes (E : Env) (H : AHeap) (s d : TypeId) (x : AV) : Option (AV × AHeap) :=
  match E.T s, E.T d, x with
  | some i, some j, .str t =>
    match i.desc, j.desc with
    | .string, .slice e =>
      match E.T e with
      | some k => match k.desc with
        | .int .u8 => some (.slice (some (H.next, 0)) t.length t.length 1, H.push (.cells (t.map fun b => .int .u8 (.ofNat b.toNat))))
        | _ => none
      | none => none
    | _, _ => none
  | _, _, _ => none

include hE in
theorem aToBytes_sound (hr : HRel ι H w) {s d : TypeId} {x : AV} {v : Value} (hx : VRel ι x v) {y : AV} {H' : AHeap} (h : aToBytes E H s d x = some (y, H')) :
    Makes P ι H w (convert s d v) y H' := by
  unfold aToBytes at h
  split at h
  case h_2 => cases h
  rename_i i j t hs hd
  split at h
  case h_2 => cases h
  rename_i e hdi hdj
  split at h
  case h_2 => cases h
  rename_i k hk
  split at h
  case h_2 => cases h
  rename_i hdk
  cases h
  have hu := hE.und (w := w) hs
  have hv := hE.und (w := w) hd
  have hke := hE.und (w := w) hk
  rw [hdi] at hu; rw [hdj] at hv; rw [hdk] at hke
  simp only [VRel] at hx; subst hx
  let cap := (Question.appendCap t.length 0 e).cut (w.tape w.drawn (.appendCap t.length 0 e))
  have hcap : t.length ≤ cap := Nat.le_add_right _ _
  let cells : List Value := t.map fun b => Value.int .u8 (b.toNat : Int)
  let rest : List Value := List.replicate (cap - t.length) (.int .u8 0)
  have hn : cells.length + rest.length = cap := by simp [cells, rest]; omega
  obtain ⟨g1, g2⟩ := push_cells (w := w.drew) (hr.of_heap rfl) (str_cells t) (fun c hc => by obtain ⟨b, _, rfl⟩ := List.mem_map.1 hc; rfl) e rest (cap, cap + 1) cap hn.symm (fun i hi => by simp; omega)
  have hheap : ((w.drew.alloc (.cells ⟨cells ++ rest⟩ e)).freeze { block := w.heap.size, off := cap } 1).heap = w.drew.heap.push (.cells ⟨cells ++ rest⟩ e (cap, cap + 1)) := by
    exact freeze_push w.drew _ e cap
  refine ⟨_, .slice (some ⟨w.heap.size, 0, none⟩) t.length cap, (w.drew.alloc (.cells ⟨cells ++ rest⟩ e)).freeze { block := w.heap.size, off := cap } 1, ?_,
    ⟨⟨w.heap.size, 0, none⟩, cap, rfl, Nat.le_refl _, hcap, (fun h => by cases h), fun _ => ⟨w.heap.size, (0, cap), Ren.add_same _ _ _ _, rfl, by simp⟩, .inl ⟨w.heap.size, (0, cap), Ren.add_same _ _ _ _, by simp⟩⟩,
    g1.of_heap hheap, (Ext.of_heap (w := w) (w' := w.drew) rfl ⟨rfl, rfl, rfl⟩).trans (g2.trans (.of_heap hheap ⟨rfl, rfl, rfl⟩))⟩
  have helems : ((⟨⟨t⟩⟩ : ByteArray).data.map fun b => Value.int .u8 (b.toNat : Int)) ++ Array.replicate (cap - t.length) (.int .u8 0) = ⟨cells ++ rest⟩ := by
    apply Array.ext'; simp [cells, rest]
  have hshape : ∀ W : World, W.heap = w.drew.heap.push (.cells ⟨cells ++ rest⟩ e) → W.shape? w.heap.size = some (e, cap) := by
    intro W hW
    simp only [World.shape?, hW]
    have : (w.drew.heap.push (Obj.cells ⟨cells ++ rest⟩ e))[w.heap.size]? = some (.cells ⟨cells ++ rest⟩ e) := by
      show (w.heap.push _)[w.heap.size]? = _
      simp
    rw [this]
    simp; omega
  simp only [convert, Sem.run_bind, hu, hv, hke, Result.andThen_ok, Conv.stringToBytes, run_choose, Question.forced, size_mk, Bool.false_eq_true, if_false, newRow, run_newObj, Sem.run_pure, markStringish, run_shape]
  rw [show (Question.appendCap t.length 0 e).cut (w.tape w.drawn (Question.appendCap t.length 0 e)) = cap from rfl, helems]
  have h2 := hshape { heap := w.heap.push (.cells ⟨cells ++ rest⟩ e), tape := w.tape, drawn := w.drawn + 1, os := w.os, output := w.output } rfl
  simp only [h2, Sem.run_bind, Sem.run_pure, Result.andThen_ok, run_freeze]
  rfl

def byteOf? : AV → Option UInt8
  | .int .u8 (.ofNat n) => some (UInt8.ofNat n)
  | _ => none
def bytesOf? : List AV → Option (List UInt8)
  | [] => some []
  | a :: as => match byteOf? a, bytesOf? as with
    | some b, some bs => some (b :: bs)
    | _, _ => none

noncomputable def aToString (E : Env) (H : AHeap) (s d : TypeId) (x : AV) : Option AV :=
  match E.T s, E.T d, x with
  | some i, some j, .slice a n c m =>
    match i.desc, j.desc with
    | .slice e, .string =>
      match E.T e with
      | some k => match k.desc with
        | .int .u8 => match aSource H 1 (.slice a n c m) with
          | some (_, cs) => match bytesOf? cs with
            | some bs => some (.str bs)
            | none => none
          | none => none
        | _ => none
      | none => none
    | _, _ => none
  | _, _, _ => none

theorem bytesOf_rel : ∀ {cs : List AV} {vs : List Value} {bs : List UInt8}, VRels ι cs vs → bytesOf? cs = some bs → ∃ ns : List Int, vs = ns.map (Value.int .u8) ∧ bs = ns.map (fun n => UInt8.ofNat n.toNat)
  | [], _, bs, hv, h => by
    simp only [VRels] at hv; subst hv
    simp only [bytesOf?, Option.some.injEq] at h; subst h
    exact ⟨[], rfl, rfl⟩
  | a :: as, _, bs, hv, h => by
    simp only [VRels] at hv
    obtain ⟨v, vs, rfl, h1, h2⟩ := hv
    simp only [bytesOf?] at h
    split at h
    · rename_i b bs' hb hbs
      cases h
      obtain ⟨ns, rfl, rfl⟩ := bytesOf_rel h2 hbs
      unfold byteOf? at hb
      split at hb
      · rename_i n
        cases hb
        simp only [VRel] at h1; subst h1
        exact ⟨Int.ofNat n :: ns, rfl, by simp⟩
      · cases hb
    · cases h

theorem foldl_push (ns : List Int) : ∀ acc : ByteArray, (ns.foldl (fun r n => r.push (UInt8.ofNat n.toNat)) acc).data.toList = acc.data.toList ++ ns.map (fun n => UInt8.ofNat n.toNat) := by
  induction ns with
  | nil => intro acc; simp
  | cons n ns ih => intro acc; rw [List.foldl_cons, ih]; simp [ByteArray.push]

include hE in
theorem aToString_sound (hr : HRel ι H w) {s d : TypeId} {x : AV} {v : Value} (hx : VRel ι x v) {y : AV} (h : aToString E H s d x = some y) :
    ∃ u, (convert s d v).run P w = .ok u w ∧ VRel ι y u := by
  unfold aToString at h
  split at h
  case h_2 => cases h
  rename_i i j a n c m hs hd
  split at h
  case h_2 => cases h
  rename_i e hdi hdj
  split at h
  case h_2 => cases h
  rename_i k hk
  split at h
  case h_2 => cases h
  rename_i hdk
  split at h
  case h_2 => cases h
  rename_i n' cs hsrc
  split at h
  case h_2 => cases h
  rename_i bs hbs
  cases h
  have hu := hE.und (w := w) hs
  have hv := hE.und (w := w) hd
  have hke := hE.und (w := w) hk
  rw [hdi] at hu; rw [hdj] at hv; rw [hdk] at hke
  obtain ⟨h1, h2, h3, h4⟩ := aSource_sound (P := P) hr hx hsrc
  obtain ⟨vs, h5, h6⟩ := h4 n' (Nat.le_refl _)
  rw [List.take_of_length_le (by omega)] at h6
  obtain ⟨ns, hvs, hbs'⟩ := bytesOf_rel h6 hbs
  have hrun := h5 w rfl
  have hconv : ∀ b l cc, v = .slice b l cc → (convert s d v).run P w = (Conv.bytesToString v).run P w := by
    intro b l cc hvv
    subst hvv
    cases b <;> simp only [convert, Sem.run_bind, hu, hv, hke, Result.andThen_ok]
  cases a with
  | none =>
    obtain ⟨rfl, rfl, rfl, rfl⟩ := hx
    unfold aSource at hsrc
    cases hsrc
    simp only [bytesOf?, Option.some.injEq] at hbs; subst hbs
    exact ⟨.string .empty, by rw [hconv _ _ _ rfl]; rfl, rfl⟩
  | some p =>
    obtain ⟨a, c', rfl, hlc, hcc, hex, hblk, hor⟩ := hx
    have hn : n' = n := by
      have := h1 w
      simp only [Builtin.lenOf, Sem.run_pure, Result.ok.injEq, and_true] at this
      exact this.symm
    subst hn
    refine ⟨.string ⟨⟨bs⟩⟩, ?_, rfl⟩
    rw [hconv _ _ _ rfl]
    simp only [Builtin.firstCells, Nat.mul_one] at hrun
    rw [run_bytesToString (P := P) w a n' c' ns (by rw [hrun, hvs])]
    congr 2
    apply ByteArray.ext
    apply Array.ext'
    rw [foldl_push, hbs']; rfl

/-! Lengths and rooms. -/
noncomputable def aLen (E : Env) (H : AHeap) (t : TypeId) (x : AV) : Option AV :=
  match E.T t with
  | none => none
  | some i =>
    match i.desc, x with
    | .string, .str s => some (.int .i64 (.ofNat s.length))
    | .array n _, _ => some (.int .i64 (.ofNat n))
    | .slice _, .slice _ n _ _ => some (.int .i64 (.ofNat n))
    | .map _ _, .map none => some (.int .i64 (.ofNat 0))
    | .map _ _, .map (some r) => match H.get r with
      | some (.map es _) => some (.int .i64 (.ofNat es.length))
      | _ => none
    | _, _ => none

include hE in
theorem aLen_sound (hr : HRel ι H w) {t ty : TypeId} {x : AV} {v : Value} (hx : VRel ι x v) {y : AV} (h : aLen E H t x = some y) :
    ∃ u, (Builtin.len_ #[t] ty #[v]).run P w = .ok u w ∧ VRel ι y u := by
  unfold aLen at h
  split at h
  · cases h
  rename_i i ht
  have hu := hE.und (w := w) ht
  split at h
  · rename_i s hd
    cases h; rw [hd] at hu
    simp only [VRel] at hx; subst hx
    exact ⟨.int .i64 (s.length : Int), by simp [Builtin.len_, hu, goInt, size_mk], rfl⟩
  · rename_i n e hd
    cases h; rw [hd] at hu
    exact ⟨.int .i64 (n : Int), by simp [Builtin.len_, hu, goInt], rfl⟩
  · rename_i e a n c m hd
    cases h; rw [hd] at hu
    refine ⟨.int .i64 (n : Int), ?_, rfl⟩
    cases a with
    | none => obtain ⟨rfl, _, _, rfl⟩ := hx; simp [Builtin.len_, hu, goInt]
    | some p => obtain ⟨a, c', rfl, _⟩ := hx; simp [Builtin.len_, hu, goInt]
  · rename_i k e hd
    cases h; rw [hd] at hu
    simp only [VRel] at hx; subst hx
    exact ⟨.int .i64 0, by simp [Builtin.len_, hu, goInt], rfl⟩
  · rename_i k e r hd
    rw [hd] at hu
    split at h
    · rename_i es clock hg
      cases h
      obtain ⟨r', hr', rfl⟩ := hx
      obtain ⟨b', s, o', hb, hw, h0, es', rfl, hall⟩ := hr.obj _ _ _ _ hg hr'
      rw [hr'] at hb; cases hb
      refine ⟨.int .i64 (es.length : Int), ?_, rfl⟩
      have hget : (getObj r').run P w = .ok (.map ⟨es'⟩ clock) w := by simp only [getObj, Sem.run, hw]
      simp [Builtin.len_, hu, goInt, hget, hall.length]
    · cases h
  · cases h

noncomputable def aCap (E : Env) (t : TypeId) (x : AV) : Option AV :=
  match E.T t with
  | none => none
  | some i =>
    match i.desc, x with
    | .array n _, _ => some (.int .i64 (.ofNat n))
    | .slice _, .slice _ _ c 0 => some (.int .i64 (.ofNat c))
    | _, _ => none

include hE in
theorem aCap_sound {t ty : TypeId} {x : AV} {v : Value} (hx : VRel ι x v) {y : AV} (h : aCap E t x = some y) :
    ∃ u, (Builtin.cap_ #[t] ty #[v]).run P w = .ok u w ∧ VRel ι y u := by
  unfold aCap at h
  split at h
  · cases h
  rename_i i ht
  have hu := hE.und (w := w) ht
  split at h
  · rename_i n e hd
    cases h; rw [hd] at hu
    exact ⟨.int .i64 (n : Int), by simp [Builtin.cap_, hu, goInt], rfl⟩
  · rename_i e a n c hd
    cases h; rw [hd] at hu
    refine ⟨.int .i64 (c : Int), ?_, rfl⟩
    cases a with
    | none => obtain ⟨rfl, rfl, _, rfl⟩ := hx; simp [Builtin.cap_, hu, goInt]
    | some p => obtain ⟨a, c', rfl, _, _, hex, _⟩ := hx; rw [hex rfl]; simp [Builtin.cap_, hu, goInt]
  · cases h

def aMax : List AV → Option AV
  | [.int k x, .int k' y] => if k = k' then some (.int k (if ilt x y then y else x)) else none
  | _ => none
def aMin : List AV → Option AV
  | [.int k x, .int k' y] => if k = k' then some (.int k (if ilt y x then y else x)) else none
  | _ => none
theorem aMax_sound {xs : List AV} {vs : List Value} (hx : VRels ι xs vs) {ts : Array TypeId} {ty : TypeId} {y : AV} (h : aMax xs = some y) : ∃ u, (Builtin.max_ ts ty ⟨vs⟩).run P w = .ok u w ∧ VRel ι y u := by
  unfold aMax at h
  split at h
  · rename_i k x k' z
    obtain ⟨v, vs, rfl, h1, u, us, rfl, h2, rfl⟩ := hx
    simp only [VRel] at h1 h2; subst h1; subst h2
    split at h
    · cases h
      refine ⟨.int k (if z > x then z else x), ?_, ?_⟩
      · simp [Builtin.max_, Builtin.max2]
      · rw [ilt_eq]; simp only [decide_eq_true_eq, VRel, gt_iff_lt]
    · cases h
  · cases h
theorem aMin_sound {xs : List AV} {vs : List Value} (hx : VRels ι xs vs) {ts : Array TypeId} {ty : TypeId} {y : AV} (h : aMin xs = some y) : ∃ u, (Builtin.min_ ts ty ⟨vs⟩).run P w = .ok u w ∧ VRel ι y u := by
  unfold aMin at h
  split at h
  · rename_i k x k' z
    obtain ⟨v, vs, rfl, h1, u, us, rfl, h2, rfl⟩ := hx
    simp only [VRel] at h1 h2; subst h1; subst h2
    split at h
    · cases h
      refine ⟨.int k (if z < x then z else x), ?_, ?_⟩
      · simp [Builtin.min_, Builtin.min2]
      · rw [ilt_eq]; simp only [decide_eq_true_eq, VRel]
    · cases h
  · cases h
end
end Go.Am
/-! AmIt -/
namespace Go.Am

section
variable {E : Env} {P : Program} (hE : E.OK P) {ι : Ren} {H : AHeap} {w : World}

noncomputable def aRange (E : Env) (H : AHeap) (t : TypeId) (x : AV) : Option (AV × AHeap) :=
  match E.T t with
  | none => none
  | some i =>
    match i.desc, x with
    | .map _ _, .map none => some (.ptr (some (H.next, 0)), H.push (.miter none 0 [] 0))
    | .map _ _, .map (some r) => match H.get r with
      | some (.map _ clock) => some (.ptr (some (H.next, 0)), H.push (.miter (some r) clock [] clock))
      | _ => none
    | _, _ => none

include hE in
theorem aRange_sound (hr : HRel ι H w) {t : TypeId} {x : AV} {v : Value} (hx : VRel ι x v) {y : AV} {H' : AHeap} (h : aRange E H t x = some (y, H')) : Makes P ι H w (Instr.range t v) y H' := by
  unfold aRange at h
  split at h
  · cases h
  rename_i i ht
  have hu := hE.und (w := w) ht
  split at h
  · rename_i k e hd
    rw [hd] at hu
    cases h
    simp only [VRel] at hx; subst hx
    obtain ⟨g1, g2⟩ := hr.push (o := .miter none 0 [] 0) (o' := .mapIter none 0 #[] 0) 0 ⟨rfl, rfl⟩
    refine ⟨_, .pointer (some ⟨w.heap.size, 0, none⟩), _, ?_, ⟨_, ⟨w.heap.size, (0, 0), Ren.add_same _ _ _ _, rfl⟩, rfl⟩, g1, g2⟩
    simp only [Instr.range, Sem.run_bind, hu, Result.andThen_ok, Sem.run_pure, run_newObj]
  · rename_i k e r hd
    rw [hd] at hu
    split at h
    · rename_i es clock hg
      cases h
      obtain ⟨r', hr', rfl⟩ := hx
      obtain ⟨b', s, o', hb, hw, h0, es', rfl, hall⟩ := hr.obj _ _ _ _ hg hr'
      rw [hr'] at hb; cases hb
      have hle : ι.le (ι.add H.next w.heap.size (0, 0)) := Ren.le_add (hr.none_next (Nat.le_refl _))
      obtain ⟨g1, g2⟩ := hr.push (o := .miter (some r) clock [] clock) (o' := .mapIter (some r') clock #[] clock) 0 ⟨rfl, r', hle _ _ hr', rfl⟩
      refine ⟨_, .pointer (some ⟨w.heap.size, 0, none⟩), _, ?_, ⟨_, ⟨w.heap.size, (0, 0), Ren.add_same _ _ _ _, rfl⟩, rfl⟩, g1, g2⟩
      have hget : (getObj r').run P w = .ok (.map ⟨es'⟩ clock) w := by simp only [getObj, Sem.run, hw]
      simp only [Instr.range, Sem.run_bind, hu, Result.andThen_ok, hget, Sem.run_pure, run_newObj]
    · cases h
  · cases h

/-- What a step may come to: one thing for each entry that is left. -/
noncomputable def aNext (H : AHeap) (x : AV) : Option (List (AV × AHeap)) :=
  match x with
  | .ptr (some (b, 0)) =>
    match H.get b with
    | some (.miter none _ _ _) => some [(.tuple [.bool false], H)]
    | some (.miter (some m) since seen last) =>
      match H.get m with
      | some (.map es clock) =>
        bif es.all (fun e => Nat.blt e.born since) && Nat.ble since last then
          match es.filter (fun e => !seen.contains e.born) with
          | [] => some [(.tuple [.bool false], H)]
          | left => some (left.map fun e => (.tuple [.bool true, e.key, e.val], H.upd b (.miter (some m) since (seen ++ [e.born]) clock)))
        else none
      | _ => none
    | _ => none
  | _ => none

theorem allRel_born {ι : Ren} {es : List AEntry} {es' : List MapEntry} (h : AllRel (EntRel ι) es es') : es'.map (·.born) = es.map (·.born) := by
  induction h with
  | nil => rfl
  | cons h1 _ ih => simp [ih, h1.2.2]
theorem allRel_filter {ι : Ren} {p : Nat → Bool} {es : List AEntry} {es' : List MapEntry} (h : AllRel (EntRel ι) es es') : AllRel (EntRel ι) (es.filter fun e => p e.born) (es'.filter fun e => p e.born) := by
  induction h with
  | nil => exact .nil
  | cons h1 _ ih =>
    rw [List.filter_cons, List.filter_cons, h1.2.2]
    split
    · exact .cons h1 ih
    · exact ih
theorem allRel_mem {α β : Type} {R : α → β → Prop} {as : List α} {bs : List β} (h : AllRel R as bs) {b : β} (hb : b ∈ bs) : ∃ a ∈ as, R a b := by
  induction h with
  | nil => cases hb
  | cons h1 _ ih =>
    rcases List.mem_cons.1 hb with rfl | hb
    · exact ⟨_, List.mem_cons_self, h1⟩
    · obtain ⟨a, ha, hr⟩ := ih hb; exact ⟨a, List.mem_cons_of_mem _ ha, hr⟩

theorem leftOf_list (es' : List MapEntry) (seen : List Nat) : (leftOf ⟨es'⟩ ⟨seen⟩).toList = es'.filter fun e => !seen.contains e.born := by
  unfold leftOf
  simp

theorem aNext_sound (hr : HRel ι H w) {x : AV} {v : Value} (hx : VRel ι x v) {ty : TypeId} {l : List (AV × AHeap)} (h : aNext H x = some l) :
    ∃ y H' u w', (y, H') ∈ l ∧ (Instr.next v false ty).run P w = .ok u w' ∧ VRel ι y u ∧ HRel ι H' w' ∧ Ext ι H w ι H' w' := by
  unfold aNext at h
  split at h
  case h_2 => cases h
  rename_i b
  obtain ⟨a, ⟨b', s, hb, ha⟩, rfl⟩ := hx
  split at h
  · rename_i since seen last hg
    cases h
    obtain ⟨b1, s1, o', hb1, hw, h0, rfl⟩ := hr.obj _ _ _ _ hg hb
    rw [hb] at hb1; cases hb1
    subst h0; subst ha
    refine ⟨.tuple [.bool false], H, .tuple #[.bool false], w, by simp, ?_, ⟨[.bool false], ⟨_, _, rfl, rfl, rfl⟩, rfl⟩, hr, .refl _ _ _⟩
    simp only [Instr.next, getObj, Sem.run_bind, Sem.run, hw, Result.andThen_ok, Sem.run_pure, Nat.zero_add]
  · rename_i m since seen last hg
    split at h
    case h_2 => cases h
    rename_i es clock hgm
    cases hc : (es.all (fun e => Nat.blt e.born since) && Nat.ble since last)
    · rw [hc] at h; cases h
    rw [hc] at h
    simp only [cond_true] at h
    simp only [Bool.and_eq_true, List.all_eq_true, Nat.ble_eq] at hc
    obtain ⟨hold, hsl⟩ := hc
    obtain ⟨b1, s1, o', hb1, hw, h0, m', hm', rfl⟩ := hr.obj _ _ _ _ hg hb
    rw [hb] at hb1; cases hb1
    subst h0; subst ha
    obtain ⟨m1, s2, o2, hm1, hwm, h02, es', rfl, hall⟩ := hr.obj _ _ _ _ hgm hm'
    rw [hm'] at hm1; cases hm1
    have hold' : ∀ e ∈ (⟨es'⟩ : Array MapEntry).toList, e.born < since := by
      intro e he
      obtain ⟨a, ha, hra⟩ := allRel_mem hall he
      have := hold a ha
      rw [hra.2.2]
      exact Nat.le_of_ble_eq_true this
    have hf := allRel_filter (p := fun n => !seen.contains n) hall
    have hll := leftOf_list es' seen
    rcases run_next_at (P := P) w ty b' m' since last ⟨seen⟩ ⟨es'⟩ clock hw hwm hold' hsl with ⟨hz, hrun⟩ | ⟨e, he, w1, hw1, hrun⟩
    · have hnil : es'.filter (fun e => !seen.contains e.born) = [] := by
        rw [← hll]; apply List.eq_nil_of_length_eq_zero; simpa using hz
      rw [hnil] at hf
      have hnil2 : es.filter (fun e => !seen.contains e.born) = [] := by
        have := hf.length; apply List.eq_nil_of_length_eq_zero; simpa using this.symm
      rw [hnil2] at h
      cases h
      exact ⟨.tuple [.bool false], H, .tuple #[.bool false], w, by simp, by simpa using hrun, ⟨[.bool false], ⟨_, _, rfl, rfl, rfl⟩, rfl⟩, hr, .refl _ _ _⟩
    · rw [hll] at he
      obtain ⟨a, ha, hra⟩ := allRel_mem hf he
      have hne : es.filter (fun e => !seen.contains e.born) ≠ [] := fun e0 => by rw [e0] at ha; cases ha
      split at h
      · rename_i e0; exact absurd e0 hne
      · cases h
        have hw1h : w1.heap = w.heap := by rcases hw1 with rfl | rfl <;> rfl
        have hr1 := hr.of_heap (w' := w1) hw1h
        obtain ⟨g1, g2⟩ := hr1.upd (o := .miter (some m) since (seen ++ [a.born]) clock) (o' := .mapIter (some m') since ⟨seen ++ [a.born]⟩ clock) (w' := Go.ChangeMaps.setBlock w1 b' (.mapIter (some m') since ((⟨seen⟩ : Array Nat).push e.born) clock))
          hg hb (by
            have : b' < w1.heap.size := by rw [hw1h]; exact (Array.getElem?_eq_some_iff.1 hw).1
            simp [Go.ChangeMaps.setBlock, this, hra.2.2]) (by simp [Go.ChangeMaps.setBlock]) (fun c hc => by simp [Go.ChangeMaps.setBlock, Array.getElem?_setIfInBounds, Ne.symm hc]) ⟨rfl, m', hm', rfl⟩ ⟨rfl, rfl, rfl⟩
        refine ⟨_, _, .tuple #[.bool true, e.key, e.val], _, List.mem_map.2 ⟨a, ha, rfl⟩, by simpa using hrun, ⟨[.bool true, e.key, e.val], ⟨_, _, rfl, rfl, _, _, rfl, hra.1, _, _, rfl, hra.2.1, rfl⟩, rfl⟩, g1, ?_⟩
        exact (Ext.of_heap hw1h (by rcases hw1 with rfl | rfl <;> exact ⟨rfl, rfl, rfl⟩)).trans g2
  · cases h

/-- The entry that the step came to. -/
noncomputable def aEntry (H : AHeap) (x : AV) : Option AV :=
  match x with
  | .ptr (some (b, 0)) =>
    match H.get b with
    | some (.miter (some m) _ seen last) =>
      match H.get m, seen.getLast? with
      | some (.map es clock), some stamp =>
        bif Nat.beq clock last then
          match es.find? (fun e => e.born == stamp) with
          | some e => some (.tuple [e.key, e.val])
          | none => none
        else none
      | _, _ => none
    | _ => none
  | _ => none

theorem allRel_find {ι : Ren} {p : Nat → Bool} {es : List AEntry} {es' : List MapEntry} (h : AllRel (EntRel ι) es es') {e : AEntry} (hf : es.find? (fun e => p e.born) = some e) :
    ∃ e', es'.find? (fun e => p e.born) = some e' ∧ EntRel ι e e' := by
  induction h with
  | nil => cases hf
  | cons h1 _ ih =>
    rw [List.find?_cons] at hf ⊢
    rw [h1.2.2]
    split at hf
    · rename_i hp; cases hf; exact ⟨_, rfl, h1⟩
    · rename_i hp; exact ih hf

theorem aEntry_sound (hr : HRel ι H w) {x : AV} {v : Value} (hx : VRel ι x v) {y : AV} (h : aEntry H x = some y) : ∃ u, (Instr.entry v).run P w = .ok u w ∧ VRel ι y u := by
  unfold aEntry at h
  split at h
  case h_2 => cases h
  rename_i b
  obtain ⟨a, ⟨b', s, hb, ha⟩, rfl⟩ := hx
  split at h
  case h_2 => cases h
  rename_i m since seen last hg
  split at h
  case h_2 => cases h
  rename_i es clock stamp hgm hst
  cases hc : Nat.beq clock last
  · rw [hc] at h; cases h
  rw [hc] at h
  simp only [cond_true] at h
  rw [Nat.beq_eq] at hc; subst hc
  split at h
  · rename_i e hf
    cases h
    obtain ⟨b1, s1, o', hb1, hw, h0, m', hm', rfl⟩ := hr.obj _ _ _ _ hg hb
    rw [hb] at hb1; cases hb1
    subst h0; subst ha
    obtain ⟨m1, s2, o2, hm1, hwm, h02, es', rfl, hall⟩ := hr.obj _ _ _ _ hgm hm'
    rw [hm'] at hm1; cases hm1
    obtain ⟨e', he', hre⟩ := allRel_find (p := fun n => n == stamp) hall hf
    refine ⟨.tuple #[e'.key, e'.val], ?_, ⟨[e'.key, e'.val], ⟨_, _, rfl, hre.1, _, _, rfl, hre.2.1, rfl⟩, rfl⟩⟩
    have hback : (⟨seen⟩ : Array Nat).back? = some stamp := by rw [← hst]; simp [Array.back?_eq_getElem?, List.getLast?_eq_getElem?]
    have hfa : (⟨es'⟩ : Array MapEntry).find? (fun e => e.born == stamp) = some e' := by rw [← Array.find?_toList]; exact he'
    simp only [Nat.zero_add, Instr.entry, getObj, Sem.run_bind, Sem.run, hw, hwm, Result.andThen_ok, Sem.run_pure, hback, bne_self_eq_false, Bool.false_eq_true, if_false, hfa]
  · cases h
/-! 'm[k] = v' in two steps: the entry is made, then written. -/
noncomputable def aMapEntry (E : Env) (H : AHeap) (t : TypeId) (m k : AV) : Option (AV × AHeap) :=
  match E.T t, m with
  | some i, .map (some r) =>
    match i.desc, H.get r with
    | .map kt et, some (.map es clock) =>
      match E.T kt, E.T et with
      | some ik, some ie =>
        bif keyKind ik.desc k then
          match aFind k es 0, ie.zero with
          | some none, some z => some (.tuple [z, .int .i64 (.ofNat clock)], H.upd r (.map (es ++ [⟨k, z, clock⟩]) (clock + 1)))
          | _, _ => none
        else none
      | _, _ => none
    | _, _ => none
  | _, _ => none

include hE in
theorem aMapEntry_sound (hr : HRel ι H w) {t : TypeId} {m k : AV} {m' k' : Value} (hm : VRel ι m m') (hk : VRel ι k k') {y : AV} {H' : AHeap} (h : aMapEntry E H t m k = some (y, H')) :
    Makes P ι H w (Instr.mapEntry t m' k') y H' := by
  unfold aMapEntry at h
  split at h
  case h_2 => cases h
  rename_i i r ht
  have hu := hE.und (w := w) ht
  split at h
  case h_2 => cases h
  rename_i kt et es clock hd hg
  rw [hd] at hu
  split at h
  case h_2 => cases h
  rename_i ik ie hik hie
  cases hkk : keyKind ik.desc k
  · rw [hkk] at h; cases h
  rw [hkk] at h
  simp only [cond_true] at h
  obtain ⟨r', hr', rfl⟩ := hm
  obtain ⟨b', s, o', hb, hw, h0, es', rfl, hall⟩ := hr.obj _ _ _ _ hg hr'
  rw [hr'] at hb; cases hb
  have hchk : ∀ b, (Instr.checkKey b 10000 kt k').run P w = .ok () w := fun b => run_checkKey hE hik hkk hk b 9999
  have hget : (getObj r').run P w = .ok (.map ⟨es'⟩ clock) w := by simp only [getObj, Sem.run, hw]
  obtain ⟨_, _, hund, _⟩ := hE.T kt ik hik
  split at h
  · rename_i z hf hz
    cases h
    obtain ⟨q', hf', hor⟩ := aFind_sound hkk hk hall hf
    have hfind : (Instr.findKey kt k' es').run P w = .ok q' w := MapKept.run_findKey hund hf'
    obtain ⟨zv, hzv, hzr⟩ := hE.zero (w := w) hie hz
    rcases hor with ⟨_, rfl⟩ | ⟨j, a, c, e1, _⟩
    · obtain ⟨g1, g2⟩ := upd_obj hr (o := .map (es ++ [⟨k, z, clock⟩]) (clock + 1)) (o' := .map ((⟨es'⟩ : Array MapEntry).push { key := k', val := zv, born := clock }) (clock + 1)) hg hr' hw ⟨rfl, es' ++ [{ key := k', val := zv, born := clock }], by simp, hall.append (.cons ⟨hk, hzr ι, rfl⟩ .nil)⟩
      refine ⟨ι, .tuple #[zv, .int .i64 (clock : Int)], _, ?_, ⟨[zv, .int .i64 (clock : Int)], ⟨_, _, rfl, hzr ι, _, _, rfl, rfl, rfl⟩, rfl⟩, g1, g2⟩
      have hset := run_setObj (P := P) (o' := .map ((⟨es'⟩ : Array MapEntry).push { key := k', val := zv, born := clock }) (clock + 1)) hw (by intro c t f e; cases e)
      simp only [Instr.mapEntry, Sem.run_bind, hu, Result.andThen_ok, hget, hchk, hfind, hzv, hset, Sem.run_pure]
      rfl
    · cases e1
  · cases h

noncomputable def aEntryStore (H : AHeap) (m s v : AV) : Option AHeap :=
  match m, s with
  | .map (some r), .int _ (.ofNat n) =>
    match H.get r with
    | some (.map es clock) =>
      match es.findIdx? (fun e => Nat.beq e.born n) with
      | some j => some (H.upd r (.map (aMod es j v) clock))
      | none => none
    | _ => none
  | _, _ => none

theorem aMod_rel2 {v : AV} {v' : Value} (hv : VRel ι v v') : ∀ {es : List AEntry} {es' : List MapEntry} {j : Nat}, AllRel (EntRel ι) es es' →
    AllRel (EntRel ι) (aMod es j v) (es'.modify j fun e => { e with val := v' })
  | _, _, _, .nil => by simp [aMod]; exact .nil
  | _, _, 0, .cons h hs => by
    simp only [aMod, List.modify_zero_cons]
    exact .cons ⟨h.1, hv, h.2.2⟩ hs
  | _, _, j + 1, .cons h hs => by
    simp only [aMod, List.modify_succ_cons]
    exact .cons h (aMod_rel2 hv hs)
theorem allRel_findIdx {p q : Nat → Bool} (hpq : ∀ n, p n = q n) {es : List AEntry} {es' : List MapEntry} (h : AllRel (EntRel ι) es es') : es'.findIdx? (fun e => q e.born) = es.findIdx? (fun e => p e.born) := by
  induction h with
  | nil => rfl
  | cons h1 _ ih => simp only [List.findIdx?_cons, h1.2.2, hpq, ih]

theorem aEntryStore_sound (hr : HRel ι H w) {t : TypeId} {m s v : AV} {m' s' v' : Value} (hm : VRel ι m m') (hs : VRel ι s s') (hv : VRel ι v v') {H' : AHeap} (h : aEntryStore H m s v = some H') :
    ∃ w', (Instr.entryStore t m' s' v').run P w = .ok () w' ∧ HRel ι H' w' ∧ Ext ι H w ι H' w' := by
  unfold aEntryStore at h
  split at h
  case h_2 => cases h
  rename_i r kd n
  split at h
  case h_2 => cases h
  rename_i es clock hg
  split at h
  case h_2 => cases h
  rename_i j hj
  cases h
  obtain ⟨r', hr', rfl⟩ := hm
  simp only [VRel] at hs; subst hs
  obtain ⟨b', q, o', hb, hw, h0, es', rfl, hall⟩ := hr.obj _ _ _ _ hg hr'
  rw [hr'] at hb; cases hb
  have hget : (getObj r').run P w = .ok (.map ⟨es'⟩ clock) w := by simp only [getObj, Sem.run, hw]
  have hidx : (⟨es'⟩ : Array MapEntry).findIdx? (fun e => (e.born : Int) == (n : Int)) = some j := by
    rw [← hj]
    have := allRel_findIdx (p := fun b => Nat.beq b n) (q := fun b => (b : Int) == (n : Int)) (fun b => by rw [Bool.eq_iff_iff, Nat.beq_eq, beq_iff_eq]; omega) hall
    rw [← this]
    simp
  obtain ⟨g1, g2⟩ := upd_obj hr (o := .map (aMod es j v) clock) (o' := .map ((⟨es'⟩ : Array MapEntry).modify j fun e => { e with val := v' }) clock) hg hr' hw ⟨rfl, es'.modify j (fun e => { e with val := v' }), by simp, aMod_rel2 hv hall⟩
  refine ⟨_, ?_, g1, g2⟩
  have hset := run_setObj (P := P) (o' := .map ((⟨es'⟩ : Array MapEntry).modify j fun e => { e with val := v' }) clock) hw (by intro c t f e; cases e)
  simp only [Instr.entryStore, Sem.run_bind, hget, Result.andThen_ok, asInt, asIntOf, Sem.run_pure]
  have hidx' : (⟨es'⟩ : Array MapEntry).findIdx? (fun e => (e.born : Int) == Int.ofNat n) = some j := hidx
  simp only [hidx']
  exact hset
end
end Go.Am
/-! AmO -/
namespace Go.Am

section
variable {E : Env} {P : Program} (hE : E.OK P) {ι : Ren} {H : AHeap} {w : World} {T : Tr AV} {ρ : Operand → Value}

noncomputable def aEvalO (E : Env) (T : Tr AV) : Option Operand → Option (Option AV)
  | none => some none
  | some x => match aEval E T x with
    | some a => some (some a)
    | none => none
theorem aEvalO_sound (hρ : EvRel E ι T ρ) {x : Option Operand} {a : Option AV} (h : aEvalO E T x = some a) : ORels ι a (x.map ρ) := by
  cases x with
  | none => simp only [aEvalO, Option.some.injEq] at h; subst h; rfl
  | some x =>
    simp only [aEvalO] at h
    split at h
    · rename_i b hb; cases h; exact ⟨ρ x, rfl, hρ x b hb⟩
    · cases h

noncomputable def aParts (E : Env) (T : Tr AV) : List (Nat × Operand) → Option (List (Nat × AV))
  | [] => some []
  | (i, x) :: ps => match aEval E T x, aParts E T ps with
    | some a, some as => some ((i, a) :: as)
    | _, _ => none
theorem aParts_sound (hρ : EvRel E ι T ρ) : ∀ {ps : List (Nat × Operand)} {as : List (Nat × AV)}, aParts E T ps = some as → PartsRel ι as (ps.map fun (i, x) => (i, ρ x))
  | [], as, h => by simp only [aParts, Option.some.injEq] at h; subst h; exact .nil
  | (i, x) :: ps, as, h => by
    simp only [aParts] at h
    split at h
    · rename_i a as' ha has; cases h; exact .cons (hρ x a ha) (aParts_sound hρ has)
    · cases h

noncomputable def aBin (E : Env) (op : BinOp) (t : TypeId) (lit : Bool) (a b : AV) : Option AV :=
  match a, b with
  | .int k x, .int k' y =>
    match op with
    | .shl => (aShift .shl k x y).map (.int k)
    | .shr => (aShift .shr k x y).map (.int k)
    | op => if k = k' then aInt2 op k x y else none
  | .str x, .str y => aStr2 op x y
  | a, b =>
    match op with
    | .eql => (aEq E t lit a b).map .bool
    | .neq => (aEq E t lit a b).map fun r => .bool (!r)
    | _ => none

def plainHead : Value → Bool
  | .int _ _ | .float _ _ | .complex _ _ _ | .string _ => false
  | _ => true
theorem binOp_eql_plain {t : TypeId} {u v : Value} (h : plainHead u = true) : binOp .eql t u v = (do pure (.bool (← Op.equal t u v))) := by
  cases u <;> simp only [plainHead, Bool.false_eq_true] at h <;> cases v <;> rfl
theorem binOp_neq_plain {t : TypeId} {u v : Value} (h : plainHead u = true) : binOp .neq t u v = (do pure (.bool (!(← Op.equal t u v)))) := by
  cases u <;> simp only [plainHead, Bool.false_eq_true] at h <;> cases v <;> rfl
theorem aEq_head {t : TypeId} {lit : Bool} {a b : AV} {u : Value} (hx : VRel ι a u) {r : Bool} (h : aEq E t lit a b = some r) : plainHead u = true := by
  cases a with
  | int k n => unfold aEq at h; split at h <;> first | cases h | (split at h <;> first | cases h | (rename_i e _; cases e) | skip)
               all_goals simp_all
  | str s => unfold aEq at h; split at h <;> first | cases h | (split at h <;> first | cases h | (rename_i e _; cases e) | skip)
             all_goals simp_all
  | bool => simp only [VRel] at hx; subst hx; rfl
  | ptr p => cases p <;> simp only [VRel] at hx <;> first | (subst hx; rfl) | (obtain ⟨_, _, rfl⟩ := hx; rfl)
  | slice p => cases p <;> simp only [VRel] at hx <;> first | (obtain ⟨_, _, _, rfl⟩ := hx; rfl) | (obtain ⟨_, _, rfl, _⟩ := hx; rfl)
  | map p => cases p <;> simp only [VRel] at hx <;> first | (subst hx; rfl) | (obtain ⟨_, _, rfl⟩ := hx; rfl)
  | func => simp only [VRel] at hx; obtain ⟨_, _, _, _, _, _, rfl⟩ := hx; rfl
  | nilFunc => simp only [VRel] at hx; subst hx; rfl
  | iface => simp only [VRel] at hx; obtain ⟨_, _, rfl⟩ := hx; rfl
  | nilIface => simp only [VRel] at hx; subst hx; rfl
  | agg => simp only [VRel] at hx; obtain ⟨_, _, _, rfl⟩ := hx; rfl
  | tuple => simp only [VRel] at hx; obtain ⟨_, _, rfl⟩ := hx; rfl

include hE in
theorem aBin_sound {op : BinOp} {t : TypeId} {x y : Operand} {a b : AV} {u v : Value} (hx : VRel ι a u) (hy : VRel ι b v) {r : AV} (h : aBin E op t (x.isLit || y.isLit) a b = some r) :
    ∃ z, (do eqGuard op t x y u v; binOp op t u v : Sem Value).run P w = .ok z w ∧ VRel ι r z := by
  unfold aBin at h
  split at h
  · rename_i k n k' m
    simp only [VRel] at hx hy; subst hx; subst hy
    simp only [Sem.run_bind, eqGuard_at_int, Sem.run_pure, Result.andThen_ok]
    split at h
    · obtain ⟨z, hz, rfl⟩ := Option.map_eq_some_iff.1 h
      exact ⟨_, by rw [binOp_shl, aShift_sound hz]; rfl, rfl⟩
    · obtain ⟨z, hz, rfl⟩ := Option.map_eq_some_iff.1 h
      exact ⟨_, by rw [binOp_shr, aShift_sound hz]; rfl, rfl⟩
    · split at h
      · rename_i e; subst e
        exact aInt2_sound h
      · cases h
  · rename_i s t'
    simp only [VRel] at hx hy; subst hx; subst hy
    simp only [Sem.run_bind, eqGuard_at_string, Sem.run_pure, Result.andThen_ok]
    exact aStr2_sound h
  · rename_i hn1 hn2
    have key : ∀ b', aEq E t (x.isLit || y.isLit) a b = some b' → (Op.equal t u v).run P w = .ok b' w ∧ (∀ op, (eqGuard op t x y u v).run P w = .ok () w) ∧
        (binOp .eql t u v = do pure (.bool (← Op.equal t u v))) ∧ (binOp .neq t u v = do pure (.bool (!(← Op.equal t u v)))) := by
      intro b' hb'
      obtain ⟨g1, g2⟩ := aEq_sound hE (w := w) hx hy hb'
      have hp := aEq_head hx hb'
      exact ⟨g1, g2, binOp_eql_plain hp, binOp_neq_plain hp⟩
    split at h
    · obtain ⟨b', hb', rfl⟩ := Option.map_eq_some_iff.1 h
      obtain ⟨g1, g2, g3, _⟩ := key b' hb'
      exact ⟨.bool b', by simp only [Sem.run_bind, g2, Result.andThen_ok, g3, g1, Sem.run_pure], rfl⟩
    · obtain ⟨b', hb', rfl⟩ := Option.map_eq_some_iff.1 h
      obtain ⟨g1, g2, _, g4⟩ := key b' hb'
      exact ⟨.bool !b', by simp only [Sem.run_bind, g2, Result.andThen_ok, g4, g1, Sem.run_pure], rfl⟩
    · cases h

def aUn (op : UnOp) (a : AV) : Option AV :=
  match op, a with
  | .neg, .int k n => some (.int k (fwrap k (0 - n)))
  | .not, .bool b => some (.bool !b)
  | _, _ => none
theorem aUn_sound {op : UnOp} {a : AV} {v : Value} (hx : VRel ι a v) {r : AV} (h : aUn op a = some r) : ∃ z, (Op.unary op v).run P w = .ok z w ∧ VRel ι r z := by
  unfold aUn at h
  split at h
  · rename_i k n
    cases h; simp only [VRel] at hx; subst hx
    exact ⟨.int k (k.wrap (0 - n)), by simp only [Op.unary, Op.intArith, Sem.run_pure], by rw [fwrap_eq]; rfl⟩
  · cases h; simp only [VRel] at hx; subst hx; exact ⟨_, by simp only [Op.unary, Sem.run_pure], rfl⟩
  · cases h

def aNil (a : AV) : Option AV :=
  match a with
  | .ptr (some p) => some (.ptr (some p))
  | .func (.func f) x y => some (.func (.func f) x y)
  | .map r => some (.map r)
  | _ => none

def aExtract (a : AV) (i : Nat) : Option AV :=
  match a with
  | .tuple vs => vs[i]?
  | _ => none

/-- The type assertions on a value of a type that is no interface. -/
def aAssert (E : Env) (a : AV) (t : TypeId) (ok : Bool) : Option AV :=
  match E.T t with
  | none => none
  | some i =>
    match i.desc with
    | .interface _ => none
    | _ =>
      match a with
      | .iface u x => if u = t then some (if ok then .tuple [x, .bool true] else x) else
          (if ok then (match i.zero with | some z => some (.tuple [z, .bool false]) | none => none) else none)
      | .nilIface => if ok then (match i.zero with | some z => some (.tuple [z, .bool false]) | none => none) else none
      | _ => none

include hE in
theorem aAssert_sound {a : AV} {v : Value} {xt t : TypeId} {ok : Bool} (hx : VRel ι a v) {r : AV} (h : aAssert E a t ok = some r) : ∃ z, (Instr.typeAssert v xt t ok).run P w = .ok z w ∧ VRel ι r z := by
  unfold aAssert at h
  split at h
  · cases h
  rename_i i ht
  have hu := hE.und (w := w) ht
  split at h
  · cases h
  rename_i hni
  have hfail : ∀ s d m, i.zero.isSome → ok = true → ∃ z zv, i.zero = some z ∧ VRel ι z zv ∧
      ((if ok then do pure (Value.tuple #[← zeroValue t, .bool false]) else runtimePanic (.typeAssertion s d t m) : Sem Value).run P w = .ok (.tuple #[zv, .bool false]) w) := by
    intro s d m hz hok
    obtain ⟨z, hz⟩ := Option.isSome_iff_exists.1 hz
    obtain ⟨zv, h1, h2⟩ := hE.zero (w := w) ht hz
    refine ⟨z, zv, hz, h2 ι, ?_⟩
    rw [if_pos hok]
    simp only [Sem.run_bind, h1, Result.andThen_ok, Sem.run_pure]
  split at h
  · rename_i u x
    obtain ⟨x', hx', rfl⟩ := hx
    split at h
    · rename_i e; subst e
      cases h
      refine ⟨if ok then .tuple #[x', .bool true] else x', ?_, ?_⟩
      · simp only [Instr.typeAssert, Sem.run_bind, hu, Result.andThen_ok]
        cases hd : i.desc <;> first | exact absurd hd (hni _) | simp
      · cases ok
        · exact hx'
        · exact ⟨[x', .bool true], ⟨_, _, rfl, hx', _, _, rfl, rfl, rfl⟩, rfl⟩
    · rename_i hne
      split at h
      · rename_i hok
        split at h
        · rename_i z hz
          cases h
          obtain ⟨z2, zv, hz2, hr, hrun⟩ := hfail (some xt) (some u) "" (by rw [hz]; rfl) hok
          rw [hz] at hz2; cases hz2
          refine ⟨.tuple #[zv, .bool false], ?_, ⟨[zv, .bool false], ⟨_, _, rfl, hr, _, _, rfl, rfl, rfl⟩, rfl⟩⟩
          simp only [Instr.typeAssert, Sem.run_bind, hu, Result.andThen_ok]
          cases hd : i.desc <;> first | exact absurd hd (hni _) | (simp only [if_neg hne]; exact hrun)
        · cases h
      · cases h
  · simp only [VRel] at hx; subst hx
    split at h
    · rename_i hok
      split at h
      · rename_i z hz
        cases h
        obtain ⟨z2, zv, hz2, hr, hrun⟩ := hfail (some xt) none "" (by rw [hz]; rfl) hok
        rw [hz] at hz2; cases hz2
        refine ⟨.tuple #[zv, .bool false], ?_, ⟨[zv, .bool false], ⟨_, _, rfl, hr, _, _, rfl, rfl, rfl⟩, rfl⟩⟩
        simp only [Instr.typeAssert, Sem.run_bind, hu, Result.andThen_ok]
        cases hd : i.desc <;> first | exact absurd hd (hni _) | exact hrun
      · cases h
    · cases h
  · cases h

def fnPlain : Fn → Bool
  | .yield _ => false
  | _ => true

/-- The operations that yield a value and leave memory alone. -/
noncomputable def aVal (E : Env) (T : Tr AV) (H : AHeap) : Op → Option AV
  | .move x | .assign x => aEval E T x
  | .pick c a b => match aEval E T c with
    | some (.bool true) => aEval E T a
    | some (.bool false) => aEval E T b
    | _ => none
  | .nilCheck x => match aEval E T x with | some a => aNil a | none => none
  | .binOp op t x y _ => match aEval E T x, aEval E T y with | some a, some b => aBin E op t (x.isLit || y.isLit) a b | _, _ => none
  | .unOp op _ x => match aEval E T x with | some a => aUn op a | none => none
  | .convert s d x => match aEval E T x with
    | some a => (match aConv E s d a with | some r => some r | none => aToString E H s d a)
    | none => none
  | .makeInterface t x => match aEval E T x, E.T t with
    | some a, some i => (match i.desc with | .interface _ => none | _ => some (.iface t a))
    | _, _ => none
  | .makeFunc fn first cap => match aEvals E T first.toList, aEvals E T cap.toList with
    | some f, some c => bif fnPlain fn then some (.func fn f c) else none
    | _, _ => none
  | .slice t x lo hi mx => match aEval E T x, aEvalO E T lo, aEvalO E T hi, aEvalO E T mx with
    | some a, some l, some h, some m => aSlice E t a l h m
    | _, _, _, _ => none
  | .fieldAddr t x f => match aEval E T x with | some a => aFieldAddr E t a f | none => none
  | .field t x f => match aEval E T x with | some a => aField E t a f | none => none
  | .indexAddr t x i => match aEval E T x, aEval E T i with | some a, some b => aIndexAddr E t a b | _, _ => none
  | .index t x i => match aEval E T x, aEval E T i with | some a, some b => aIndex E t a b | _, _ => none
  | .lookup t x i ok => match aEval E T x, aEval E T i with | some a, some b => aLookup E H t a b ok | _, _ => none
  | .extract x i => match aEval E T x with | some a => aExtract a i | none => none
  | .build t ps => match aParts E T ps.toList with | some as => aBuild E t as | none => none
  | .load t x => match aEval E T x with | some (.ptr (some p)) => aLoad E H t p | _ => none
  | .typeAssert x _ t ok => match aEval E T x with | some a => aAssert E a t ok | none => none
  | .entry x => match aEval E T x with | some a => aEntry H a | none => none
  | .call c => match c.callee with
    | .builtin .len => match aEvals E T c.args.toList, c.argTypes.toList with | some [a], [t] => aLen E H t a | _, _ => none
    | .builtin .cap => match aEvals E T c.args.toList, c.argTypes.toList with | some [a], [t] => aCap E t a | _, _ => none
    | .builtin .max => match aEvals E T c.args.toList with | some as => aMax as | none => none
    | .builtin .min => match aEvals E T c.args.toList with | some as => aMin as | none => none
    | _ => none
  | _ => none

include hE in
theorem aVal_sound (hr : HRel ι H w) (hρ : EvRel E ι T ρ) {o : Oper} {y : AV} (h : aVal E T H o.op = some y) :
    ∃ v, (execOp ρ o).run P w = .ok (.value v) w ∧ VRel ι y v := by
  have fin : ∀ {s : Sem Value} {v : Value}, s.run P w = .ok v w → (do pure (Next.value (← s)) : Sem Next).run P w = .ok (.value v) w := by
    intro s v hs; simp only [Sem.run_bind, hs, Result.andThen_ok, Sem.run_pure]
  unfold execOp
  cases hop : o.op <;> rw [hop] at h <;> simp only [aVal] at h ⊢ <;> try (cases h; done)
  case move x => exact ⟨_, rfl, hρ x y h⟩
  case assign x => exact ⟨_, rfl, hρ x y h⟩
  case pick c a b =>
    split at h
    · rename_i hc
      have := hρ c _ hc; simp only [VRel] at this
      exact ⟨_, by simp only [this, Sem.run_bind, asBool, Sem.run_pure, Result.andThen_ok, if_true], hρ a y h⟩
    · rename_i hc
      have := hρ c _ hc; simp only [VRel] at this
      exact ⟨_, by simp only [this, Sem.run_bind, asBool, Sem.run_pure, Result.andThen_ok, Bool.false_eq_true, if_false], hρ b y h⟩
    · cases h
  case nilCheck x =>
    split at h
    · rename_i a ha
      have hx := hρ x a ha
      unfold aNil at h
      split at h
      · cases h; obtain ⟨q, hq, hv⟩ := hx; exact ⟨_, by rw [hv]; rfl, q, hq, rfl⟩
      · cases h
        obtain ⟨fn', f', c', h1, h2, h3, hv⟩ := hx
        simp only [FnRel] at h1; subst h1
        exact ⟨_, by rw [hv]; rfl, _, f', c', rfl, h2, h3, rfl⟩
      · rename_i r
        cases h
        cases r with
        | none => simp only [VRel] at hx; exact ⟨_, by rw [hx]; rfl, rfl⟩
        | some r => obtain ⟨r', hr', hv⟩ := hx; exact ⟨_, by rw [hv]; rfl, r', hr', rfl⟩
      · cases h
    · cases h
  case binOp op t x y' _ =>
    split at h
    · rename_i a b ha hb
      obtain ⟨z, hz, hr'⟩ := aBin_sound hE (w := w) (hρ x a ha) (hρ y' b hb) h
      exact ⟨z, fin hz, hr'⟩
    · cases h
  case unOp op _ x =>
    split at h
    · rename_i a ha; obtain ⟨z, hz, hr'⟩ := aUn_sound (P := P) (w := w) (hρ x a ha) h; exact ⟨z, fin hz, hr'⟩
    · cases h
  case convert s d x =>
    split at h
    · rename_i a ha
      split at h
      · rename_i r hc; cases h; obtain ⟨z, hz, hr'⟩ := aConv_sound hE (w := w) (hρ x a ha) hc; exact ⟨z, fin hz, hr'⟩
      · obtain ⟨z, hz, hr'⟩ := aToString_sound hE hr (hρ x a ha) h; exact ⟨z, fin hz, hr'⟩
    · cases h
  case makeInterface t x =>
    split at h
    · rename_i a i ha ht
      have hu := hE.und (w := w) ht
      split at h
      · cases h
      · rename_i hni
        cases h
        refine ⟨.iface t (ρ x), fin ?_, ρ x, hρ x a ha, rfl⟩
        simp only [Instr.makeInterface, Sem.run_bind, hu, Result.andThen_ok]
        cases hd : i.desc <;> first | exact absurd hd (hni _) | rfl
    · cases h
  case makeFunc fn first cap =>
    split at h
    · rename_i f c hf hc
      cases hp : fnPlain fn
      · rw [hp] at h; cases h
      · rw [hp] at h; cases h
        refine ⟨.func fn (first.map ρ) (cap.map ρ), rfl, fn, (first.map ρ).toList, (cap.map ρ).toList, ?_, ?_, ?_, rfl⟩
        · cases fn <;> simp only [fnPlain] at hp <;> first | rfl | cases hp
        · rw [Array.toList_map]; exact hρ.all hf
        · rw [Array.toList_map]; exact hρ.all hc
    · cases h
  case slice t x lo hi mx =>
    split at h
    · rename_i a l q m ha hl hh hm
      obtain ⟨z, hz, hr'⟩ := aSlice_sound hE (w := w) (hρ x a ha) (aEvalO_sound hρ hl) (aEvalO_sound hρ hh) (aEvalO_sound hρ hm) h
      exact ⟨z, fin hz, hr'⟩
    · cases h
  case fieldAddr t x f =>
    split at h
    · rename_i a ha; obtain ⟨z, hz, hr'⟩ := aFieldAddr_sound hE (w := w) (hρ x a ha) h; exact ⟨z, fin hz, hr'⟩
    · cases h
  case field t x f =>
    split at h
    · rename_i a ha; obtain ⟨z, hz, hr'⟩ := aField_sound hE (w := w) (hρ x a ha) h; exact ⟨z, fin hz, hr'⟩
    · cases h
  case indexAddr t x i =>
    split at h
    · rename_i a b ha hb; obtain ⟨z, hz, hr'⟩ := aIndexAddr_sound hE (w := w) (hρ x a ha) (hρ i b hb) h; exact ⟨z, fin hz, hr'⟩
    · cases h
  case index t x i =>
    split at h
    · rename_i a b ha hb; obtain ⟨z, hz, hr'⟩ := aIndex_sound hE (w := w) (hρ x a ha) (hρ i b hb) h; exact ⟨z, fin hz, hr'⟩
    · cases h
  case lookup t x i ok =>
    split at h
    · rename_i a b ha hb; obtain ⟨z, hz, hr'⟩ := aLookup_sound hE hr (hρ x a ha) (hρ i b hb) h; exact ⟨z, fin hz, hr'⟩
    · cases h
  case extract x i =>
    split at h
    · rename_i a ha
      unfold aExtract at h
      split at h
      · rename_i vs
        obtain ⟨cs, hcs, hv⟩ := hρ x _ ha
        obtain ⟨u, hu, hr'⟩ := hcs.get h
        refine ⟨u, fin ?_, hr'⟩
        rw [hv]
        have : (⟨cs⟩ : Array Value)[i]? = some u := by simpa using hu
        simp only [Instr.extract, this, Sem.run_pure]
      · cases h
    · cases h
  case build t ps =>
    split at h
    · rename_i as has
      obtain ⟨z, hz, hr'⟩ := aBuild_sound hE (w := w) (aParts_sound hρ has) h
      refine ⟨z, fin ?_, hr'⟩
      rw [← hz]
      congr 2
      apply Array.ext'; simp
    · cases h
  case load t x =>
    split at h
    · rename_i p ha
      obtain ⟨a, hadr, hv⟩ := hρ x _ ha
      obtain ⟨z, hz, hr'⟩ := aLoad_sound hE hr hadr h
      refine ⟨z, fin ?_, hr'⟩
      rw [hv]
      simp only [Instr.loadAt, Instr.sureAddr, Sem.run_bind, Sem.run_pure, Result.andThen_ok]; exact hz
    · cases h
  case typeAssert x xt t ok =>
    split at h
    · rename_i a ha; obtain ⟨z, hz, hr'⟩ := aAssert_sound hE (w := w) (xt := xt) (hρ x a ha) h; exact ⟨z, fin hz, hr'⟩
    · cases h
  case entry x =>
    split at h
    · rename_i a ha; obtain ⟨u, hu, hr'⟩ := aEntry_sound hr (hρ x a ha) h; exact ⟨u, fin hu, hr'⟩
    · cases h
  case call c =>
    obtain ⟨callee, args, argTypes⟩ := c
    obtain ⟨args⟩ := args
    obtain ⟨argTypes⟩ := argTypes
    simp only at h
    have hargs : ∀ {as : List AV}, aEvals E T args = some as → VRels ι as (args.map ρ) := fun h => hρ.all h
    split at h
    · split at h
      · rename_i a t ha
        obtain ⟨v, vs, hvs, h1, h2⟩ := hargs ha
        simp only [VRels] at h2; subst h2
        obtain ⟨z, hz, hr'⟩ := aLen_sound hE hr (ty := o.type) h1 h
        refine ⟨z, ?_, hr'⟩
        simp only [resolve, Sem.run_bind, Sem.run_pure, Result.andThen_ok, invoke, builtin, List.map_toArray, hvs]
        rw [hz]; rfl
      · cases h
    · split at h
      · rename_i a t ha
        obtain ⟨v, vs, hvs, h1, h2⟩ := hargs ha
        simp only [VRels] at h2; subst h2
        obtain ⟨z, hz, hr'⟩ := aCap_sound hE (w := w) (ty := o.type) h1 h
        refine ⟨z, ?_, hr'⟩
        simp only [resolve, Sem.run_bind, Sem.run_pure, Result.andThen_ok, invoke, builtin, List.map_toArray, hvs]
        rw [hz]; rfl
      · cases h
    · split at h
      · rename_i as ha
        obtain ⟨z, hz, hr'⟩ := aMax_sound (P := P) (w := w) (ts := ⟨argTypes⟩) (ty := o.type) (hargs ha) h
        refine ⟨z, ?_, hr'⟩
        simp only [resolve, Sem.run_bind, Sem.run_pure, Result.andThen_ok, invoke, builtin, List.map_toArray]
        rw [hz]; rfl
      · cases h
    · split at h
      · rename_i as ha
        obtain ⟨z, hz, hr'⟩ := aMin_sound (P := P) (w := w) (ts := ⟨argTypes⟩) (ty := o.type) (hargs ha) h
        refine ⟨z, ?_, hr'⟩
        simp only [resolve, Sem.run_bind, Sem.run_pure, Result.andThen_ok, invoke, builtin, List.map_toArray]
        rw [hz]; rfl
      · cases h
    · cases h
end
end Go.Am
/-! AmP -/
namespace Go.Am

section
variable {E : Env} {P : Program} (hE : E.OK P) {ι : Ren} {H : AHeap} {w : World} {T : Tr AV} {ρ : Operand → Value}

def undefA : AV := .tuple []

/-- What an operation on memory leaves: a value (or nothing), a heap. -/
noncomputable def aEff (E : Env) (T : Tr AV) (H : AHeap) : Op → Option (AV × AHeap)
  | .alloc t => aAlloc E H t
  | .box _ x => match aEval E T x with | some a => aBox H a | none => none
  | .buildSlice t n ps => match aParts E T ps.toList with | some as => aBuildSlice E H t n as | none => none
  | .makeMap _ r => match aEvalO E T r with | some a => aMakeMap E H a | none => none
  | .makeSlice t l c => match aEval E T l, aEval E T c with | some a, some b => aMakeSlice E H t a b | _, _ => none
  | .convert s d x => match aEval E T x with | some a => aToBytes E H s d a | none => none
  | .store t a x => match aEval E T a, aEval E T x with
    | some (.ptr (some p)), some v => (match aStore E H t p v with | some H' => some (undefA, H') | none => none)
    | _, _ => none
  | .mapUpdate t m k x | .insert t m k x => match aEval E T m, aEval E T k, aEval E T x with
    | some a, some b, some c => (match aMapUpdate E H t a b c with | some H' => some (undefA, H') | none => none)
    | _, _, _ => none
  | .range t x => match aEval E T x with | some a => aRange E H t a | none => none
  | .mapEntry t m k => match aEval E T m, aEval E T k with | some a, some b => aMapEntry E H t a b | _, _ => none
  | .entryStore _ m s x => match aEval E T m, aEval E T s, aEval E T x with
    | some a, some b, some c => (match aEntryStore H a b c with | some H' => some (undefA, H') | none => none)
    | _, _, _ => none
  | .call c => match c.callee with
    | .builtin .append => match aEvals E T c.args.toList, c.argTypes.toList with | some [a, b], [s, t] => aAppend E H s t a b | _, _ => none
    | .builtin .copy => match aEvals E T c.args.toList, c.argTypes.toList with | some [a, b], [s, t] => aCopy E H s t a b | _, _ => none
    | .builtin .delete => match aEvals E T c.args.toList, c.argTypes.toList with | some [a, b], [s, _] => aDelete E H s a b | _, _ => none
    | _ => none
  | _ => none

/-- The model's operation does the like. -/
def Does (P : Program) (ι : Ren) (H : AHeap) (w : World) (s : Sem Next) (y : AV) (H' : AHeap) : Prop :=
  ∃ κ w', (∃ v, s.run P w = .ok (.value v) w' ∧ VRel κ y v) ∧ HRel κ H' w' ∧ Ext ι H w κ H' w' ∨ ∃ κ w', (s.run P w = .ok .skip w' ∧ y = undefA) ∧ HRel κ H' w' ∧ Ext ι H w κ H' w'

theorem Makes.does {s : Sem Value} {y : AV} {H' : AHeap} (h : Makes P ι H w s y H') : ∃ κ w', (∃ v, (do pure (Next.value (← s)) : Sem Next).run P w = .ok (.value v) w' ∧ VRel κ y v) ∧ HRel κ H' w' ∧ Ext ι H w κ H' w' := by
  obtain ⟨κ, v, w', h1, h2, h3, h4⟩ := h
  exact ⟨κ, w', ⟨v, by simp only [Sem.run_bind, h1, Result.andThen_ok, Sem.run_pure], h2⟩, h3, h4⟩

/-- As one: either a value or nothing comes of it. -/
def Yields2 (P : Program) (ι : Ren) (H : AHeap) (w : World) (s : Sem Next) (y : AV) (H' : AHeap) : Prop :=
  ∃ κ nx w', s.run P w = .ok nx w' ∧ ((∃ v, nx = .value v ∧ VRel κ y v) ∨ (nx = .skip ∧ y = undefA)) ∧ HRel κ H' w' ∧ Ext ι H w κ H' w'

theorem Makes.two {s : Sem Value} {y : AV} {H' : AHeap} (h : Makes P ι H w s y H') : Yields2 P ι H w (do pure (Next.value (← s))) y H' := by
  obtain ⟨κ, v, w', h1, h2, h3, h4⟩ := h
  exact ⟨κ, .value v, w', by simp only [Sem.run_bind, h1, Result.andThen_ok, Sem.run_pure], .inl ⟨v, rfl, h2⟩, h3, h4⟩

include hE in
theorem aEff_sound (hr : HRel ι H w) (hρ : EvRel E ι T ρ) {o : Oper} {y : AV} {H' : AHeap} (h : aEff E T H o.op = some (y, H')) : Yields2 P ι H w (execOp ρ o) y H' := by
  have skip : ∀ {s : Sem Unit} {H' : AHeap}, (∃ w', s.run P w = .ok () w' ∧ HRel ι H' w' ∧ Ext ι H w ι H' w') → Yields2 P ι H w (do s; pure Next.skip) undefA H' := by
    intro s H' ⟨w', h1, h2, h3⟩
    exact ⟨ι, .skip, w', by simp only [Sem.run_bind, h1, Result.andThen_ok, Sem.run_pure], .inr ⟨rfl, rfl⟩, h2, h3⟩
  unfold execOp
  cases hop : o.op <;> rw [hop] at h <;> simp only [aEff] at h ⊢ <;> try (cases h; done)
  case alloc t => exact (aAlloc_sound hE hr h).two
  case box t x =>
    split at h
    · rename_i a ha; exact (aBox_sound hr (hρ x a ha) h).two
    · cases h
  case buildSlice t n ps =>
    split at h
    · rename_i as has
      have := (aBuildSlice_sound hE hr (aParts_sound hρ has) h).two
      have e : (ps.toList.map fun (i, x) => (i, ρ x)).toArray = ps.map fun (i, x) => (i, ρ x) := by apply Array.ext'; simp
      rw [e] at this; exact this
    · cases h
  case makeMap t r =>
    split at h
    · rename_i a ha; exact (aMakeMap_sound hr (aEvalO_sound hρ ha) h).two
    · cases h
  case mapEntry t m k =>
    split at h
    · rename_i a b ha hb; exact (aMapEntry_sound hE hr (hρ m a ha) (hρ k b hb) h).two
    · cases h
  case entryStore t m s x =>
    split at h
    · rename_i a b c ha hb hc
      split at h
      · rename_i H2 hs; cases h; exact skip (aEntryStore_sound hr (hρ m a ha) (hρ s b hb) (hρ x c hc) hs)
      · cases h
    · cases h
  case range t x =>
    split at h
    · rename_i a ha; exact (aRange_sound hE hr (hρ x a ha) h).two
    · cases h
  case makeSlice t l c =>
    split at h
    · rename_i a b ha hb; exact (aMakeSlice_sound hE hr (hρ l a ha) (hρ c b hb) h).two
    · cases h
  case convert s d x =>
    split at h
    · rename_i a ha; exact (aToBytes_sound hE hr (hρ x a ha) h).two
    · cases h
  case store t a x =>
    split at h
    · rename_i p v hp hv
      split at h
      · rename_i H2 hs
        cases h
        obtain ⟨ad, hadr, hav⟩ := hρ a _ hp
        obtain ⟨w', h1, h2, h3⟩ := aStore_sound hE hr hadr (hρ x v hv) hs
        refine skip ⟨w', ?_, h2, h3⟩
        rw [hav]
        simp only [Instr.storeAt, Instr.sureAddr, Sem.run_bind, Sem.run_pure, Result.andThen_ok]; exact h1
      · cases h
    · cases h
  case mapUpdate t m k x =>
    split at h
    · rename_i a b c ha hb hc
      split at h
      · rename_i H2 hs; cases h; exact skip (aMapUpdate_sound hE hr (hρ m a ha) (hρ k b hb) (hρ x c hc) hs)
      · cases h
    · cases h
  case insert t m k x =>
    split at h
    · rename_i a b c ha hb hc
      split at h
      · rename_i H2 hs; cases h; exact skip (aMapUpdate_sound hE hr (hρ m a ha) (hρ k b hb) (hρ x c hc) hs)
      · cases h
    · cases h
  case call c =>
    obtain ⟨callee, args, argTypes⟩ := c
    obtain ⟨args⟩ := args
    obtain ⟨argTypes⟩ := argTypes
    simp only at h
    have hargs : ∀ {a b : AV}, aEvals E T args = some [a, b] → ∃ u v, args.map ρ = [u, v] ∧ VRel ι a u ∧ VRel ι b v := by
      intro a b h
      obtain ⟨u, vs, h1, h2, v, vs2, rfl, h3, h4⟩ := hρ.all h
      simp only [VRels] at h4; subst h4
      exact ⟨u, v, h1, h2, h3⟩
    split at h
    · split at h
      · rename_i a b s t ha
        obtain ⟨u, v, hl, h1, h2⟩ := hargs ha
        have := (aAppend_sound hE hr (ty := o.type) h1 h2 h).two
        simp only [resolve, List.map_toArray, hl]
        exact this
      · cases h
    · split at h
      · rename_i a b s t ha
        obtain ⟨u, v, hl, h1, h2⟩ := hargs ha
        have := (aCopy_sound hE hr (ty := o.type) h1 h2 h).two
        simp only [resolve, List.map_toArray, hl]
        exact this
      · cases h
    · split at h
      · rename_i a b s t ha
        obtain ⟨u, v, hl, h1, h2⟩ := hargs ha
        have := (aDelete_sound hE hr (kt2 := t) (ty := o.type) h1 h2 h).two
        simp only [resolve, List.map_toArray, hl]
        exact this
      · cases h
    · cases h
end
end Go.Am
/-! AmP2 -/
namespace Go.Am

section
variable {E : Env} {P : Program} (hE : E.OK P) {ι : Ren} {w : World} {T : Tr AV} {ρ : Operand → Value}

/-- The model's operation makes one block, which holds the like of 'o', and yields the like of 'y', once the block is known as 'b'. -/
def News (P : Program) (ι : Ren) (w : World) (s : Sem Value) (b : Nat) (y : AV) (o : AObj) : Prop :=
  ∃ v o' n, s.run P w = .ok v { w with heap := w.heap.push o' } ∧ VRel (ι.add b w.heap.size (0, n)) y v ∧ ORel (ι.add b w.heap.size (0, n)) (0, n) o o'

noncomputable def aNewSlice (E : Env) (t : TypeId) (len : Nat) (ps : List (Nat × AV)) : Option (List AV) :=
  match E.T t with
  | none => none
  | some i =>
    match i.desc with
    | .slice e =>
      match E.T e with
      | none => none
      | some ie =>
        match ie.zero with
        | none => none
        | some z =>
          bif z.nt && (Nat.beq z.cells.length ie.size && (Nat.ble 1 ie.size && Nat.ble (len * ie.size) 1048576)) then
            aFill (fun i => some (i * ie.size, ie.size)) (aRep z.cells len) ps
          else none
    | _ => none

noncomputable def aNewMake (E : Env) (t : TypeId) (b : Nat) (l c : AV) : Option (AV × AObj) :=
  match E.T t with
  | none => none
  | some i =>
    match i.desc, l, c with
    | .slice e, .int _ (.ofNat n), .int _ (.ofNat m) =>
      match E.T e with
      | none => none
      | some ie =>
        match ie.zero with
        | none => none
        | some z =>
          bif z.nt && (Nat.beq z.cells.length ie.size && (Nat.ble n m && (Nat.ble 1 ie.size && Nat.ble (m * ie.bytes) 1099511627776 && Nat.ble m 1099511627776))) then
            some (.slice (some (b, 0)) n m 0, .cells (aRep z.cells m))
          else none
    | _, _, _ => none

/-- What an operation makes anew as block 'b'. -/
noncomputable def aNew (E : Env) (T : Tr AV) (b : Nat) : Op → Option (AV × AObj)
  | .alloc t => match E.T t with
    | some i => match i.zero with
      | some z => bif z.nt then some (.ptr (some (b, 0)), .cells z.cells) else none
      | none => none
    | none => none
  | .box _ x => match aEval E T x with
    | some a => bif a.nt then some (.ptr (some (b, 0)), .cells a.cells) else none
    | none => none
  | .buildSlice t n ps => match aParts E T ps.toList with
    | some as => match aNewSlice E t n as with
      | some cs => some (.slice (some (b, 0)) n n 0, .cells cs)
      | none => none
    | none => none
  | .makeMap _ none => some (.map (some b), .map [] 0)
  | .makeSlice t l c => match aEval E T l, aEval E T c with
    | some a, some d => aNewMake E t b a d
    | _, _ => none
  | _ => none

theorem cells_orel {cs : List AV} {cs' : List Value} {b : Nat} (hb : ι b = none) (hc : VRels ι cs cs') (h1 : ∀ c ∈ cs, c.one = true) (t : TypeId) {n : Nat} (hn : n = cs'.length) :
    ORel (ι.add b w.heap.size (0, n)) (0, n) (.cells cs) (.cells ⟨cs'⟩ t) := by
  have hle : ι.le (ι.add b w.heap.size (0, n)) := Ren.le_add hb
  refine ⟨_, t, (0, 0), rfl, ?_, by simp [hn], fun i _ _ => by simp⟩
  intro i a hi
  obtain ⟨v, hv, hx⟩ := hc.get hi
  exact ⟨h1 a (List.mem_of_getElem? hi), v, by simpa using hv, hx.mono hle⟩

theorem new_ptr {b : Nat} {n : Nat} : VRel (ι.add b w.heap.size (0, n)) (.ptr (some (b, 0))) (.pointer (some ⟨w.heap.size, 0, none⟩)) :=
  ⟨⟨w.heap.size, 0, none⟩, ⟨w.heap.size, (0, n), Ren.add_same _ _ _ _, rfl⟩, rfl⟩

include hE in
theorem aNewSlice_sound {b : Nat} (hb : ι b = none) {t : TypeId} {len : Nat} {ps : List (Nat × AV)} {qs : List (Nat × Value)} (hp : PartsRel ι ps qs) {cs : List AV} (h : aNewSlice E t len ps = some cs) :
    News P ι w (Instr.buildSlice t len qs.toArray) b (.slice (some (b, 0)) len len 0) (.cells cs) := by
  unfold aNewSlice at h
  split at h
  · cases h
  rename_i i ht
  have hu := hE.und (w := w) ht
  split at h
  · rename_i e hd
    rw [hd] at hu
    split at h
    · cases h
    rename_i ie hie
    split at h
    · cases h
    rename_i z hz
    cases hq : (z.nt && (Nat.beq z.cells.length ie.size && (Nat.ble 1 ie.size && Nat.ble (len * ie.size) 1048576)))
    · rw [hq] at h; cases h
    · rw [hq] at h
      simp only [cond_true] at h
      simp only [Bool.and_eq_true, Nat.beq_eq, Nat.ble_eq] at hq
      obtain ⟨hnt, hzl, h1, hlen⟩ := hq
      obtain ⟨zv, hzv, hzr⟩ := hE.zero (w := w) hie hz
      obtain ⟨hzc, hz1⟩ := (hzr ι).cells hnt
      obtain ⟨out', ho, hout, ho1⟩ := aFill_sound (ι := ι) hp (aRep_rel hzc len) (aRep_one hz1 len) h
      refine ⟨.slice (some ⟨w.heap.size, 0, none⟩) len len, .cells out' e, out'.toList.length, ?_, ⟨⟨w.heap.size, 0, none⟩, len, rfl, Nat.le_refl _, Nat.le_refl _, fun _ => rfl, fun h => absurd rfl h, .inl ⟨w.heap.size, (0, _), Ren.add_same _ _ _ _, by simp⟩⟩, cells_orel hb hout ho1 e rfl⟩
      simp only [Instr.buildSlice, Sem.run_bind, hu, Result.andThen_ok, hE.sizeOf hie]
      rw [if_neg (by omega)]
      by_cases h0 : len * ie.size = 0
      · have hl0 : len = 0 := by rcases Nat.mul_eq_zero.1 h0 with h | h <;> omega
        subst hl0
        rw [hzl] at ho
        simp only [Nat.zero_mul, if_true, Sem.run_bind, Sem.run_pure, Result.andThen_ok] at ho ⊢
        have e0 : ∀ z : Array Value, (Array.range 0).map (z[· % z.size]!) = #[] := fun z => by simp
        rw [e0] at ho
        rw [e0]
        simp only [ho, newRow, Sem.run_bind, run_newObj, Result.andThen_ok, Sem.run_pure]
      · rw [if_neg h0]
        rw [hzl] at ho
        simp only [Sem.run_bind, hzv, Result.andThen_ok, Sem.run_pure, ho, newRow, run_newObj]
  · cases h

include hE in
theorem aNewMake_sound {b : Nat} (hb : ι b = none) {t : TypeId} {l c : AV} {l' c' : Value} (hl : VRel ι l l') (hc : VRel ι c c') {y : AV} {o : AObj} (h : aNewMake E t b l c = some (y, o)) :
    News P ι w (Instr.makeSlice t l' c') b y o := by
  unfold aNewMake at h
  split at h
  · cases h
  rename_i i ht
  have hu := hE.und (w := w) ht
  split at h
  · rename_i e k n k2 m hd
    rw [hd] at hu
    split at h
    · cases h
    rename_i ie hie
    split at h
    · cases h
    rename_i z hz
    cases hq : (z.nt && (Nat.beq z.cells.length ie.size && (Nat.ble n m && (Nat.ble 1 ie.size && Nat.ble (m * ie.bytes) 1099511627776 && Nat.ble m 1099511627776))))
    · rw [hq] at h; cases h
    · rw [hq] at h
      cases h
      simp only [Bool.and_eq_true, Nat.beq_eq, Nat.ble_eq] at hq
      obtain ⟨hnt, hzl, hnm, ⟨h1, hbb⟩, hm⟩ := hq
      obtain ⟨info', hinfo', hund', hsz', hbz', hzz'⟩ := hE.T e ie hie
      obtain ⟨i0, hi0, hu0, _⟩ := hE.T t i ht
      rw [hd] at hu0
      obtain ⟨zv, hzv', hzr⟩ := hzz' z hz
      obtain ⟨hzc, hz1⟩ := (hzr ι).cells hnt
      simp only [VRel] at hl hc; subst hl; subst hc
      have hbi : (info'.bytes : Int) * (m : Int) ≤ 1099511627776 := by
        rw [hbz', Int.mul_comm]
        have h9 : ((m * ie.bytes : Nat) : Int) ≤ 1099511627776 := by omega
        rwa [Int.natCast_mul] at h9
      have hrun := run_make (P := P) w t e info' zv hu0 hinfo' hzv' k k2 n m (by omega) (by omega) (by omega) (by omega)
      simp only [Int.toNat_natCast] at hrun
      rw [hsz', ← hzl] at hrun
      refine ⟨_, _, _, hrun, ⟨⟨w.heap.size, 0, none⟩, m, rfl, hnm, Nat.le_refl _, fun _ => rfl, fun h => absurd rfl h, .inl ⟨w.heap.size, (0, _), Ren.add_same _ _ _ _, by simp⟩⟩, cells_orel hb (aRep_rel hzc m) (aRep_one hz1 m) e rfl⟩
  · cases h

include hE in
theorem aNew_sound {b : Nat} (hb : ι b = none) (hρ : EvRel E ι T ρ) {o : Oper} {y : AV} {ob : AObj} (h : aNew E T b o.op = some (y, ob)) :
    ∃ v o' n, (execOp ρ o).run P w = .ok (.value v) { w with heap := w.heap.push o' } ∧ VRel (ι.add b w.heap.size (0, n)) y v ∧ ORel (ι.add b w.heap.size (0, n)) (0, n) ob o' := by
  have fin : ∀ {s : Sem Value} {y : AV} {ob : AObj}, News P ι w s b y ob → ∃ v o' n, (do pure (Next.value (← s)) : Sem Next).run P w = .ok (.value v) { w with heap := w.heap.push o' } ∧ VRel (ι.add b w.heap.size (0, n)) y v ∧ ORel (ι.add b w.heap.size (0, n)) (0, n) ob o' := by
    rintro s y ob ⟨v, o', n, h1, h2, h3⟩
    exact ⟨v, o', n, by simp only [Sem.run_bind, h1, Result.andThen_ok, Sem.run_pure], h2, h3⟩
  have box : ∀ (t : TypeId) (a : AV) (v : Value), VRel ι a v → a.nt = true → News P ι w (Instr.box t v) b (.ptr (some (b, 0))) (.cells a.cells) := by
    intro t a v hv hn
    obtain ⟨hc, h1⟩ := hv.cells hn
    refine ⟨_, _, _, ?_, new_ptr, cells_orel hb hc h1 t rfl⟩
    simp only [Instr.box, newVar, newRow, Sem.run_bind, run_newObj, Result.andThen_ok, Sem.run_pure]
  unfold execOp
  cases hop : o.op <;> rw [hop] at h <;> simp only [aNew] at h ⊢ <;> try (cases h; done)
  case alloc t =>
    split at h
    · rename_i i ht
      split at h
      · rename_i z hz
        cases hn : z.nt
        · rw [hn] at h; cases h
        · rw [hn] at h; cases h
          obtain ⟨zv, hzv, hzr⟩ := hE.zero (w := w) ht hz
          refine fin ?_
          obtain ⟨v, o', n, h1, h2, h3⟩ := box t z zv (hzr ι) hn
          refine ⟨v, o', n, ?_, h2, h3⟩
          simp only [Instr.alloc, Sem.run_bind, hzv, Result.andThen_ok]
          exact h1
      · cases h
    · cases h
  case box t x =>
    split at h
    · rename_i a ha
      cases hn : a.nt
      · rw [hn] at h; cases h
      · rw [hn] at h; cases h
        exact fin (box t a _ (hρ x a ha) hn)
    · cases h
  case buildSlice t n ps =>
    split at h
    · rename_i as has
      split at h
      · rename_i cs hcs
        cases h
        have := aNewSlice_sound (w := w) hE hb (aParts_sound hρ has) hcs
        have e : (ps.toList.map fun (i, x) => (i, ρ x)).toArray = ps.map fun (i, x) => (i, ρ x) := by apply Array.ext'; simp
        rw [e] at this; exact fin this
      · cases h
    · cases h
  case makeSlice t l c =>
    split at h
    · rename_i a d ha hd; exact fin (aNewMake_sound (w := w) hE hb (hρ l a ha) (hρ c d hd) h)
    · cases h
  case makeMap t r =>
    cases r with
    | some r => cases h
    | none =>
      cases h
      refine fin ⟨.map (some w.heap.size), .map #[] 0, 0, ?_, ⟨w.heap.size, Ren.add_same _ _ _ _, rfl⟩, rfl, [], rfl, .nil⟩
      simp only [Option.map_none, Instr.makeMap, Sem.run_bind, Sem.run_pure, Result.andThen_ok, run_newObj]
end
end Go.Am
/-! AmQa -/
namespace Go.Am

/-! Are two values the same? -/
def fnBeq : Fn → Fn → Bool
  | .func a, .func b => Nat.beq a b
  | .yield a, .yield b => Nat.beq a b
  | _, _ => false

mutual
def AV.beq : AV → AV → Bool
  | .bool a, .bool b => a == b
  | .int k a, .int j b => decide (k = j) && ieq a b
  | .str a, .str b => a == b
  | .ptr none, .ptr none => true
  | .ptr (some (a, b)), .ptr (some (c, d)) => Nat.beq a c && Nat.beq b d
  | .slice none l c m, .slice none l' c' m' => Nat.beq l l' && (Nat.beq c c' && Nat.beq m m')
  | .slice (some (a, b)) l c m, .slice (some (a', b')) l' c' m' => (Nat.beq a a' && Nat.beq b b') && (Nat.beq l l' && (Nat.beq c c' && Nat.beq m m'))
  | .map none, .map none => true
  | .map (some a), .map (some b) => Nat.beq a b
  | .func f x y, .func g u v => fnBeq f g && (AV.beqs x u && AV.beqs y v)
  | .nilFunc, .nilFunc => true
  | .nilIface, .nilIface => true
  | .iface t a, .iface u b => Nat.beq t u && AV.beq a b
  | .agg xs, .agg ys => AV.beqs xs ys
  | .tuple xs, .tuple ys => AV.beqs xs ys
  | _, _ => false
def AV.beqs : List AV → List AV → Bool
  | [], [] => true
  | x :: xs, y :: ys => AV.beq x y && AV.beqs xs ys
  | _, _ => false
end

theorem fnBeq_eq : ∀ {f g : Fn}, fnBeq f g = true → f = g := by
  intro f g h
  cases f <;> cases g <;> simp only [fnBeq, Nat.beq_eq, Bool.false_eq_true] at h <;> first | exact h.elim | rw [h]

mutual
theorem AV.beq_eq : ∀ (x y : AV), AV.beq x y = true → x = y := by
  intro x y h
  unfold AV.beq at h
  split at h
  all_goals first | (cases h; done) | rfl | skip
  · rw [eq_of_beq h]
  · simp only [Bool.and_eq_true, decide_eq_true_eq] at h
    obtain ⟨rfl, h⟩ := h
    rw [ieq_eq] at h; rw [eq_of_beq h]
  · rw [eq_of_beq h]
  · simp only [Bool.and_eq_true, Nat.beq_eq] at h; obtain ⟨rfl, rfl⟩ := h; rfl
  · simp only [Bool.and_eq_true, Nat.beq_eq] at h; obtain ⟨rfl, rfl, rfl⟩ := h; rfl
  · simp only [Bool.and_eq_true, Nat.beq_eq] at h; obtain ⟨⟨rfl, rfl⟩, rfl, rfl, rfl⟩ := h; rfl
  · simp only [Nat.beq_eq] at h; rw [h]
  · simp only [Bool.and_eq_true] at h; obtain ⟨h1, h2, h3⟩ := h; rw [fnBeq_eq h1, AV.beqs_eq _ _ h2, AV.beqs_eq _ _ h3]
  · simp only [Bool.and_eq_true, Nat.beq_eq] at h; obtain ⟨rfl, h⟩ := h; rw [AV.beq_eq _ _ h]
  · rw [AV.beqs_eq _ _ h]
  · rw [AV.beqs_eq _ _ h]
theorem AV.beqs_eq : ∀ (xs ys : List AV), AV.beqs xs ys = true → xs = ys := by
  intro xs ys h
  cases xs with
  | nil => cases ys with
    | nil => rfl
    | cons y ys => simp [AV.beqs] at h
  | cons x xs => cases ys with
    | nil => simp [AV.beqs] at h
    | cons y ys =>
      simp only [AV.beqs, Bool.and_eq_true] at h
      rw [AV.beq_eq _ _ h.1, AV.beqs_eq _ _ h.2]
end

/-! The plan. -/
structure PStep where
  eff : Nat
  check : List Nat
  eager : List Nat
structure Plan where
  first : List Nat
  steps : List PStep

def preds (o : Oper) : List Nat := (o.after.toList.filter (Region.binds .any)).map (·.on)
def opTmps (o : Op) : List Tmp := o.operands.toList.filterMap fun | .tmp t => some t | _ => none
def guardTmps (ops : List Oper) (o : Oper) : List Tmp := match o.guard with
  | none => []
  | some (j, _) => ((ops[j]?).bind (·.dst)).toList
/-- What an operation reads of its frame. -/
def sees (ops : List Oper) (o : Oper) : List Tmp := guardTmps ops o ++ opTmps o.op

/-- Does it look at memory? -/
def reads : Op → Bool
  | .convert .. | .lookup .. | .load .. | .call _ | .entry _ => true
  | _ => false

/-- What comes before each operation, straight or by way of others: the bits of a number. -/
def ancsFrom (acc : List Nat) : List Oper → List Nat
  | [] => acc
  | o :: os => ancsFrom (acc ++ [(preds o).foldl (fun s j => s ||| 2 ^ j ||| acc.getD j 0) 0]) os
def ancs (ops : List Oper) : List Nat := ancsFrom [] ops

def isEff (o : Oper) : Bool :=
  match o.op with
  | .move _ | .pick .. | .alloc _ | .box .. | .build .. | .buildSlice .. | .load .. | .nilCheck _ | .binOp .. | .unOp .. | .convert .. | .makeInterface .. | .makeFunc .. | .makeMap .. | .makeSlice ..
  | .slice .. | .fieldAddr .. | .field .. | .indexAddr .. | .index .. | .lookup .. | .typeAssert .. | .extract .. => false
  | .call c => match c.callee with
    | .builtin .len | .builtin .cap | .builtin .max | .builtin .min => false
    | _ => true
  | _ => true

/-- The effects in their order; behind each, what can be done then and not before; what may be left over from before and looks at memory. -/
def mkSteps (ops : List Oper) (an : List Nat) (idx : List Nat) : List Nat → List PStep
  | [] => []
  | e :: es =>
    let later := es.foldl (fun s j => s ||| 2 ^ j) 0
    let upto := es.foldl (fun s j => s ||| 2 ^ j) (2 ^ e)
    ⟨e, idx.filter fun x => (match ops[x]? with | some o => !isEff o && reads o.op | none => false) && (((an.getD x 0) &&& upto) == 0 && !((an.getD e 0).testBit x)),
      idx.filter fun x => (match ops[x]? with | some o => !isEff o | none => false) && ((an.getD x 0).testBit e && ((an.getD x 0) &&& later) == 0)⟩ :: mkSteps ops an idx es

def mkPlan (ops : List Oper) : Plan :=
  let an := ancs ops
  let idx := List.range ops.length
  let effs := idx.filter fun x => match ops[x]? with | some o => isEff o | none => false
  let all := effs.foldl (fun s j => s ||| 2 ^ j) 0
  ⟨idx.filter fun x => (match ops[x]? with | some o => !isEff o | none => false) && ((an.getD x 0) &&& all) == 0, mkSteps ops an idx effs⟩

/-! When a plan stands for every order. -/
def flatSteps : List PStep → List Nat
  | [] => []
  | s :: ss => s.eff :: (s.eager ++ flatSteps ss)

def pairsOK (an : List Nat) : List Nat → Bool
  | [] => true
  | x :: xs => xs.all (fun y => !Nat.beq x y && !((an.getD x 0).testBit y)) && pairsOK an xs
def chainOK (an : List Nat) : List PStep → Bool
  | [] => true
  | s :: ss => ss.all (fun r => (an.getD r.eff 0).testBit s.eff) && chainOK an ss
def checksOK (ops : List Oper) (an : List Nat) (prev : List Nat) : List PStep → Bool
  | [] => true
  | s :: ss => prev.all (fun x => (match ops[x]? with | some o => !reads o.op | none => true) || ((an.getD s.eff 0).testBit x || s.check.contains x)) && checksOK ops an (prev ++ s.eager) ss
def namesOK (ops : List Oper) (an : List Nat) (effs : List Nat) : Bool :=
  ops.zipIdx.all fun (o, x) => ops.zipIdx.all fun (q, y) =>
    match q.dst with
    | none => true
    | some d =>
      if Nat.beq x y then effs.contains x || !((sees ops o).contains d)
      else !((sees ops o).contains d || decide (o.dst = some d)) || ((an.getD x 0).testBit y || (effs.contains y && (an.getD y 0).testBit x))

def planOK (ops : List Oper) (p : Plan) : Bool :=
  let an := ancs ops
  let flat := p.first ++ flatSteps p.steps
  (ops.zipIdx.all fun (o, x) => (preds o).all fun j => Nat.blt j x) &&
  ((List.range ops.length).all (fun x => flat.contains x) && (pairsOK an flat && (chainOK an p.steps && (p.steps.all (fun s => s.eager.all fun x => (an.getD x 0).testBit s.eff) &&
    (checksOK ops an p.first p.steps && namesOK ops an (p.steps.map (·.eff)))))))

def planOf (ops : List Oper) : Option Plan :=
  let p := mkPlan ops
  if planOK ops p then some p else none

structure PlanOK (ops : List Oper) (p : Plan) : Prop where
  back : ∀ x o, ops[x]? = some o → ∀ j ∈ preds o, j < x
  all : ∀ x, x < ops.length → x ∈ p.first ++ flatSteps p.steps
  pairs : (p.first ++ flatSteps p.steps).Pairwise fun x y => x ≠ y ∧ ((ancs ops).getD x 0).testBit y = false
  chain : p.steps.Pairwise fun s r => ((ancs ops).getD r.eff 0).testBit s.eff = true
  eager : ∀ s ∈ p.steps, ∀ x ∈ s.eager, ((ancs ops).getD x 0).testBit s.eff = true
  checks : checksOK ops (ancs ops) p.first p.steps = true
  names : ∀ x o y q d, ops[x]? = some o → ops[y]? = some q → q.dst = some d → x ≠ y → (d ∈ sees ops o ∨ o.dst = some d) →
    ((ancs ops).getD x 0).testBit y = true ∨ ((∃ s ∈ p.steps, s.eff = y) ∧ ((ancs ops).getD y 0).testBit x = true)
  own : ∀ x o d, ops[x]? = some o → o.dst = some d → d ∈ sees ops o → ∃ s ∈ p.steps, s.eff = x

theorem pairsOK_sound {an : List Nat} : ∀ {l : List Nat}, pairsOK an l = true → l.Pairwise fun x y => x ≠ y ∧ (an.getD x 0).testBit y = false
  | [], _ => .nil
  | x :: xs, h => by
    simp only [pairsOK, Bool.and_eq_true, List.all_eq_true] at h
    refine .cons (fun y hy => ?_) (pairsOK_sound h.2)
    have := h.1 y hy
    simp only [Bool.and_eq_true, Bool.not_eq_true'] at this
    exact ⟨fun e => by subst e; simp at this, this.2⟩
theorem chainOK_sound {an : List Nat} : ∀ {l : List PStep}, chainOK an l = true → l.Pairwise fun s r => (an.getD r.eff 0).testBit s.eff = true
  | [], _ => .nil
  | x :: xs, h => by
    simp only [chainOK, Bool.and_eq_true, List.all_eq_true] at h
    exact .cons (fun y hy => h.1 y hy) (chainOK_sound h.2)

theorem mem_zipIdx {α : Type} {l : List α} {x : Nat} {o : α} (h : l[x]? = some o) : (o, x) ∈ l.zipIdx := by
  rw [List.mem_zipIdx_iff_getElem?]; exact h

theorem planOK_sound {ops : List Oper} {p : Plan} (h : planOK ops p = true) : PlanOK ops p := by
  unfold planOK at h
  simp only [Bool.and_eq_true] at h
  obtain ⟨h1, h2, h3, h4, h5, h6, h7⟩ := h
  refine ⟨?_, ?_, pairsOK_sound h3, chainOK_sound h4, ?_, h6, ?_, ?_⟩
  · intro x o ho j hj
    rw [List.all_eq_true] at h1
    have := h1 _ (mem_zipIdx ho)
    simp only [List.all_eq_true] at this
    exact Nat.le_of_ble_eq_true (this j hj)
  · intro x hx
    rw [List.all_eq_true] at h2
    simpa using h2 x (List.mem_range.2 hx)
  · intro s hs x hx
    rw [List.all_eq_true] at h5
    have := h5 s hs
    rw [List.all_eq_true] at this
    exact this x hx
  · intro x o y q d ho hq hd hxy hm
    unfold namesOK at h7
    rw [List.all_eq_true] at h7
    have h8 := h7 _ (mem_zipIdx ho)
    simp only [List.all_eq_true] at h8
    have h9 := h8 _ (mem_zipIdx hq)
    simp only [hd] at h9
    rw [if_neg (by simpa using hxy)] at h9
    simp only [Bool.or_eq_true, Bool.not_eq_true', Bool.and_eq_true, Bool.or_eq_false_iff, decide_eq_false_iff_not] at h9
    rcases h9 with ⟨h9, h10⟩ | h9 | ⟨h9, h10⟩
    · rcases hm with hm | hm
      · have : (sees ops o).contains d = true := by simpa using hm
        rw [this] at h9; cases h9
      · exact absurd hm h10
    · exact .inl h9
    · refine .inr ⟨?_, h10⟩
      have : y ∈ p.steps.map (·.eff) := by simpa using h9
      obtain ⟨s, hs, he⟩ := List.mem_map.1 this
      exact ⟨s, hs, he⟩
  · intro x o d ho hd hm
    unfold namesOK at h7
    rw [List.all_eq_true] at h7
    have h8 := h7 _ (mem_zipIdx ho)
    simp only [List.all_eq_true] at h8
    have h9 := h8 _ (mem_zipIdx ho)
    simp only [hd] at h9
    rw [if_pos (by simp)] at h9
    have h10 : (sees ops o).contains d = true := by simpa using hm
    rw [h10] at h9
    simp only [Bool.not_true, Bool.or_false] at h9
    have : x ∈ p.steps.map (·.eff) := by simpa using h9
    obtain ⟨s, hs, he⟩ := List.mem_map.1 this
    exact ⟨s, hs, he⟩

theorem planOf_sound {ops : List Oper} {p : Plan} (h : planOf ops = some p) : PlanOK ops p := by
  unfold planOf at h
  simp only at h
  split at h
  · rename_i hp; cases h; exact planOK_sound hp
  · cases h

/-! Ancestors. -/
theorem foldl_bits {acc : List Nat} : ∀ (l : List Nat) (s z : Nat), (l.foldl (fun s j => s ||| 2 ^ j ||| acc.getD j 0) s).testBit z = true → s.testBit z = true ∨ ∃ j ∈ l, z = j ∨ (acc.getD j 0).testBit z = true
  | [], s, z, h => .inl h
  | j :: l, s, z, h => by
    rw [List.foldl_cons] at h
    rcases foldl_bits l _ z h with h | ⟨i, hi, h⟩
    · rw [Nat.testBit_or, Nat.testBit_or] at h
      simp only [Bool.or_eq_true] at h
      rcases h with (h | h) | h
      · exact .inl h
      · rw [Nat.testBit_two_pow] at h
        exact .inr ⟨j, by simp, .inl (by simpa [eq_comm] using h)⟩
      · exact .inr ⟨j, by simp, .inr h⟩
    · exact .inr ⟨i, by simp [hi], h⟩

theorem ancsFrom_spec : ∀ (os done : List Oper) (acc : List Nat), acc.length = done.length →
    (∀ x z, (acc.getD x 0).testBit z = true → ∃ o, done[x]? = some o ∧ ∃ j ∈ preds o, z = j ∨ (j < x ∧ (acc.getD j 0).testBit z = true)) →
    ∀ x z, ((ancsFrom acc os).getD x 0).testBit z = true → ∃ o, (done ++ os)[x]? = some o ∧ ∃ j ∈ preds o, z = j ∨ (j < x ∧ ((ancsFrom acc os).getD j 0).testBit z = true)
  | [], done, acc, hl, h, x, z, hz => by
    rw [ancsFrom] at hz ⊢
    rw [List.append_nil]; exact h x z hz
  | o :: os, done, acc, hl, h, x, z, hz => by
    rw [ancsFrom] at hz ⊢
    have key := ancsFrom_spec os (done ++ [o]) (acc ++ [(preds o).foldl (fun s j => s ||| 2 ^ j ||| acc.getD j 0) 0]) (by simp [hl]) ?_ x z hz
    · rw [List.append_assoc] at key; exact key
    · intro x z hz
      have hlow : ∀ j, j < acc.length → (acc ++ [(preds o).foldl (fun s j => s ||| 2 ^ j ||| acc.getD j 0) 0]).getD j 0 = acc.getD j 0 := by
        intro j hj; simp [List.getD_eq_getElem?_getD, List.getElem?_append_left hj]
      by_cases hx : x < acc.length
      · rw [hlow x hx] at hz
        obtain ⟨q, hq, j, hj, hor⟩ := h x z hz
        refine ⟨q, by rw [List.getElem?_append_left (by omega)]; exact hq, j, hj, ?_⟩
        rcases hor with h | ⟨h1, h2⟩
        · exact .inl h
        · exact .inr ⟨h1, by rw [hlow j (by omega)]; exact h2⟩
      · by_cases hx2 : x = acc.length
        · subst hx2
          have hv : (acc ++ [(preds o).foldl (fun s j => s ||| 2 ^ j ||| acc.getD j 0) 0]).getD acc.length 0 = (preds o).foldl (fun s j => s ||| 2 ^ j ||| acc.getD j 0) 0 := by simp
          rw [hv] at hz
          rcases foldl_bits _ _ _ hz with h0 | ⟨j, hj, hor⟩
          · simp at h0
          · refine ⟨o, by rw [hl]; simp, j, hj, ?_⟩
            rcases hor with h | h
            · exact .inl h
            · by_cases hjl : j < acc.length
              · exact .inr ⟨hjl, by rw [hlow j hjl]; exact h⟩
              · simp [List.getD_eq_getElem?_getD, List.getElem?_eq_none (Nat.le_of_not_lt hjl)] at h
        · have : (acc ++ [(preds o).foldl (fun s j => s ||| 2 ^ j ||| acc.getD j 0) 0]).getD x 0 = 0 := by
            rw [List.getD_eq_getElem?_getD, List.getElem?_eq_none (by simp; omega)]; rfl
          rw [this] at hz; simp at hz

theorem ancs_spec (ops : List Oper) (x z : Nat) (h : ((ancs ops).getD x 0).testBit z = true) : ∃ o, ops[x]? = some o ∧ ∃ j ∈ preds o, z = j ∨ (j < x ∧ ((ancs ops).getD j 0).testBit z = true) := by
  have := ancsFrom_spec ops [] [] rfl (by intro x z h; simp at h) x z h
  simpa [ancs] using this

/-- What is closed under straight predecessors holds all ancestors. -/
theorem ancs_in {ops : List Oper} {C : Nat → Bool} (hC : ∀ i, C i = true → ∀ o, ops[i]? = some o → ∀ j ∈ preds o, C j = true) : ∀ (x : Nat) (o : Oper), ops[x]? = some o → (∀ j ∈ preds o, C j = true) → ∀ z, ((ancs ops).getD x 0).testBit z = true → C z = true := by
  intro x
  induction x using Nat.strongRecOn with
  | ind x ih =>
    intro o ho hp z hz
    obtain ⟨o', ho', j, hj, hor⟩ := ancs_spec ops x z hz
    rw [ho] at ho'; cases ho'
    rcases hor with rfl | ⟨hlt, hz'⟩
    · exact hp z hj
    · obtain ⟨q, hq, _⟩ := ancs_spec ops j z hz'
      exact ih j hlt q hq (hC j (hp j hj) q hq) z hz'
end Go.Am
