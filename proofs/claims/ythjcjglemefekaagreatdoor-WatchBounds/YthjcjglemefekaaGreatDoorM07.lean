/- A machine that runs the program's code, right of the model for every tape; no condition. The abstract machine, in a form that the kernel runs fast: what each piece of code does is worked out once, as a closed term. What the fast machine's small words mean. -/
import Derived.Test.YthjcjglemefekaaGreatDoorM05
import Derived.Test.YthjcjglemefekaaGreatDoorM06
/-! FxA -/
namespace Go.Am

/-! Small words, each one step of a recursor. -/
noncomputable def oK {α : Type} (o : Option α) (k : α → Ans) : Ans := Option.rec (motive := fun _ => Ans) bad k o
noncomputable def bK (b : Bool) (t f : Ans) : Ans := Bool.rec (motive := fun _ => Ans) f t b
noncomputable def natK (n : Nat) (k : Nat → Ans) : Ans := Nat.rec (motive := fun _ => Ans) bad (fun m _ => k m) (Nat.succ n)
noncomputable def eitherK {α : Type} (o : Option α) (k : α → Ans) (d : Ans) : Ans := Option.rec (motive := fun _ => Ans) d k o

noncomputable def AV.asBool (v : AV) (k : Bool → Ans) (d : Ans) : Ans :=
  @AV.rec (fun _ => Ans) (fun _ => Ans) k (fun _ _ => d) (fun _ => d) (fun _ => d) (fun _ _ _ _ => d) (fun _ => d) (fun _ _ _ _ _ => d) d (fun _ _ _ => d) d (fun _ _ => d) (fun _ _ => d) d (fun _ _ _ _ => d) v
noncomputable def AV.asInt (v : AV) (k : IntKind → Int → Ans) (d : Ans) : Ans :=
  @AV.rec (fun _ => Ans) (fun _ => Ans) (fun _ => d) k (fun _ => d) (fun _ => d) (fun _ _ _ _ => d) (fun _ => d) (fun _ _ _ _ _ => d) d (fun _ _ _ => d) d (fun _ _ => d) (fun _ _ => d) d (fun _ _ _ _ => d) v
noncomputable def AV.asPtr (v : AV) (k : Nat × Nat → Ans) (d : Ans) : Ans :=
  @AV.rec (fun _ => Ans) (fun _ => Ans) (fun _ => d) (fun _ _ => d) (fun _ => d) (fun p => eitherK p k d) (fun _ _ _ _ => d) (fun _ => d) (fun _ _ _ _ _ => d) d (fun _ _ _ => d) d (fun _ _ => d) (fun _ _ => d) d (fun _ _ _ _ => d) v
noncomputable def AV.asSlice (v : AV) (k : Option (Nat × Nat) → Nat → Nat → Nat → Ans) (d : Ans) : Ans :=
  @AV.rec (fun _ => Ans) (fun _ => Ans) (fun _ => d) (fun _ _ => d) (fun _ => d) (fun _ => d) k (fun _ => d) (fun _ _ _ _ _ => d) d (fun _ _ _ => d) d (fun _ _ => d) (fun _ _ => d) d (fun _ _ _ _ => d) v
noncomputable def AV.asFunc (v : AV) (k : Fn → List AV → List AV → Ans) (d : Ans) : Ans :=
  @AV.rec (fun _ => Ans) (fun _ => Ans) (fun _ => d) (fun _ _ => d) (fun _ => d) (fun _ => d) (fun _ _ _ _ => d) (fun _ => d) (fun f a c _ _ => k f a c) d (fun _ _ _ => d) d (fun _ _ => d) (fun _ _ => d) d (fun _ _ _ _ => d) v
noncomputable def AV.asAgg (v : AV) (k : List AV → Ans) (d : Ans) : Ans :=
  @AV.rec (fun _ => Ans) (fun _ => Ans) (fun _ => d) (fun _ _ => d) (fun _ => d) (fun _ => d) (fun _ _ _ _ => d) (fun _ => d) (fun _ _ _ _ _ => d) d (fun _ _ _ => d) d (fun c _ => k c) (fun _ _ => d) d (fun _ _ _ _ => d) v
noncomputable def AV.asTuple (v : AV) (k : List AV → Ans) (d : Ans) : Ans :=
  @AV.rec (fun _ => Ans) (fun _ => Ans) (fun _ => d) (fun _ _ => d) (fun _ => d) (fun _ => d) (fun _ _ _ _ => d) (fun _ => d) (fun _ _ _ _ _ => d) d (fun _ _ _ => d) d (fun _ _ => d) (fun c _ => k c) d (fun _ _ _ _ => d) v

noncomputable def pairK {α β : Type} (p : α × β) (k : α → β → Ans) : Ans := Prod.rec (motive := fun _ => Ans) k p

/-- A value whose numbers are worked out. -/
noncomputable def AV.forceK (v : AV) (k : AV → Ans) : Ans :=
  @AV.rec (fun _ => Ans) (fun _ => Ans)
    (fun b => bK b (k (.bool true)) (k (.bool false)))
    (fun kd n => Int.rec (motive := fun _ => Ans) (fun m => natK m fun m => k (.int kd (.ofNat m))) (fun m => natK m fun m => k (.int kd (.negSucc m))) n)
    (fun s => k (.str s))
    (fun p => eitherK p (fun q => pairK q fun a b => natK a fun a => natK b fun b => k (.ptr (some (a, b)))) (k (.ptr none)))
    (fun p l c m => natK l fun l => natK c fun c => natK m fun m => eitherK p (fun q => pairK q fun a b => natK a fun a => natK b fun b => k (.slice (some (a, b)) l c m)) (k (.slice none l c m)))
    (fun r => eitherK r (fun r => natK r fun r => k (.map (some r))) (k (.map none)))
    (fun f a c _ _ => k (.func f a c)) (k .nilFunc) (fun t x _ => k (.iface t x)) (k .nilIface) (fun c _ => k (.agg c)) (fun c _ => k (.tuple c)) bad (fun _ _ _ _ => bad) v


/-! Memory. -/
noncomputable def FObj.asCells (o : FObj) (k : List AV → Ans) : Ans :=
  FObj.rec (motive := fun _ => Ans) k (fun _ _ => bad) (fun _ => bad) (fun _ => bad) (fun _ _ _ _ => bad) o
noncomputable def FObj.asMap (o : FObj) (k : List AEntry → Nat → Ans) : Ans :=
  FObj.rec (motive := fun _ => Ans) (fun _ => bad) k (fun _ => bad) (fun _ => bad) (fun _ _ _ _ => bad) o
noncomputable def FObj.asLoop (o : FObj) (k : FLoop → Ans) : Ans :=
  FObj.rec (motive := fun _ => Ans) (fun _ => bad) (fun _ _ => bad) k (fun _ => bad) (fun _ _ _ _ => bad) o
noncomputable def FObj.asIter (o : FObj) (k : Option Nat → Nat → List Nat → Nat → Ans) : Ans :=
  FObj.rec (motive := fun _ => Ans) (fun _ => bad) (fun _ _ => bad) (fun _ => bad) (fun _ => bad) k o
noncomputable def FHeap.objK (H : FHeap) (b : Nat) (k : FObj → Ans) : Ans :=
  natK (Nat.div b 256) fun q => natK (Nat.mod b 256) fun r => (clN q).getK H.m fun c => (slN r).getK c k
noncomputable def FHeap.cellsK (H : FHeap) (b : Nat) (k : List AV → Ans) : Ans := H.objK b fun o => o.asCells k
noncomputable def FHeap.setK (m : Sq (Sq (Option FObj))) (b : Nat) (o : Option FObj) (k : Sq (Sq (Option FObj)) → Ans) : Ans :=
  natK (Nat.div b 256) fun q => natK (Nat.mod b 256) fun r => (clN q).getK m fun c => (slN r).putK c o fun c => (clN q).putK m c k
noncomputable def FHeap.pushK (H : FHeap) (o : FObj) (k : FHeap → Ans) : Ans :=
  FHeap.setK H.m H.next (some o) fun m => natK (Nat.succ H.next) fun n => k ⟨m, n, H.low⟩
noncomputable def FHeap.updK (H : FHeap) (b : Nat) (o : FObj) (k : FHeap → Ans) : Ans :=
  FHeap.setK H.m b (some o) fun m => bK (Nat.ble H.low b) (k ⟨m, H.next, H.low⟩) (k ⟨m, H.next, b⟩)
noncomputable def FHeap.killK (H : FHeap) (b : Nat) (k : FHeap → Ans) : Ans :=
  FHeap.setK H.m b none fun m => bK (Nat.ble H.low b) (k ⟨m, H.next, H.low⟩) (k ⟨m, H.next, b⟩)

/-! Lists. -/
noncomputable def nthK {α : Type} (l : List α) : Nat → (α → Ans) → Ans :=
  List.rec (motive := fun _ => Nat → (α → Ans) → Ans) (fun _ _ => bad) (fun a _ ih n k => Nat.rec (motive := fun _ => Ans) (k a) (fun m _ => ih m k) n) l
noncomputable def dropK {α : Type} (l : List α) : Nat → (List α → Ans) → Ans :=
  List.rec (motive := fun _ => Nat → (List α → Ans) → Ans) (fun n k => Nat.rec (motive := fun _ => Ans) (k []) (fun _ _ => bad) n)
    (fun a l ih n k => Nat.rec (motive := fun _ => Ans) (k (a :: l)) (fun m _ => ih m k) n) l
noncomputable def takeK {α : Type} (l : List α) : Nat → (List α → Ans) → Ans :=
  List.rec (motive := fun _ => Nat → (List α → Ans) → Ans) (fun n k => Nat.rec (motive := fun _ => Ans) (k []) (fun _ _ => bad) n)
    (fun a _ ih n k => Nat.rec (motive := fun _ => Ans) (k []) (fun m _ => ih m fun r => k (a :: r)) n) l
/-- The list with 'xs' laid over it from a place on. -/
noncomputable def overK {α : Type} (l : List α) : List α → (List α → Ans) → Ans :=
  List.rec (motive := fun _ => List α → (List α → Ans) → Ans) (fun xs k => List.rec (motive := fun _ => Ans) (k []) (fun _ _ _ => bad) xs)
    (fun a l ih xs k => List.rec (motive := fun _ => Ans) (k (a :: l)) (fun x xs _ => ih xs fun r => k (x :: r)) xs) l
noncomputable def spliceK {α : Type} (l : List α) : Nat → List α → (List α → Ans) → Ans :=
  List.rec (motive := fun _ => Nat → List α → (List α → Ans) → Ans) (fun n xs k => Nat.rec (motive := fun _ => Ans) (overK [] xs k) (fun _ _ => bad) n)
    (fun a l ih n xs k => Nat.rec (motive := fun _ => Ans) (overK (a :: l) xs k) (fun m _ => ih m xs fun r => k (a :: r)) n) l
noncomputable def lenIs {α : Type} (l : List α) (n : Nat) : Bool := Nat.beq (List.rec (motive := fun _ => Nat) 0 (fun _ _ ih => Nat.succ ih) l) n
noncomputable def appK {α : Type} (l m : List α) (k : List α → Ans) : Ans :=
  List.rec (motive := fun _ => (List α → Ans) → Ans) (fun k => k m) (fun a _ ih k => ih fun r => k (a :: r)) l k

/-! Operands. -/
structure OAct where
  f : Fr → (AV → Ans) → Ans
noncomputable def OAct.bad : OAct := ⟨fun _ _ => Go.Am.bad⟩
noncomputable def oAct (E : Env) (x : Operand) : OAct :=
  match x with
  | .tmp t => ⟨fun T k => (slN t).getK T k⟩
  | .const v => match ofV v with
    | some a => ⟨fun _ k => k a⟩
    | none => .bad
  | .global g => match Nat.blt g E.nglob with
    | true => ⟨fun _ k => k (.ptr (some (g, 0)))⟩
    | false => .bad
  | .func f => ⟨fun _ k => k (.func (.func f) [] [])⟩

structure OoAct where
  f : Fr → (Option AV → Ans) → Ans
noncomputable def ooAct (E : Env) (x : Option Operand) : OoAct :=
  match x with
  | none => ⟨fun _ k => k none⟩
  | some x => ⟨fun T k => (oAct E x).f T fun a => k (some a)⟩

structure LAct where
  f : Fr → (List AV → Ans) → Ans
noncomputable def lAct (E : Env) (l : List Operand) : LAct :=
  List.rec (motive := fun _ => LAct) ⟨fun _ k => k []⟩ (fun x _ ih => ⟨fun T k => (oAct E x).f T fun a => ih.f T fun as => k (a :: as)⟩) l

/-! Numbers. -/
def kmax : IntKind → Nat
  | .i64 => 9223372036854775807
  | .u64 => 18446744073709551615
  | .u32 => 4294967295
  | .u16 => 65535
  | .u8 => 255
  | _ => 0
noncomputable def wrapK (k : IntKind) (n : Nat) (q : AV → Ans) : Ans :=
  bK (Nat.ble n (kmax k)) (natK n fun m => q (.int k (.ofNat m))) ((AV.int k (fwrap k (.ofNat n))).forceK q)
noncomputable def nnK (x y : Int) (f : Nat → Nat → Ans) (d : Ans) : Ans :=
  Int.rec (motive := fun _ => Ans) (fun a => Int.rec (motive := fun _ => Ans) (fun b => f a b) (fun _ => d) y) (fun _ => d) x
noncomputable def boolK (b : Bool) (q : AV → Ans) : Ans := bK b (q (.bool true)) (q (.bool false))
noncomputable def notK (b : Bool) (q : AV → Ans) : Ans := bK b (q (.bool false)) (q (.bool true))

structure IAct where
  f : IntKind → Int → Int → (AV → Ans) → Ans
noncomputable def slowI (op : BinOp) (k : IntKind) (x y : Int) (q : AV → Ans) : Ans := oK (aInt2 op k x y) fun v => v.forceK q
noncomputable def iAct (op : BinOp) : IAct :=
  match op with
  | .add => ⟨fun k x y q => nnK x y (fun a b => wrapK k (Nat.add a b) q) (slowI .add k x y q)⟩
  | .sub => ⟨fun k x y q => nnK x y (fun a b => bK (Nat.ble b a) (wrapK k (Nat.sub a b) q) (slowI .sub k x y q)) (slowI .sub k x y q)⟩
  | .mul => ⟨fun k x y q => nnK x y (fun a b => wrapK k (Nat.mul a b) q) (slowI .mul k x y q)⟩
  | .eql => ⟨fun _ x y q => boolK (ieq x y) q⟩
  | .neq => ⟨fun _ x y q => notK (ieq x y) q⟩
  | .lss => ⟨fun _ x y q => notK (ile y x) q⟩
  | .leq => ⟨fun _ x y q => boolK (ile x y) q⟩
  | .gtr => ⟨fun _ x y q => notK (ile x y) q⟩
  | .geq => ⟨fun _ x y q => boolK (ile y x) q⟩
  | op => ⟨fun k x y q => slowI op k x y q⟩

def kcode : IntKind → Nat
  | .i8 => 0 | .i16 => 1 | .i32 => 2 | .i64 => 3 | .u8 => 4 | .u16 => 5 | .u32 => 6 | .u64 => 7
def isShift : BinOp → Bool
  | .shl | .shr => true
  | _ => false

/-! Memory. -/
noncomputable def atK (c : List AV) (o n : Nat) (k : List AV → Ans) : Ans :=
  bK (Nat.beq o 0) (bK (lenIs c n) (k c) (takeK c n k)) (dropK c o fun c => takeK c n k)
noncomputable def layK (c : List AV) (o : Nat) (xs : List AV) (n : Nat) (k : List AV → Ans) : Ans :=
  bK (Nat.beq o 0) (bK (lenIs c n) (k xs) (spliceK c o xs k)) (spliceK c o xs k)

structure LdAct where
  f : FHeap → Nat × Nat → (AV → Ans) → Ans
noncomputable def ldAct (E : Env) (t : TypeId) : LdAct :=
  match E.T t with
  | none => ⟨fun _ _ _ => bad⟩
  | some i => match isAggD i.desc with
    | true => ⟨fun H p k => pairK p fun b o => H.cellsK b fun c => atK c o i.size fun r => k (.agg r)⟩
    | false => ⟨fun H p k => pairK p fun b o => H.cellsK b fun c => nthK c o k⟩

structure StAct where
  f : FHeap → Nat × Nat → AV → (FHeap → Ans) → Ans
noncomputable def stAct (E : Env) (t : TypeId) : StAct :=
  match E.T t with
  | none => ⟨fun _ _ _ _ => bad⟩
  | some i => ⟨fun H p x k => bK x.nt (bK (lenIs x.cells i.size) (pairK p fun b o => H.cellsK b fun c => layK c o x.cells i.size fun c => H.updK b (.cells c) k) bad) bad⟩

structure VAct where
  f : Fr → FHeap → (AV → Ans) → Ans
noncomputable def VAct.bad : VAct := ⟨fun _ _ _ => Go.Am.bad⟩

noncomputable def addPtr (p : Nat × Nat) (d : Nat) (k : AV → Ans) : Ans := pairK p fun b o => natK (Nat.add o d) fun o => k (.ptr (some (b, o)))

/-- Which field lies where, of what size. -/
def fieldOf (E : Env) (t : TypeId) (f : Nat) : Option (Nat × TI) :=
  match E.T t with
  | some i => match i.desc with
    | .struct fs => match fs.toList[f]? with
      | some fd => match E.T fd.type with
        | some j => some (fd.offset, j)
        | none => none
      | none => none
    | _ => none
  | none => none

structure PAct where
  f : List AV → Nat → (AV → Ans) → Ans
noncomputable def pAct (j : TI) : PAct :=
  match isAggD j.desc with
  | true => ⟨fun cs off k => atK cs off j.size fun r => k (.agg r)⟩
  | false => ⟨fun cs off k => nthK cs off k⟩

noncomputable def AV.asNat (v : AV) (k : Nat → Ans) : Ans := v.asInt (fun _ n => Int.rec (motive := fun _ => Ans) k (fun _ => bad) n) bad

/-- The cells that a slice shows. -/
noncomputable def sourceK (H : FHeap) (size : Nat) (x : AV) (k : Nat → List AV → Ans) : Ans :=
  x.asSlice (fun p n _ _ => eitherK p (fun q => pairK q fun b o => H.cellsK b fun c => dropK c o fun c => takeK c (Nat.mul n size) fun c => k n c) (k 0 []))
    (match x with
     | .str s => bK (Nat.beq size 1) (k s.length (s.map fun b => .int .u8 (.ofNat b.toNat))) bad
     | _ => bad)

noncomputable def AV.asMap (v : AV) (k : Option Nat → Ans) : Ans :=
  @AV.rec (fun _ => Ans) (fun _ => Ans) (fun _ => bad) (fun _ _ => bad) (fun _ => bad) (fun _ => bad) (fun _ _ _ _ => bad) k (fun _ _ _ _ _ => bad) bad (fun _ _ _ => bad) bad (fun _ _ => bad) (fun _ _ => bad) bad (fun _ _ _ _ => bad) v

/-- Where a key stands. -/
noncomputable def findN (kc n : Nat) (es : List AEntry) : Nat → (Nat → AV → Ans) → Ans → Ans :=
  List.rec (motive := fun _ => Nat → (Nat → AV → Ans) → Ans → Ans) (fun _ _ d => d)
    (fun e _ ih i k d => AEntry.rec (motive := fun _ => Ans) (fun key val _ => key.asInt (fun kd m => bK (Nat.beq (kcode kd) kc) (Int.rec (motive := fun _ => Ans) (fun m => bK (Nat.beq n m) (k i val) (ih (Nat.succ i) k d)) (fun _ => ih (Nat.succ i) k d) m) bad) bad) e) es
noncomputable def findK (key : AV) (es : List AEntry) (k : Nat → AV → Ans) (d : Ans) : Ans :=
  key.asInt (fun kd n => Int.rec (motive := fun _ => Ans) (fun n => findN (kcode kd) n es 0 k d) (fun _ => oK (aFind key es 0) fun r => eitherK r (fun q => pairK q k) d) n)
    (oK (aFind key es 0) fun r => eitherK r (fun q => pairK q k) d)

structure MapT where
  kd : TypeDesc
  zero : Option AV
def mapOf (E : Env) (t : TypeId) : Option MapT :=
  match E.T t with
  | some i => match i.desc with
    | .map kt et => match E.T kt, E.T et with
      | some ik, some ie => some ⟨ik.desc, ie.zero⟩
      | _, _ => none
    | _ => none
  | none => none
/-- The key's side alone. -/
def keyOf (E : Env) (t : TypeId) : Option TypeDesc :=
  match E.T t with
  | some i => match i.desc with
    | .map kt _ => match E.T kt with
      | some ik => some ik.desc
      | _ => none
    | _ => none
  | none => none

noncomputable def okV (ok : Bool) (v : AV) (b : Bool) : AV := bif ok then .tuple [v, .bool b] else v
noncomputable def lookAct (E : Env) (t : TypeId) (x i : Operand) (ok : Bool) : VAct :=
  match mapOf E t with
  | none => .bad
  | some mt => match mt.zero with
    | none => .bad
    | some z => ⟨fun T H k => (oAct E x).f T fun a => (oAct E i).f T fun b => bK (keyKind mt.kd b) (a.asMap fun r =>
        eitherK r (fun r => H.objK r fun o => o.asMap fun es _ => findK b es (fun _ v => bK ok (k (.tuple [v, .bool true])) (k v)) (bK ok (k (.tuple [z, .bool false])) (k z))) (bK ok (k (.tuple [z, .bool false])) (k z))) bad⟩

/-- The parts of a new value, each laid at its place. -/
structure FillAct where
  f : Fr → List AV → (List AV → Ans) → Ans
noncomputable def fillAct (E : Env) (place : Nat → Option (Nat × Nat)) (ps : List (Nat × Operand)) : FillAct :=
  List.rec (motive := fun _ => FillAct) ⟨fun _ c k => k c⟩
    (fun p _ ih => match place p.1 with
      | none => ⟨fun _ _ _ => bad⟩
      | some q => ⟨fun T c k => (oAct E p.2).f T fun a => bK a.nt (bK (lenIs a.cells q.2) (spliceK c q.1 a.cells fun c => ih.f T c k) bad) bad⟩) ps

noncomputable def buildAct (E : Env) (t : TypeId) (ps : List (Nat × Operand)) : VAct :=
  match E.T t with
  | none => .bad
  | some i => match i.desc, i.zero with
    | .array _ e, some z => match E.T e with
      | some ie => match z.nt && z.cells.all AV.one with
        | true => ⟨fun T _ k => (fillAct E (fun i => some (i * ie.size, ie.size)) ps).f T z.cells fun c => k (.agg c)⟩
        | false => .bad
      | none => .bad
    | .struct fs, some z => match aPlaces E fs.toList with
      | some places => match z.nt && z.cells.all AV.one with
        | true => ⟨fun T _ k => (fillAct E (fun i => places[i]?) ps).f T z.cells fun c => k (.agg c)⟩
        | false => .bad
      | none => .bad
    | _, _ => .bad

noncomputable def ixAct (E : Env) (t : TypeId) (x i : Operand) : VAct :=
  match E.T t with
  | none => .bad
  | some ti => match ti.desc with
    | .array n e => match E.T e with
      | some j => ⟨fun T _ k => (oAct E x).f T fun a => (oAct E i).f T fun b => a.asPtr (fun p => b.asNat fun m => bK (Nat.blt m n) (addPtr p (Nat.mul m j.size) k) bad) bad⟩
      | none => .bad
    | .slice e => match E.T e with
      | some j => ⟨fun T _ k => (oAct E x).f T fun a => (oAct E i).f T fun b => a.asSlice (fun p n _ _ => eitherK p (fun p => b.asNat fun m => bK (Nat.blt m n) (addPtr p (Nat.mul m j.size) k) bad) bad) bad⟩
      | none => .bad
    | _ => .bad

noncomputable def indexAct (E : Env) (t : TypeId) (x i : Operand) : VAct :=
  match E.T t with
  | none => .bad
  | some ti => match ti.desc with
    | .array n e => match E.T e with
      | some j => ⟨fun T _ k => (oAct E x).f T fun a => (oAct E i).f T fun b => a.asAgg (fun cs => b.asNat fun m => bK (Nat.blt m n) ((pAct j).f cs (Nat.mul m j.size) k) bad) bad⟩
      | none => .bad
    | _ => ⟨fun T _ k => (oAct E x).f T fun a => (oAct E i).f T fun b => oK (aIndex E t a b) fun v => v.forceK k⟩

noncomputable def lenAct (E : Env) (t : TypeId) (x : Operand) : VAct :=
  match E.T t with
  | none => .bad
  | some i => match i.desc with
    | .slice _ => ⟨fun T _ k => (oAct E x).f T fun a => a.asSlice (fun _ n _ _ => k (.int .i64 (.ofNat n))) bad⟩
    | .map _ _ => ⟨fun T H k => (oAct E x).f T fun a => a.asMap fun r => eitherK r (fun r => H.objK r fun o => o.asMap fun es _ => natK es.length fun n => k (.int .i64 (.ofNat n))) (k (.int .i64 (.ofNat 0)))⟩
    | .array n _ => ⟨fun T _ k => (oAct E x).f T fun _ => k (.int .i64 (.ofNat n))⟩
    | .string => ⟨fun T _ k => (oAct E x).f T fun a => match a with | .str s => natK s.length fun n => k (.int .i64 (.ofNat n)) | _ => bad⟩
    | _ => .bad

/-- Bytes into a text? -/
def toStrOK (E : Env) (s d : TypeId) : Bool :=
  match E.T s, E.T d with
  | some i, some j => match i.desc, j.desc with
    | .slice e, .string => match E.T e with
      | some k => match k.desc with
        | .int .u8 => true
        | _ => false
      | none => false
    | _, _ => false
  | _, _ => false
def toBytesOK (E : Env) (s d : TypeId) : Bool :=
  match E.T s, E.T d with
  | some i, some j => match i.desc, j.desc with
    | .string, .slice e => match E.T e with
      | some k => match k.desc with
        | .int .u8 => true
        | _ => false
      | none => false
    | _, _ => false
  | _, _ => false

noncomputable def vAct (E : Env) (op : Op) : VAct :=
  match op with
  | .move x => ⟨fun T _ k => (oAct E x).f T k⟩
  | .assign x => ⟨fun T _ k => (oAct E x).f T k⟩
  | .pick c a b => ⟨fun T _ k => (oAct E c).f T fun v => v.asBool (fun r => bK r ((oAct E a).f T k) ((oAct E b).f T k)) bad⟩
  | .nilCheck x => ⟨fun T _ k => (oAct E x).f T fun a => oK (aNil a) k⟩
  | .binOp op t x y _ => match isShift op with
    | true => ⟨fun T _ k => (oAct E x).f T fun a => (oAct E y).f T fun b => oK (aBin E op t (x.isLit || y.isLit) a b) fun v => v.forceK k⟩
    | false => ⟨fun T _ k => (oAct E x).f T fun a => (oAct E y).f T fun b =>
        a.asInt (fun ka n => b.asInt (fun kb m => bK (Nat.beq (kcode ka) (kcode kb)) ((iAct op).f ka n m k) bad)
          (oK (aBin E op t (x.isLit || y.isLit) a b) fun v => v.forceK k)) (oK (aBin E op t (x.isLit || y.isLit) a b) fun v => v.forceK k)⟩
  | .unOp op _ x => match op with
    | .not => ⟨fun T _ k => (oAct E x).f T fun v => v.asBool (fun b => bK b (k (.bool false)) (k (.bool true))) bad⟩
    | op => ⟨fun T _ k => (oAct E x).f T fun a => oK (aUn op a) fun v => v.forceK k⟩
  | .convert s d x => match toStrOK E s d with
    | true => ⟨fun T H k => (oAct E x).f T fun a => a.asSlice (fun _ _ _ _ => sourceK H 1 a fun _ cs => oK (bytesOf? cs) fun bs => k (.str bs)) bad⟩
    | false => ⟨fun T _ k => (oAct E x).f T fun a => oK (aConv E s d a) fun v => v.forceK k⟩
  | .makeFunc fn first cap => match fnPlain fn with
    | true => ⟨fun T _ k => (lAct E first.toList).f T fun f => (lAct E cap.toList).f T fun c => k (.func fn f c)⟩
    | false => .bad
  | .fieldAddr t x f => match fieldOf E t f with
    | some (off, j) => match Nat.beq j.size 0 with
      | true => .bad
      | false => ⟨fun T _ k => (oAct E x).f T fun a => a.asPtr (fun p => addPtr p off k) bad⟩
    | none => .bad
  | .field t x f => match fieldOf E t f with
    | some (off, j) => ⟨fun T _ k => (oAct E x).f T fun a => a.asAgg (fun cs => (pAct j).f cs off k) bad⟩
    | none => .bad
  | .extract x i => ⟨fun T _ k => (oAct E x).f T fun a => a.asTuple (fun vs => nthK vs i k) bad⟩
  | .load t x => ⟨fun T H k => (oAct E x).f T fun a => a.asPtr (fun p => (ldAct E t).f H p k) bad⟩
  | .slice t x lo hi mx => ⟨fun T _ k => (oAct E x).f T fun a => (ooAct E lo).f T fun l => (ooAct E hi).f T fun h => (ooAct E mx).f T fun m => oK (aSlice E t a l h m) fun v => v.forceK k⟩
  | .indexAddr t x i => ixAct E t x i
  | .index t x i => indexAct E t x i
  | .lookup t x i ok => lookAct E t x i ok
  | .build t ps => buildAct E t ps.toList
  | .makeInterface t x => match (match E.T t with | some i => (match i.desc with | .interface _ => false | _ => true) | none => false) with
    | true => ⟨fun T _ k => (oAct E x).f T fun a => k (.iface t a)⟩
    | false => .bad
  | .entry x => ⟨fun T H k => (oAct E x).f T fun a => a.asPtr (fun p => pairK p fun b o => bK (Nat.beq o 0) (H.objK b fun it => it.asIter fun m _ seen last => oK m fun m => H.objK m fun o => o.asMap fun es clock =>
      bK (Nat.beq clock last) (oK seen.getLast? fun st => oK (es.find? fun e => Nat.beq e.born st) fun e => k (.tuple [e.key, e.val])) bad) bad) bad⟩
  | .typeAssert x _ t ok => ⟨fun T _ k => (oAct E x).f T fun a => oK (aAssert E a t ok) k⟩
  | .call c => match c.callee with
    | .builtin .len => match c.args.toList, c.argTypes.toList with
      | [a], [t] => lenAct E t a
      | _, _ => .bad
    | .builtin .cap => match c.args.toList, c.argTypes.toList with
      | [a], [t] => ⟨fun T _ k => (oAct E a).f T fun a => oK (aCap E t a) k⟩
      | _, _ => .bad
    | .builtin .max => ⟨fun T _ k => (lAct E c.args.toList).f T fun as => oK (aMax as) fun v => v.forceK k⟩
    | .builtin .min => ⟨fun T _ k => (lAct E c.args.toList).f T fun as => oK (aMin as) fun v => v.forceK k⟩
    | _ => .bad
  | _ => .bad

/-! Effects. -/
abbrev N1 := Fr → List ADef → Rc → FHeap → Ans
abbrev KF := AExit → Fr → List ADef → Rc → FHeap → Ans

structure FF where
  run : FuncId → Nat → Option Nat → Code → Fr → List ADef → Rc → FHeap → N1 → KF → Ans
  loop : FuncId → Nat → Option Nat → Code → Fr → List ADef → Rc → FHeap → N1 → KF → Ans
  scope : FuncId → Nat → Option Nat → Code → Code → Fr → List ADef → Rc → FHeap → N1 → KF → Ans
  call : FuncId → List AV → FHeap → (AV → FHeap → Ans) → (AV → FHeap → Ans) → Ans
  defs : List ADef → AMode → FHeap → (AMode → FHeap → Ans) → Ans

structure CAct where
  run : FF → FuncId → Option Nat → Fr → List ADef → Rc → FHeap → N1 → KF → Ans
noncomputable def CAct.bad : CAct := ⟨fun _ _ _ _ _ _ _ _ _ => Go.Am.bad⟩

/-- Where a result goes. -/
structure DAct where
  f : Fr → AV → (Fr → Ans) → Ans
noncomputable def dAct (n : Nat) (d : Option Tmp) : DAct :=
  match d with
  | none => ⟨fun T _ k => k T⟩
  | some d => match Nat.blt d n with
    | true => ⟨fun T v k => (slN d).putK T (some v) k⟩
    | false => ⟨fun _ _ _ => bad⟩

def isVal (op : Op) : Bool :=
  match op with
  | .move _ | .assign _ | .pick .. | .nilCheck _ | .binOp .. | .unOp .. | .makeInterface .. | .makeFunc .. | .slice .. | .fieldAddr .. | .field .. | .indexAddr .. | .index .. | .lookup .. | .extract .. | .build .. | .load .. | .typeAssert .. | .entry _ => true
  | .call c => match c.callee with
    | .builtin .len | .builtin .cap | .builtin .max | .builtin .min => true
    | _ => false
  | _ => false
/-- A value operation, or a conversion that makes no memory. -/
def isValE (E : Env) (op : Op) : Bool :=
  match op with
  | .convert s d _ => !toBytesOK E s d
  | op => isVal op

structure EAct where
  f : Fr → FHeap → (AV → FHeap → Ans) → Ans
noncomputable def EAct.bad : EAct := ⟨fun _ _ _ => Go.Am.bad⟩

noncomputable def repK (z : List AV) (n : Nat) (k : List AV → Ans) : Ans :=
  Nat.rec (motive := fun _ => List AV → Ans) (fun l => k l) (fun _ ih l => appK z l ih) n []

/-- The element of a slice's type. -/
def elemOf (E : Env) (t : TypeId) : Option TI :=
  match E.T t with
  | some i => match i.desc with
    | .slice e => E.T e
    | _ => none
  | none => none

noncomputable def newSlice (E : Env) (t : TypeId) (n : Nat) (ps : List (Nat × Operand)) : EAct :=
  match elemOf E t with
  | none => .bad
  | some ie => match ie.zero with
    | none => .bad
    | some z => match z.nt && (Nat.beq z.cells.length ie.size && (Nat.ble 1 ie.size && Nat.ble (n * ie.size) 1048576)) with
      | true => ⟨fun T H k => repK z.cells n fun c => (fillAct E (fun i => some (i * ie.size, ie.size)) ps).f T c fun c => H.pushK (.cells c) fun H' => k (.slice (some (H.next, 0)) n n 0) H'⟩
      | false => .bad

noncomputable def feedK (H : FHeap) (ie : TI) (d : TypeDesc) (z x : AV) (k : Nat → List AV → Ans) : Ans :=
  match d with
  | .int _ => x.asNat fun n => bK (Nat.ble n 1099511627776 && Nat.ble (Nat.mul n ie.bytes) 1099511627776) (repK z.cells n fun c => k n c) bad
  | d => bK (srcKind d x) (sourceK H ie.size x k) bad

noncomputable def appendAct (E : Env) (st xt : TypeId) (s x : Operand) : EAct :=
  match elemOf E st, E.T xt with
  | some ie, some ix => match ie.zero with
    | none => .bad
    | some z => match (Nat.ble 1 ie.size && Nat.ble ie.bytes 1048576) && (z.nt && Nat.beq z.cells.length ie.size) with
      | false => .bad
      | true => ⟨fun T H k => (oAct E s).f T fun s => (oAct E x).f T fun x => s.asSlice (fun base len cap more =>
          feedK H ie ix.desc z x fun n xs =>
            bK (Nat.beq n 0) (bK (Nat.ble len cap) (k s H) bad)
              (natK (Nat.add len n) fun tot => bK (Nat.ble tot cap)
                (oK base fun p => pairK p fun b o => H.cellsK b fun c => spliceK c (Nat.add o (Nat.mul len ie.size)) xs fun c => H.updK b (.cells c) fun H' => k (.slice (some (b, o)) tot cap more) H')
                (bK (Nat.ble (Nat.mul tot ie.bytes) 1099511627776 && Nat.ble tot 1099511627776)
                  (sourceK H ie.size s fun _ old => appK old xs fun c =>
                    bK (Nat.beq more 0) (H.pushK (.cells c) fun H' => k (.slice (some (H.next, 0)) tot tot ie.size) H')
                      (bK (Nat.beq more ie.size) (oK base fun p => pairK p fun b _ => H.killK b fun H1 => H1.pushK (.cells c) fun H' => k (.slice (some (H1.next, 0)) tot tot ie.size) H') bad))
                  bad))) bad⟩
  | _, _ => .bad

noncomputable def copyAct (E : Env) (dt : TypeId) (d x : Operand) : EAct :=
  match elemOf E dt with
  | none => .bad
  | some ie => ⟨fun T H k => (oAct E d).f T fun d => (oAct E x).f T fun x => d.asSlice (fun base dl _ _ =>
      sourceK H ie.size x fun n xs => natK (bif Nat.ble n dl then n else dl) fun j =>
        eitherK base (fun p => bK (Nat.beq j 0) (k (.int .i64 (.ofNat j)) H)
          (pairK p fun b o => H.cellsK b fun c => takeK xs (Nat.mul j ie.size) fun ys => spliceK c o ys fun c => H.updK b (.cells c) fun H' => k (.int .i64 (.ofNat j)) H'))
          (k (.int .i64 (.ofNat j)) H)) bad⟩

/-- A list with an entry's value replaced; with an entry struck; with one more. -/
noncomputable def modK (es : List AEntry) : Nat → AV → (List AEntry → Ans) → Ans :=
  List.rec (motive := fun _ => Nat → AV → (List AEntry → Ans) → Ans) (fun _ _ k => k [])
    (fun e l ih i v k => Nat.rec (motive := fun _ => Ans) (AEntry.rec (motive := fun _ => Ans) (fun key _ born => k (⟨key, v, born⟩ :: l)) e) (fun j _ => ih j v fun r => k (e :: r)) i) es
noncomputable def eraseK (es : List AEntry) : Nat → (List AEntry → Ans) → Ans :=
  List.rec (motive := fun _ => Nat → (List AEntry → Ans) → Ans) (fun _ k => k [])
    (fun e l ih i k => Nat.rec (motive := fun _ => Ans) (k l) (fun j _ => ih j fun r => k (e :: r)) i) es

noncomputable def mapSetAct (E : Env) (t : TypeId) (m key x : Operand) : EAct :=
  match keyOf E t with
  | none => .bad
  | some kd => ⟨fun T H k => (oAct E m).f T fun a => (oAct E key).f T fun b => (oAct E x).f T fun c => bK (keyKind kd b) (a.asMap fun r => oK r fun r =>
      H.objK r fun o => o.asMap fun es clock => findK b es
        (fun j _ => modK es j c fun es => H.updK r (.map es clock) fun H' => k undefA H')
        (appK es [⟨b, c, clock⟩] fun es => natK (Nat.succ clock) fun cl => H.updK r (.map es cl) fun H' => k undefA H')) bad⟩
noncomputable def deleteAct (E : Env) (t : TypeId) (m key : Operand) : EAct :=
  match keyOf E t with
  | none => .bad
  | some kd => ⟨fun T H k => (oAct E m).f T fun a => (oAct E key).f T fun b => bK (keyKind kd b) (a.asMap fun r => oK r fun r =>
      H.objK r fun o => o.asMap fun es clock => findK b es
        (fun j _ => eraseK es j fun es => H.updK r (.map es clock) fun H' => k undefA H')
        (k undefA H)) bad⟩

noncomputable def listK {α : Type} (l : List α) (n : Ans) (c : α → List α → Ans) : Ans := List.rec (motive := fun _ => Ans) n (fun a l _ => c a l) l
def isMapT (E : Env) (t : TypeId) : Bool :=
  match E.T t with
  | some i => match i.desc with
    | .map _ _ => true
    | _ => false
  | none => false
noncomputable def eAct (E : Env) (op : Op) : EAct :=
  match op with
  | .alloc t => match E.T t with
    | some i => match i.zero with
      | some z => match z.nt with
        | true => ⟨fun _ H k => H.pushK (.cells z.cells) fun H' => k (.ptr (some (H.next, 0))) H'⟩
        | false => .bad
      | none => .bad
    | none => .bad
  | .box _ x => ⟨fun T H k => (oAct E x).f T fun a => bK a.nt (H.pushK (.cells a.cells) fun H' => k (.ptr (some (H.next, 0))) H') bad⟩
  | .store t a x => ⟨fun T H k => (oAct E a).f T fun a => (oAct E x).f T fun v => a.asPtr (fun p => (stAct E t).f H p v fun H' => k undefA H') bad⟩
  | .buildSlice t n ps => newSlice E t n ps.toList
  | .makeMap _ none => ⟨fun _ H k => H.pushK (.map [] 0) fun H' => k (.map (some H.next)) H'⟩
  | .range t x => match isMapT E t with
    | false => .bad
    | true => ⟨fun T H k => (oAct E x).f T fun a => a.asMap fun r => eitherK r
        (fun r => H.objK r fun o => o.asMap fun _ clock => H.pushK (.miter (some r) clock [] clock) fun H' => k (.ptr (some (H.next, 0))) H')
        (H.pushK (.miter none 0 [] 0) fun H' => k (.ptr (some (H.next, 0))) H')⟩
  | .next x false => ⟨fun T H k => (oAct E x).f T fun a => a.asPtr (fun p => pairK p fun b o => bK (Nat.beq o 0) (H.objK b fun it => it.asIter fun m since seen last => eitherK m
      (fun m => H.objK m fun o => o.asMap fun es clock => bK (es.all (fun e => Nat.blt e.born since) && Nat.ble since last)
        (listK (es.filter fun e => !seen.contains e.born) (k (.tuple [.bool false]) H) fun e l => listK l (H.updK b (.miter (some m) since (seen ++ [e.born]) clock) fun H' => k (.tuple [.bool true, e.key, e.val]) H') fun _ _ => bad) bad)
      (k (.tuple [.bool false]) H)) bad) bad⟩
  | .makeSlice t l c => match elemOf E t with
    | none => .bad
    | some ie => match ie.zero with
      | none => .bad
      | some z => match z.nt && (Nat.beq z.cells.length ie.size && Nat.ble 1 ie.size) with
        | false => .bad
        | true => ⟨fun T H k => (oAct E l).f T fun a => (oAct E c).f T fun b => a.asNat fun n => b.asNat fun m =>
            bK (Nat.ble n m && (Nat.ble (Nat.mul m ie.bytes) 1099511627776 && Nat.ble m 1099511627776)) (repK z.cells m fun cs => H.pushK (.cells cs) fun H' => k (.slice (some (H.next, 0)) n m 0) H') bad⟩
  | .convert s d x => match toBytesOK E s d with
    | false => .bad
    | true => ⟨fun T H k => (oAct E x).f T fun a => match a with
      | .str t => natK t.length fun n => H.pushK (.cells (t.map fun b => .int .u8 (.ofNat b.toNat))) fun H' => k (.slice (some (H.next, 0)) n n 1) H'
      | _ => bad⟩
  | .mapEntry t m key => match mapOf E t with
    | none => .bad
    | some mt => match mt.zero with
      | none => .bad
      | some z => ⟨fun T H k => (oAct E m).f T fun a => (oAct E key).f T fun b => bK (keyKind mt.kd b) (a.asMap fun r => oK r fun r =>
          H.objK r fun o => o.asMap fun es clock => findK b es (fun _ _ => bad)
            (appK es [⟨b, z, clock⟩] fun es => natK (Nat.succ clock) fun cl => H.updK r (.map es cl) fun H' => k (.tuple [z, .int .i64 (.ofNat clock)]) H')) bad⟩
  | .entryStore _ m s x => ⟨fun T H k => (oAct E m).f T fun a => (oAct E s).f T fun b => (oAct E x).f T fun c => a.asMap fun r => oK r fun r => b.asNat fun n =>
      H.objK r fun o => o.asMap fun es clock => oK (es.findIdx? fun e => Nat.beq e.born n) fun j => modK es j c fun es => H.updK r (.map es clock) fun H' => k undefA H'⟩
  | .mapUpdate t m key x => mapSetAct E t m key x
  | .insert t m key x => mapSetAct E t m key x
  | .call c => match c.callee with
    | .builtin .append => match c.args.toList, c.argTypes.toList with
      | [a, b], [s, t] => appendAct E s t a b
      | _, _ => .bad
    | .builtin .copy => match c.args.toList, c.argTypes.toList with
      | [a, b], [s, _] => copyAct E s a b
      | _, _ => .bad
    | .builtin .delete => match c.args.toList, c.argTypes.toList with
      | [a, b], [s, _] => deleteAct E s a b
      | _, _ => .bad
    | _ => .bad
  | _ => .bad

noncomputable def paramsK (args : List AV) : Nat → Fr → (Fr → Ans) → Ans :=
  List.rec (motive := fun _ => Nat → Fr → (Fr → Ans) → Ans) (fun _ T k => k T) (fun a _ ih i T k => (slN i).putK T (some a) fun T => natK (Nat.succ i) fun i => ih i T k) args
noncomputable def bindK (ps : List Tmp) : List AV → Nat → Fr → (Fr → Ans) → Ans :=
  List.rec (motive := fun _ => List AV → Nat → Fr → (Fr → Ans) → Ans) (fun as _ T k => List.rec (motive := fun _ => Ans) (k T) (fun _ _ _ => bad) as)
    (fun p _ ih as n T k => List.rec (motive := fun _ => Ans) bad (fun a as _ => bK (Nat.blt p n) ((slN p).putK T (some a) fun T => ih as n T k) bad) as) ps


noncomputable def yieldK (E : Env) (F : FF) (l : Nat) (args : List AV) (H : FHeap) (ret pan : AV → FHeap → Ans) : Ans :=
  H.objK l fun o => o.asLoop fun r =>
    match r.state with
    | .ready => bindK r.params args r.n r.tmps fun T0 =>
      F.run r.fn r.n (some l) r.assign T0 [] .off H (fun T D _ H =>
        listK D (H.objK l fun o => o.asLoop fun r1 => match r1.state with
          | .ready => H.updK l (.loop { r1 with state := .busy }) fun H =>
            F.run r.fn r.n (some l) r.body T [] .off H
              (fun _ D _ H => listK D (H.objK l fun o => o.asLoop fun r2 => H.updK l (.loop { r2 with state := .ready, pending := none }) fun H => ret (.bool true) H) fun _ _ => bad)
              (fun e _ D _ H => listK D (match e with
                | .ret => H.objK l fun o => o.asLoop fun r2 => H.updK l (.loop { r2 with state := .done, pending := some .ret }) fun H => ret (.bool false) H
                | .exit id => H.objK l fun o => o.asLoop fun r2 => H.updK l (.loop { r2 with state := .done, pending := some (.exit id) }) fun H => ret (.bool false) H
                | .goto g => H.objK l fun o => o.asLoop fun r2 => H.updK l (.loop { r2 with state := .done, pending := some (.goto g) }) fun H => ret (.bool false) H
                | .panic v => eitherK (E.F r.fn) (fun _ => pan v H) bad
                | .normal => bad) fun _ _ => bad)
          | _ => bad) fun _ _ => bad) (fun _ _ _ _ _ => bad)
    | _ => bad

noncomputable def Fn.elimK (f : Fn) (k : FuncId → Ans) (y : Nat → Ans) : Ans :=
  match f with
  | .func g => k g
  | .yield l => y l
  | _ => bad

noncomputable def invokeK (E : Env) (F : FF) (f : AV) (args : List AV) (H : FHeap) (ret pan : AV → FHeap → Ans) : Ans :=
  f.asFunc (fun fn first cap => Fn.elimK fn
    (fun g => appK first args fun as => listK cap (F.call g as H ret pan) fun _ _ => appK as cap fun as => F.call g as H ret pan)
    (fun l => appK first args fun as => yieldK E F l as H ret pan)) bad

noncomputable def opAct (E : Env) (n : Nat) (o : Oper) : CAct :=
  match isValE E o.op with
  | true => ⟨fun _ _ _ T D R H N _ => (vAct E o.op).f T H fun v => (dAct n o.dst).f T v fun T => N T D R H⟩
  | false =>
    match o.op with
    | .call c =>
      match c.callee with
      | .value f => ⟨fun F _ _ T D R H N X => (oAct E f).f T fun g => (lAct E c.args.toList).f T fun as => invokeK E F g as H (fun v H => (dAct n o.dst).f T v fun T => N T D R H) (fun v H => X (.panic v) T D R H)⟩
      | .builtin .recover => ⟨fun _ _ rnd T D R H N _ => match R, rnd with
          | .nothing, none => (dAct n o.dst).f T .nilIface fun T => N T D R H
          | .avail v, none => (dAct n o.dst).f T v fun T => N T D .taken H
          | _, _ => bad⟩
      | .builtin _ => ⟨fun _ _ _ T D R H N _ => (eAct E o.op).f T H fun v H => (dAct n o.dst).f T v fun T => N T D R H⟩
      | _ => .bad
    | .defer c =>
      match c.callee with
      | .value f => ⟨fun _ _ rnd T D R H N _ => match rnd with
        | none => (oAct E f).f T fun g => (lAct E c.args.toList).f T fun as => g.asFunc (fun fn first cap => Fn.elimK fn (fun g => (dAct n o.dst).f T undefA fun T => N T (.fn (.func g) cap (first ++ as) :: D) R H) (fun _ => bad)) bad
        | some _ => bad⟩
      | _ => .bad
    | .panic x => ⟨fun _ _ _ T D R H _ X => (oAct E x).f T fun v => match v with
        | .iface t v => X (.panic (.iface t v)) T D R H
        | _ => bad⟩
    | _ => ⟨fun _ _ _ T D R H N _ => (eAct E o.op).f T H fun v H => (dAct n o.dst).f T v fun T => N T D R H⟩

/-- Under a guard: 'y' where it is wanted, 'n' where not. -/
structure WAct where
  f : Fr → Ans → Ans → Ans
noncomputable def wAct (ops : List Oper) (o : Oper) : WAct :=
  match o.guard with
  | none => ⟨fun _ y _ => y⟩
  | some (j, want) =>
    match ops[j]? with
    | some q => match q.dst with
      | some d => match want with
        | true => ⟨fun T y n => (slN d).getK T fun v => v.asBool (fun b => bK b y n) (v.asTuple (fun l => listK l n fun _ _ => bad) bad)⟩
        | false => ⟨fun T y n => (slN d).getK T fun v => v.asBool (fun b => bK b n y) (v.asTuple (fun l => listK l n fun _ _ => bad) bad)⟩
      | none => ⟨fun _ _ _ => bad⟩
    | none => ⟨fun _ _ _ => bad⟩

noncomputable def opsAct (E : Env) (n : Nat) (ops : List Oper) (l : List Oper) : CAct :=
  List.rec (motive := fun _ => CAct) ⟨fun _ _ _ T D R H N _ => N T D R H⟩ (fun o _ ih =>
    match o.guard with
    | none => ⟨fun F fn rnd T D R H N X => (opAct E n o).run F fn rnd T D R H (fun T D R H => ih.run F fn rnd T D R H N X) X⟩
    | some _ => ⟨fun F fn rnd T D R H N X => (wAct ops o).f T ((opAct E n o).run F fn rnd T D R H (fun T D R H => ih.run F fn rnd T D R H N X) X)
        ((dAct n o.dst).f T undefA fun T => ih.run F fn rnd T D R H N X)⟩) l

/-! Drawn regions. -/
structure TAct where
  f : Fr → FHeap → (Fr → FHeap → Ans) → Ans
noncomputable def TAct.bad : TAct := ⟨fun _ _ _ => Go.Am.bad⟩

/-- New memory that is made ahead of its time. -/
noncomputable def newK (E : Env) (op : Op) : EAct :=
  match op with
  | .alloc t => match E.T t with
    | some i => match i.zero with
      | some z => match z.nt && z.cells.all AV.one with
        | true => ⟨fun _ H k => H.pushK (.cells z.cells) fun H' => k (.ptr (some (H.next, 0))) H'⟩
        | false => .bad
      | none => .bad
    | none => .bad
  | .box _ x => ⟨fun T H k => (oAct E x).f T fun a => bK a.nt (bK (a.cells.all AV.one) (H.pushK (.cells a.cells) fun H' => k (.ptr (some (H.next, 0))) H') bad) bad⟩
  | .buildSlice t n ps => match elemOf E t with
    | none => .bad
    | some ie => match ie.zero with
      | none => .bad
      | some z => match z.nt && (Nat.beq z.cells.length ie.size && (Nat.ble 1 ie.size && Nat.ble (n * ie.size) 1048576)) with
        | true => ⟨fun T H k => repK z.cells n fun c => (fillAct E (fun i => some (i * ie.size, ie.size)) ps.toList).f T c fun c => bK (c.all AV.one) (H.pushK (.cells c) fun H' => k (.slice (some (H.next, 0)) n n 0) H') bad⟩
        | false => .bad
  | .makeMap _ none => ⟨fun _ H k => H.pushK (.map [] 0) fun H' => k (.map (some H.next)) H'⟩
  | .makeSlice t l c => match elemOf E t with
    | none => .bad
    | some ie => match ie.zero with
      | none => .bad
      | some z => match z.nt && (Nat.beq z.cells.length ie.size && (Nat.ble 1 ie.size && z.cells.all AV.one)) with
        | false => .bad
        | true => ⟨fun T H k => (oAct E l).f T fun a => (oAct E c).f T fun b => a.asNat fun n => b.asNat fun m =>
            bK (Nat.ble n m && (Nat.ble (Nat.mul m ie.bytes) 1099511627776 && Nat.ble m 1099511627776)) (repK z.cells m fun cs => H.pushK (.cells cs) fun H' => k (.slice (some (H.next, 0)) n m 0) H') bad⟩
  | _ => .bad

noncomputable def eager0 (E : Env) (n : Nat) (o : Oper) : TAct :=
  match o.dst with
  | none => .bad
  | some _ => match isValE E o.op with
    | true => ⟨fun T H k => (vAct E o.op).f T H fun v => (dAct n o.dst).f T v fun T => k T H⟩
    | false => ⟨fun T H k => (newK E o.op).f T H fun v H => (dAct n o.dst).f T v fun T => k T H⟩
noncomputable def eagerA (E : Env) (n : Nat) (ops : List Oper) (i : Nat) : TAct :=
  match ops[i]? with
  | none => .bad
  | some o => match o.guard with
    | none => eager0 E n o
    | some _ => match o.dst with
      | none => .bad
      | some _ => ⟨fun T H k => (wAct ops o).f T ((eager0 E n o).f T H k) ((dAct n o.dst).f T undefA fun T => k T H)⟩
noncomputable def eagersA (E : Env) (n : Nat) (ops : List Oper) (l : List Nat) : TAct :=
  List.rec (motive := fun _ => TAct) ⟨fun T H k => k T H⟩ (fun i _ ih => ⟨fun T H k => (eagerA E n ops i).f T H fun T H => ih.f T H k⟩) l

structure BAct where
  f : Fr → FHeap → Ans → Ans
noncomputable def stillA (E : Env) (ops : List Oper) (i : Nat) : BAct :=
  match ops[i]? with
  | none => ⟨fun _ _ _ => bad⟩
  | some o => match o.dst, isValE E o.op with
    | some d, true => ⟨fun T H k => (wAct ops o).f T ((vAct E o.op).f T H fun a => (slN d).getK T fun b => bK (AV.beq a b) k bad) k⟩
    | _, _ => ⟨fun _ _ _ => bad⟩
noncomputable def stillsA (E : Env) (ops : List Oper) (l : List Nat) : BAct :=
  List.rec (motive := fun _ => BAct) ⟨fun _ _ k => k⟩ (fun i _ ih => ⟨fun T H k => (stillA E ops i).f T H (ih.f T H k)⟩) l

noncomputable def forgetK (os : List Oper) : Fr → (Fr → Ans) → Ans :=
  List.rec (motive := fun _ => Fr → (Fr → Ans) → Ans) (fun T k => k T) (fun o _ ih T k => ih T fun T => match o.dst with | some d => (slN d).putK T none k | none => k T) os

noncomputable def stepsAct (E : Env) (n : Nat) (ops : List Oper) (l : List PStep) : CAct :=
  List.rec (motive := fun _ => CAct) ⟨fun _ _ _ T D R H N _ => N T D R H⟩
    (fun s _ ih => match ops[s.eff]? with
      | none => .bad
      | some o => ⟨fun F fn rnd T D R H N X => (wAct ops o).f T
          ((opAct E n o).run F fn rnd T D R H
            (fun T D R H => (stillsA E ops s.check).f T H ((eagersA E n ops s.eager).f T H fun T H => ih.run F fn rnd T D R H N X))
            (fun e T D R H => match e with | .panic v => forgetK ops T fun T => X (.panic v) T D R H | _ => bad))
          ((dAct n o.dst).f T undefA fun T => (eagersA E n ops s.eager).f T H fun T H => ih.run F fn rnd T D R H N X)⟩) l
noncomputable def drawAct (E : Env) (n : Nat) (ops : List Oper) : CAct :=
  match planOf ops with
  | some p => ⟨fun F fn rnd T D R H N X => (eagersA E n ops p.first).f T H fun T H => (stepsAct E n ops p.steps).run F fn rnd T D R H N X⟩
  | none => .bad

noncomputable def afterK (l : Nat) (T : Fr) (D : List ADef) (R : Rc) (N : N1) (X : KF) (H : FHeap) : Ans :=
  H.objK l fun o => o.asLoop fun r => match r.state with
    | .busy => bad
    | _ => match r.pending with
      | none => H.updK l (.loop { r with state := .exhausted }) fun H => N T D R H
      | some .ret => H.updK l (.loop { r with state := .exhausted }) fun H => X .ret T D R H
      | some (.exit id) => H.updK l (.loop { r with state := .exhausted }) fun H => X (.exit id) T D R H
      | some (.goto g) => H.updK l (.loop { r with state := .exhausted }) fun H => X (.goto g) T D R H
      | some _ => bad

noncomputable def rangeAct (E : Env) (n : Nat) (f : Operand) (ps : Array Tmp) (assign body : Code) : CAct :=
  ⟨fun F fn rnd T D R H N X => (oAct E f).f T fun v => v.asFunc (fun g first cap => Fn.elimK g (fun g =>
      match rnd with
      | none =>
        H.pushK (.deferred (some [])) fun H1 => H1.pushK (.loop ⟨.ready, none, fn, n, T, ps.toList, assign, body, H.next⟩) fun H2 =>
          appK first (.func (.yield H1.next) [] [] :: cap) fun as => F.call g as H2 (fun _ H' => afterK H1.next T (.collected H.next :: D) R N X H') (fun v H' => X (.panic v) T (.collected H.next :: D) R H')
      | some q => H.objK q fun o => o.asLoop fun r =>
        H.pushK (.loop ⟨.ready, none, fn, n, T, ps.toList, assign, body, r.defers⟩) fun H2 =>
          appK first (.func (.yield H.next) [] [] :: cap) fun as => F.call g as H2 (fun _ H' => afterK H.next T D R N X H') (fun v H' => X (.panic v) T D R H'))
      (fun _ => bad)) bad⟩

noncomputable def codeAct (E : Env) (n : Nat) (c : Code) : CAct :=
  Code.rec (motive := fun _ => CAct)
    ⟨fun _ _ _ T D R H N _ => N T D R H⟩
    (fun _ ops draw => Bool.rec (motive := fun _ => CAct) (opsAct E n ops.toList ops.toList) (drawAct E n ops.toList) draw)
    (fun _ _ x y => ⟨fun F fn rnd T D R H N X => x.run F fn rnd T D R H (fun T D R H => y.run F fn rnd T D R H N X) X⟩)
    (fun c _ _ x y => ⟨fun F fn rnd T D R H N X => (oAct E c).f T fun v => v.asBool (fun b => bK b (x.run F fn rnd T D R H N X) (y.run F fn rnd T D R H N X)) bad⟩)
    (fun id _ x => ⟨fun F fn rnd T D R H N X => x.run F fn rnd T D R H N fun e T D R H =>
      AExit.rec (motive := fun _ => Ans) bad (fun i => bK (Nat.beq i id) (N T D R H) (X (.exit i) T D R H)) (fun l => X (.goto l) T D R H) (X .ret T D R H) (fun v => X (.panic v) T D R H) e⟩)
    (fun b _ => ⟨fun F fn rnd T D R H N X => F.loop fn n rnd b T D R H N X⟩)
    (fun f ps a b _ _ => rangeAct E n f ps a b)
    (fun id => ⟨fun _ _ _ T D R H _ X => X (.exit id) T D R H⟩)
    (fun b _ => ⟨fun F fn rnd T D R H N X => F.scope fn n rnd b b T D R H N X⟩)
    (fun _ => ⟨fun _ _ _ T D R H N _ => N T D R H⟩)
    (fun l => ⟨fun _ _ _ T D R H _ X => X (.goto l) T D R H⟩)
    ⟨fun _ _ _ T D R H _ X => X .ret T D R H⟩
    (fun _ => .bad) c

/-! Calls. -/
structure RAct where
  f : Fr → FHeap → (AV → Ans) → Ans
structure RLAct where
  f : Fr → FHeap → (List AV → Ans) → Ans
noncomputable def resList (E : Env) (rs : List ResultVar) : RLAct :=
  List.rec (motive := fun _ => RLAct) ⟨fun _ _ k => k []⟩ (fun r _ ih => match r with
    | .tmp t => ⟨fun T H k => (slN t).getK T fun a => ih.f T H fun as => k (a :: as)⟩
    | .cell a t => ⟨fun T H k => (slN a).getK T fun v => v.asPtr (fun p => (ldAct E t).f H p fun a => ih.f T H fun as => k (a :: as)) bad⟩) rs
noncomputable def resAct (E : Env) (rs : List ResultVar) : RAct :=
  match rs with
  | [] => ⟨fun _ _ k => k (.tuple [])⟩
  | [.tmp t] => ⟨fun T _ k => (slN t).getK T k⟩
  | [.cell a t] => ⟨fun T H k => (slN a).getK T fun v => v.asPtr (fun p => (ldAct E t).f H p k) bad⟩
  | rs => ⟨fun T H k => (resList E rs).f T H fun vs => k (oneOf vs)⟩

structure FAct where
  run : FF → List AV → Rc → FHeap → (Rc → AV → FHeap → Ans) → (AV → FHeap → Ans) → Ans
noncomputable def fAct (E : Env) (f : FuncId) : FAct :=
  match E.F f with
  | none => ⟨fun _ _ _ _ _ _ => bad⟩
  | some a => ⟨fun F args R H ret pan => bK (Nat.ble args.length a.ntmps) (paramsK args 0 (Sq.all none) fun T =>
      (codeAct E a.ntmps a.body).run F f none T [] R H
        (fun T D R H => listK D ((resAct E a.results).f T H fun v => ret R v H) fun _ _ => F.defs D .ret H fun m H => match m with | .ret => (resAct E a.results).f T H fun v => ret R v H | .pan _ => bad)
        (fun e T D R H => match e with
          | .ret => listK D ((resAct E a.results).f T H fun v => ret R v H) fun _ _ => F.defs D .ret H fun m H => match m with | .ret => (resAct E a.results).f T H fun v => ret R v H | .pan _ => bad
          | .panic v => F.defs D (.pan v) H fun m H => match m with | .ret => (resAct E a.results).f T H fun v => ret R v H | .pan v => pan v H
          | _ => bad)) bad⟩

/-- Functions that are not walked, in this form. -/
abbrev PrimsK := FuncId → Option (FF → List AV → FHeap → (AV → FHeap → Ans) → Ans)

/-- A call that changes nothing that was there, and yields yes or no. -/
noncomputable def pureB (F : FF) (g : FuncId) (args : List AV) (H : FHeap) (k : Bool → Ans) : Ans :=
  oK (F.call g args ⟨H.m, H.next, H.next⟩ (fun v H' => some (v, H')) fun _ _ => bad) fun r => pairK r fun v H' => bK (Nat.ble H.next H'.low) (v.asBool k bad) bad
/-- Every entry's value asked. -/
noncomputable def askK (F : FF) (g : FuncId) (first cap : List AV) (H : FHeap) (es : List AEntry) : Nat → (Nat → Ans) → Ans :=
  List.rec (motive := fun _ => Nat → (Nat → Ans) → Ans) (fun r k => k r)
    (fun e _ ih r k => pureB F g (first ++ (e.val :: cap)) H fun b => bK b (natK (Nat.succ r) fun r => ih r k) (ih r k)) es
/-- Are the entries in order, and their values of the size that they should have? -/
noncomputable def askOK (size : Nat) (es : List AEntry) (clock : Nat) : Bool :=
  List.rec (motive := fun _ => Nat → Bool) (fun lo => Nat.ble lo clock)
    (fun e _ ih lo => Bool.rec (motive := fun _ => Bool) false (Bool.rec (motive := fun _ => Bool) false (ih (Nat.succ e.born)) (match e.val with | .agg cs => lenIs cs size | _ => false)) (Nat.ble lo e.born)) es 0
/-- The size of an element that a range over a map copies. -/
def askSize (E : Env) (vt : TypeId) : Option Nat :=
  match E.T vt with
  | some i => match i.zero with
    | some z => bif z.nt && (Nat.beq z.cells.length i.size && isAggD i.desc) then some i.size else none
    | none => none
  | none => none
noncomputable def askP (E : Env) (vt : TypeId) (F : FF) (args : List AV) (H : FHeap) (k : Nat → Ans) : Ans :=
  oK (askSize E vt) fun size => listK args bad fun m l => listK l bad fun g l2 => listK l2 (m.asMap fun r => oK r fun r => g.asFunc (fun fn first cap => Fn.elimK fn (fun g =>
    H.objK r fun o => o.asMap fun es clock => bK (askOK size es clock) (bK (Nat.blt r H.next && Nat.blt es.length 9223372036854775807) (askK F g first cap H es 0 k) bad) bad) (fun _ => bad)) bad) fun _ _ => bad
noncomputable def someP (E : Env) (vt : TypeId) (F : FF) (args : List AV) (H : FHeap) (ret : AV → FHeap → Ans) : Ans := askP E vt F args H fun n => bK (Nat.beq n 0) (ret (.bool false) H) (ret (.bool true) H)
noncomputable def countP (E : Env) (vt : TypeId) (F : FF) (args : List AV) (H : FHeap) (ret : AV → FHeap → Ans) : Ans := askP E vt F args H fun n => ret (.int .i64 (.ofNat n)) H

/-- maps.clone: the like of a map. -/
noncomputable def cloneP (_ : FF) (args : List AV) (H : FHeap) (ret : AV → FHeap → Ans) : Ans :=
  listK args bad fun x l => listK l (match x with
    | .iface t (.map (some r)) => H.objK r fun o => o.asMap fun es clock => H.pushK (.map es clock) fun H' => ret (.iface t (.map (some H.next))) H'
    | _ => bad) fun _ _ => bad
/-- strings.Join. -/
noncomputable def strsK (l : List AV) : (List (List UInt8) → Ans) → Ans :=
  List.rec (motive := fun _ => (List (List UInt8) → Ans) → Ans) (fun k => k []) (fun a _ ih k => match a with | .str s => ih fun t => k (s :: t) | _ => bad) l
noncomputable def joinL (sep : List UInt8) (l : List (List UInt8)) : List UInt8 :=
  List.rec (motive := fun _ => List UInt8) [] (fun s t _ => s ++ List.rec (motive := fun _ => List UInt8) [] (fun u _ ih => sep ++ (u ++ ih)) t) l
noncomputable def joinP (_ : FF) (args : List AV) (H : FHeap) (ret : AV → FHeap → Ans) : Ans :=
  listK args bad fun x l => listK l bad fun sep l2 => listK l2 (x.asSlice (fun p n _ _ => oK p fun q => H.cellsK q.1 fun c => dropK c q.2 fun c => takeK c n fun cs => strsK cs fun ss =>
    match sep with
    | .str sp => bK (Nat.ble n 4294967296 && Nat.ble (joinL sp ss).length 4294967296) (ret (.str (joinL sp ss)) H) bad
    | _ => bad) bad) fun _ _ => bad

structure GAct where
  f : FF → List AV → FHeap → (AV → FHeap → Ans) → (AV → FHeap → Ans) → Ans
noncomputable def gcAct (E : Env) (pr : PrimsK) (f : FuncId) : GAct :=
  match pr f with
  | some p => ⟨fun F args H ret _ => p F args H ret⟩
  | none => ⟨fun F args H ret pan => (fAct E f).run F args .off H (fun _ v H => ret v H) pan⟩

noncomputable def defsK (E : Env) (F : FF) (D : List ADef) (m : AMode) (H : FHeap) (Q : AMode → FHeap → Ans) : Ans :=
  match D with
  | [] => Q m H
  | .collected r :: D => H.objK r fun o => match o with
    | .deferred (some ds) => H.updK r (.deferred none) fun H => F.defs (ds ++ D) m H Q
    | _ => bad
  | .fn (.func g) cap args :: D =>
    (fAct E g).run F (args ++ cap) (match m with | .ret => .nothing | .pan v => .avail v) H
      (fun R _ H => F.defs D (match R with | .taken => .ret | _ => m) H Q) (fun _ _ => bad)
  | _ => bad

noncomputable def ff (E : Env) (pr : PrimsK) : Nat → FF :=
  Nat.rec (motive := fun _ => FF) ⟨fun _ _ _ _ _ _ _ _ _ _ => bad, fun _ _ _ _ _ _ _ _ _ _ => bad, fun _ _ _ _ _ _ _ _ _ _ _ => bad, fun _ _ _ _ _ => bad, fun _ _ _ _ => bad⟩
    fun _ F => ⟨fun fn n rnd c T D R H N X => (codeAct E n c).run F fn rnd T D R H N X,
      fun fn n rnd b T D R H N X => (codeAct E n b).run F fn rnd T D R H (fun T D R H => F.loop fn n rnd b T D R H N X) X,
      fun fn n rnd body c T D R H N X => (codeAct E n c).run F fn rnd T D R H N fun e T D R H => match e with
        | .goto l => match findLabel body l with
          | some rest => F.scope fn n rnd body rest T D R H N X
          | none => X (.goto l) T D R H
        | e => X e T D R H,
      fun f args H ret pan => (gcAct E pr f).f F args H ret pan,
      fun D m H Q => defsK E F D m H Q⟩
end Go.Am
/-! FxB -/
namespace Go.Am

section
variable {α β : Type} {r : AV × FHeap}

theorem oK_s {o : Option α} {k : α → Ans} (h : oK o k = some r) : ∃ v, o = some v ∧ k v = some r := by
  cases o with
  | none => cases h
  | some v => exact ⟨v, rfl, h⟩
theorem bK_s {b : Bool} {t f : Ans} (h : bK b t f = some r) : (b = true ∧ t = some r) ∨ (b = false ∧ f = some r) := by
  cases b
  · exact .inr ⟨rfl, h⟩
  · exact .inl ⟨rfl, h⟩
theorem bK_t {b : Bool} {t : Ans} (h : bK b t bad = some r) : b = true ∧ t = some r := by
  cases b
  · cases h
  · exact ⟨rfl, h⟩
theorem natK_eq (n : Nat) (k : Nat → Ans) : natK n k = k n := rfl
theorem eitherK_s {o : Option α} {k : α → Ans} {d : Ans} (h : eitherK o k d = some r) : (∃ v, o = some v ∧ k v = some r) ∨ (o = none ∧ d = some r) := by
  cases o with
  | none => exact .inr ⟨rfl, h⟩
  | some v => exact .inl ⟨v, rfl, h⟩
theorem pairK_eq (p : α × β) (k : α → β → Ans) : pairK p k = k p.1 p.2 := rfl
theorem listK_s {l : List α} {n : Ans} {c : α → List α → Ans} (h : listK l n c = some r) : (l = [] ∧ n = some r) ∨ ∃ a t, l = a :: t ∧ c a t = some r := by
  cases l with
  | nil => exact .inl ⟨rfl, h⟩
  | cons a t => exact .inr ⟨a, t, rfl, h⟩

theorem asBool_s {v : AV} {k : Bool → Ans} {d : Ans} (h : v.asBool k d = some r) : (∃ b, v = .bool b ∧ k b = some r) ∨ d = some r := by
  cases v <;> first | exact .inl ⟨_, rfl, h⟩ | exact .inr h
theorem asBool_b {v : AV} {k : Bool → Ans} (h : v.asBool k bad = some r) : ∃ b, v = .bool b ∧ k b = some r := by
  rcases asBool_s h with h | h
  · exact h
  · cases h
theorem asInt_s {v : AV} {k : IntKind → Int → Ans} {d : Ans} (h : v.asInt k d = some r) : (∃ kd n, v = .int kd n ∧ k kd n = some r) ∨ ((∀ kd n, v ≠ .int kd n) ∧ d = some r) := by
  cases v <;> first | exact .inl ⟨_, _, rfl, h⟩ | exact .inr ⟨(fun _ _ e => by cases e), h⟩
theorem asPtr_s {v : AV} {k : Nat × Nat → Ans} (h : v.asPtr k bad = some r) : ∃ p, v = .ptr (some p) ∧ k p = some r := by
  cases v <;> first | (cases h; done) | skip
  rename_i p
  rcases eitherK_s h with ⟨q, rfl, h⟩ | ⟨_, h⟩
  · exact ⟨q, rfl, h⟩
  · cases h
theorem asSlice_s {v : AV} {k : Option (Nat × Nat) → Nat → Nat → Nat → Ans} {d : Ans} (h : v.asSlice k d = some r) : (∃ p l c m, v = .slice p l c m ∧ k p l c m = some r) ∨ ((∀ p l c m, v ≠ .slice p l c m) ∧ d = some r) := by
  cases v <;> first | exact .inl ⟨_, _, _, _, rfl, h⟩ | exact .inr ⟨(fun _ _ _ _ e => by cases e), h⟩
theorem asSlice_b {v : AV} {k : Option (Nat × Nat) → Nat → Nat → Nat → Ans} (h : v.asSlice k bad = some r) : ∃ p l c m, v = .slice p l c m ∧ k p l c m = some r := by
  rcases asSlice_s h with h | ⟨_, h⟩
  · exact h
  · cases h
theorem asFunc_s {v : AV} {k : Fn → List AV → List AV → Ans} (h : v.asFunc k bad = some r) : ∃ f a c, v = .func f a c ∧ k f a c = some r := by
  cases v <;> first | (cases h; done) | exact ⟨_, _, _, rfl, h⟩
theorem asAgg_s {v : AV} {k : List AV → Ans} (h : v.asAgg k bad = some r) : ∃ c, v = .agg c ∧ k c = some r := by
  cases v <;> first | (cases h; done) | exact ⟨_, rfl, h⟩
theorem asTuple_s {v : AV} {k : List AV → Ans} (h : v.asTuple k bad = some r) : ∃ c, v = .tuple c ∧ k c = some r := by
  cases v <;> first | (cases h; done) | exact ⟨_, rfl, h⟩
theorem asMap_s {v : AV} {k : Option Nat → Ans} (h : v.asMap k = some r) : ∃ m, v = .map m ∧ k m = some r := by
  cases v <;> first | (cases h; done) | exact ⟨_, rfl, h⟩
theorem asNat_s {v : AV} {k : Nat → Ans} (h : v.asNat k = some r) : ∃ kd n, v = .int kd (.ofNat n) ∧ k n = some r := by
  rcases asInt_s h with ⟨kd, n, rfl, h⟩ | ⟨_, h⟩
  · cases n with
    | ofNat n => exact ⟨kd, n, rfl, h⟩
    | negSucc n => cases h
  · cases h

theorem forceK_eq (v : AV) (k : AV → Ans) : v.forceK k = k v := by
  cases v with
  | bool b => cases b <;> rfl
  | int kd n => cases n <;> rfl
  | ptr p => cases p <;> rfl
  | slice p l c m => cases p <;> rfl
  | map m => cases m <;> rfl
  | _ => rfl

theorem asCells_s {o : FObj} {k : List AV → Ans} (h : o.asCells k = some r) : ∃ c, o = .cells c ∧ k c = some r := by
  cases o <;> first | (cases h; done) | exact ⟨_, rfl, h⟩
theorem asMapO_s {o : FObj} {k : List AEntry → Nat → Ans} (h : o.asMap k = some r) : ∃ es c, o = .map es c ∧ k es c = some r := by
  cases o <;> first | (cases h; done) | exact ⟨_, _, rfl, h⟩
theorem asLoop_s {o : FObj} {k : FLoop → Ans} (h : o.asLoop k = some r) : ∃ l, o = .loop l ∧ k l = some r := by
  cases o <;> first | (cases h; done) | exact ⟨_, rfl, h⟩
theorem asIter_s {o : FObj} {k : Option Nat → Nat → List Nat → Nat → Ans} (h : o.asIter k = some r) : ∃ m s l t, o = .miter m s l t ∧ k m s l t = some r := by
  cases o <;> first | (cases h; done) | exact ⟨_, _, _, _, rfl, h⟩

theorem objK_s {H : FHeap} {b : Nat} {k : FObj → Ans} (h : H.objK b k = some r) : ∃ o, H.abs.get b = some o.abs ∧ k o = some r := by
  obtain ⟨h1, h⟩ := clN_get h
  obtain ⟨h2, o, ho, hk⟩ := slN_get h
  refine ⟨o, ?_, hk⟩
  have hb : b < 65536 := by
    have : b / 256 < 256 := h1
    omega
  show FHeap.look H.m b = _
  unfold FHeap.look
  rw [if_pos hb]
  have ho : (Sq.get (Sq.get H.m (b / 256)) (b % 256)) = some o := ho
  rw [ho]; rfl
theorem cellsK_s {H : FHeap} {b : Nat} {k : List AV → Ans} (h : H.cellsK b k = some r) : ∃ c, H.abs.get b = some (.cells c) ∧ k c = some r := by
  obtain ⟨o, ho, h⟩ := objK_s h
  obtain ⟨c, rfl, h⟩ := asCells_s h
  exact ⟨c, ho, h⟩

theorem setK_s {m : Sq (Sq (Option FObj))} {b : Nat} {o : Option FObj} {k : Sq (Sq (Option FObj)) → Ans} (h : FHeap.setK m b o k = some r) :
    ∃ m', (∀ c, FHeap.look m' c = if c = b then o.map FObj.abs else FHeap.look m c) ∧ k m' = some r := by
  obtain ⟨h1, h⟩ := clN_get h
  obtain ⟨h2, h⟩ := slN_put h
  obtain ⟨h3, h⟩ := clN_put h
  have hb : b < 65536 := by
    have : b / 256 < 256 := h1
    omega
  exact ⟨_, fun c => FHeap.look_put hb c, h⟩
theorem pushK_s {H : FHeap} {o : FObj} {k : FHeap → Ans} (h : H.pushK o k = some r) : ∃ H', H'.abs = H.abs.push o.abs ∧ k H' = some r := by
  obtain ⟨m, hm, h⟩ := setK_s h
  refine ⟨⟨m, H.next + 1, H.low⟩, ?_, h⟩
  show AHeap.mk _ _ _ = AHeap.mk _ _ _
  congr 1
  funext c
  exact hm c
theorem updK_s {H : FHeap} {b : Nat} {o : FObj} {k : FHeap → Ans} (h : H.updK b o k = some r) : ∃ H', H'.abs = H.abs.upd b o.abs ∧ k H' = some r := by
  obtain ⟨m, hm, h⟩ := setK_s h
  rcases bK_s h with ⟨hb, h⟩ | ⟨hb, h⟩
  · refine ⟨_, ?_, h⟩
    show AHeap.mk _ _ _ = AHeap.mk _ _ _
    congr 1
    · funext c; exact hm c
    · have := Nat.le_of_ble_eq_true hb
      show H.low = min H.low b
      omega
  · refine ⟨_, ?_, h⟩
    show AHeap.mk _ _ _ = AHeap.mk _ _ _
    congr 1
    · funext c; exact hm c
    · have : ¬ H.low ≤ b := fun e => by rw [Nat.ble_eq_true_of_le e] at hb; cases hb
      show b = min H.low b
      omega
theorem killK_s {H : FHeap} {b : Nat} {k : FHeap → Ans} (h : H.killK b k = some r) : ∃ H', H'.abs = H.abs.kill b ∧ k H' = some r := by
  obtain ⟨m, hm, h⟩ := setK_s h
  rcases bK_s h with ⟨hb, h⟩ | ⟨hb, h⟩
  · refine ⟨_, ?_, h⟩
    show AHeap.mk _ _ _ = AHeap.mk _ _ _
    congr 1
    · funext c; exact hm c
    · have := Nat.le_of_ble_eq_true hb
      show H.low = min H.low b
      omega
  · refine ⟨_, ?_, h⟩
    show AHeap.mk _ _ _ = AHeap.mk _ _ _
    congr 1
    · funext c; exact hm c
    · have : ¬ H.low ≤ b := fun e => by rw [Nat.ble_eq_true_of_le e] at hb; cases hb
      show b = min H.low b
      omega

/-! Lists. -/
theorem nthK_s : ∀ {l : List α} {n : Nat} {k : α → Ans}, nthK l n k = some r → ∃ a, l[n]? = some a ∧ k a = some r
  | [], _, _, h => by cases h
  | a :: l, 0, k, h => ⟨a, rfl, h⟩
  | a :: l, n + 1, k, h => by
    have h : nthK l n k = some r := h
    obtain ⟨b, hb, hk⟩ := nthK_s h
    exact ⟨b, by simpa using hb, hk⟩
theorem dropK_s : ∀ {l : List α} {n : Nat} {k : List α → Ans}, dropK l n k = some r → n ≤ l.length ∧ k (l.drop n) = some r
  | [], 0, k, h => ⟨Nat.le_refl _, h⟩
  | [], n + 1, _, h => by cases h
  | a :: l, 0, k, h => ⟨Nat.zero_le _, h⟩
  | a :: l, n + 1, k, h => by
    have h : dropK l n k = some r := h
    obtain ⟨h1, h2⟩ := dropK_s h
    exact ⟨by simpa using h1, by simpa using h2⟩
theorem takeK_s : ∀ {l : List α} {n : Nat} {k : List α → Ans}, takeK l n k = some r → n ≤ l.length ∧ k (l.take n) = some r
  | [], 0, k, h => ⟨Nat.le_refl _, h⟩
  | [], n + 1, _, h => by cases h
  | a :: l, 0, k, h => ⟨Nat.zero_le _, h⟩
  | a :: l, n + 1, k, h => by
    have h : takeK l n (fun r => k (a :: r)) = some r := h
    obtain ⟨h1, h2⟩ := takeK_s h
    exact ⟨by simpa using h1, by simpa using h2⟩
theorem overK_s : ∀ {l xs : List α} {k : List α → Ans}, overK l xs k = some r → xs.length ≤ l.length ∧ k (xs ++ l.drop xs.length) = some r
  | [], [], k, h => ⟨Nat.le_refl _, h⟩
  | [], _ :: _, _, h => by cases h
  | a :: l, [], k, h => ⟨Nat.zero_le _, h⟩
  | a :: l, x :: xs, k, h => by
    have h : overK l xs (fun r => k (x :: r)) = some r := h
    obtain ⟨h1, h2⟩ := overK_s h
    exact ⟨by simpa using h1, by simpa using h2⟩
theorem spliceK_s : ∀ {l : List α} {n : Nat} {xs : List α} {k : List α → Ans}, spliceK l n xs k = some r → n + xs.length ≤ l.length ∧ k (l.take n ++ xs ++ l.drop (n + xs.length)) = some r
  | [], 0, xs, k, h => by
    have h : overK [] xs k = some r := h
    obtain ⟨h1, h2⟩ := overK_s h
    exact ⟨by simpa using h1, by simpa using h2⟩
  | [], n + 1, _, _, h => by cases h
  | a :: l, 0, xs, k, h => by
    have h : overK (a :: l) xs k = some r := h
    obtain ⟨h1, h2⟩ := overK_s h
    exact ⟨by simpa using h1, by simpa using h2⟩
  | a :: l, n + 1, xs, k, h => by
    have h : spliceK l n xs (fun r => k (a :: r)) = some r := h
    obtain ⟨h1, h2⟩ := spliceK_s h
    refine ⟨by simp; omega, ?_⟩
    have e : n + 1 + xs.length = (n + xs.length) + 1 := by omega
    rw [e]; simpa using h2
theorem lenIs_eq {l : List α} {n : Nat} (h : lenIs l n = true) : l.length = n := by
  have e : ∀ l : List α, (List.rec (motive := fun _ => Nat) 0 (fun _ _ ih => Nat.succ ih) l : Nat) = l.length := by
    intro l; induction l with
    | nil => rfl
    | cons a l ih => show Nat.succ _ = _; rw [ih]; rfl
  unfold lenIs at h
  rw [e] at h
  exact Nat.eq_of_beq_eq_true h
theorem appK_eq : ∀ (l m : List α) (k : List α → Ans), appK l m k = k (l ++ m)
  | [], _, _ => rfl
  | a :: l, m, k => by
    show appK l m (fun r => k (a :: r)) = _
    rw [appK_eq l m]; rfl
theorem atK_s {c : List AV} {o n : Nat} {k : List AV → Ans} (h : atK c o n k = some r) : o + n ≤ c.length ∧ k ((c.drop o).take n) = some r := by
  have second : dropK c o (fun c => takeK c n k) = some r → o + n ≤ c.length ∧ k ((c.drop o).take n) = some r := by
    intro h
    obtain ⟨h1, h⟩ := dropK_s h
    obtain ⟨h2, h⟩ := takeK_s h
    exact ⟨by simp at h2; omega, h⟩
  rcases bK_s h with ⟨h0, g⟩ | ⟨_, g⟩
  · have h0 := Nat.eq_of_beq_eq_true h0
    clear h
    subst h0
    rcases bK_s g with ⟨hl, h⟩ | ⟨_, h⟩
    · have := lenIs_eq hl
      exact ⟨by omega, by rw [List.drop_zero, List.take_of_length_le (by omega)]; exact h⟩
    · obtain ⟨h1, h⟩ := takeK_s h
      exact ⟨by omega, by simpa using h⟩
  · exact second g
theorem layK_s {c : List AV} {o n : Nat} {xs : List AV} (hx : xs.length = n) {k : List AV → Ans} (h : layK c o xs n k = some r) : o + n ≤ c.length ∧ k (splice c o xs) = some r := by
  have second : spliceK c o xs k = some r → o + n ≤ c.length ∧ k (splice c o xs) = some r := by
    intro h
    obtain ⟨h1, h⟩ := spliceK_s h
    exact ⟨by omega, h⟩
  rcases bK_s h with ⟨h0, g⟩ | ⟨_, g⟩
  · have h0 := Nat.eq_of_beq_eq_true h0
    clear h
    subst h0
    rcases bK_s g with ⟨hl, h⟩ | ⟨_, h⟩
    · have := lenIs_eq hl
      refine ⟨by omega, ?_⟩
      unfold splice
      rw [List.take_zero, List.nil_append, List.drop_eq_nil_of_le (by omega), List.append_nil]; exact h
    · exact second h
  · exact second g
theorem repK_eq (z : List AV) (n : Nat) (k : List AV → Ans) : repK z n k = k (aRep z n) := by
  have e : ∀ (n : Nat) (l : List AV), (Nat.rec (motive := fun _ => List AV → Ans) (fun l => k l) (fun _ ih l => appK z l ih) n : List AV → Ans) l = k (aRep z n ++ l) := by
    intro n; induction n with
    | zero => intro l; rfl
    | succ n ih =>
      intro l
      show appK z l _ = _
      rw [appK_eq, ih]
      congr 1
      have c : ∀ n, z ++ aRep z n = aRep z n ++ z := by
        intro n; induction n with
        | zero => simp [aRep]
        | succ n ih => show z ++ (z ++ aRep z n) = (z ++ aRep z n) ++ z; rw [ih]; simp [List.append_assoc]; rw [← List.append_assoc, ih, List.append_assoc]
      show _ = (z ++ aRep z n) ++ l
      rw [c]; simp
  show (Nat.rec (motive := fun _ => List AV → Ans) (fun l => k l) (fun _ ih l => appK z l ih) n : List AV → Ans) [] = _
  rw [e]; simp
end
end Go.Am
