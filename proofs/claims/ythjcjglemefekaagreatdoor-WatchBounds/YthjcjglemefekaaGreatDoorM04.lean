/- A machine that runs the program's code, right of the model for every tape; no condition. Rows of sixteen rows of sixteen. The fast machine's frames, memory and answers; how they stand to the abstract machine's. -/
import Derived.Test.YthjcjglemefekaaGreatDoorM03
/-! FxN -/
namespace Go.Am
structure Nd (α : Type) where
  mk ::
  a0 : α
  a1 : α
  a2 : α
  a3 : α
  a4 : α
  a5 : α
  a6 : α
  a7 : α
  a8 : α
  a9 : α
  a10 : α
  a11 : α
  a12 : α
  a13 : α
  a14 : α
  a15 : α

structure Ls (σ α : Type) where
  get : σ → α
  put : σ → α → σ
section
variable {α β : Type}
def ndL (i : Nat) : Ls (Nd α) α :=
  match i with
  | 0 => ⟨Nd.a0, fun s v => { s with a0 := v }⟩
  | 1 => ⟨Nd.a1, fun s v => { s with a1 := v }⟩
  | 2 => ⟨Nd.a2, fun s v => { s with a2 := v }⟩
  | 3 => ⟨Nd.a3, fun s v => { s with a3 := v }⟩
  | 4 => ⟨Nd.a4, fun s v => { s with a4 := v }⟩
  | 5 => ⟨Nd.a5, fun s v => { s with a5 := v }⟩
  | 6 => ⟨Nd.a6, fun s v => { s with a6 := v }⟩
  | 7 => ⟨Nd.a7, fun s v => { s with a7 := v }⟩
  | 8 => ⟨Nd.a8, fun s v => { s with a8 := v }⟩
  | 9 => ⟨Nd.a9, fun s v => { s with a9 := v }⟩
  | 10 => ⟨Nd.a10, fun s v => { s with a10 := v }⟩
  | 11 => ⟨Nd.a11, fun s v => { s with a11 := v }⟩
  | 12 => ⟨Nd.a12, fun s v => { s with a12 := v }⟩
  | 13 => ⟨Nd.a13, fun s v => { s with a13 := v }⟩
  | 14 => ⟨Nd.a14, fun s v => { s with a14 := v }⟩
  | _ => ⟨Nd.a15, fun s v => { s with a15 := v }⟩
theorem lt16 {i : Nat} (h : i < 16) : i = 0 ∨ i = 1 ∨ i = 2 ∨ i = 3 ∨ i = 4 ∨ i = 5 ∨ i = 6 ∨ i = 7 ∨ i = 8 ∨ i = 9 ∨ i = 10 ∨ i = 11 ∨ i = 12 ∨ i = 13 ∨ i = 14 ∨ i = 15 := by omega
theorem ndL_same (i : Nat) (h : i < 16) (s : Nd α) (v : α) : (ndL i).get ((ndL i).put s v) = v := by
  rcases lt16 h with rfl | rfl | rfl | rfl | rfl | rfl | rfl | rfl | rfl | rfl | rfl | rfl | rfl | rfl | rfl | rfl <;> rfl
theorem ndL_ne (i j : Nat) (hi : i < 16) (hj : j < 16) (hne : j ≠ i) (s : Nd α) (v : α) : (ndL j).get ((ndL i).put s v) = (ndL j).get s := by
  rcases lt16 hi with rfl | rfl | rfl | rfl | rfl | rfl | rfl | rfl | rfl | rfl | rfl | rfl | rfl | rfl | rfl | rfl <;> rcases lt16 hj with rfl | rfl | rfl | rfl | rfl | rfl | rfl | rfl | rfl | rfl | rfl | rfl | rfl | rfl | rfl | rfl <;> first | rfl | exact absurd rfl hne
abbrev Sq (α : Type) := Nd (Nd α)
def Sq.get (s : Sq α) (n : Nat) : α := (ndL (n % 16)).get ((ndL (n / 16 % 16)).get s)
def Sq.put (s : Sq α) (n : Nat) (v : α) : Sq α := (ndL (n / 16 % 16)).put s ((ndL (n % 16)).put ((ndL (n / 16 % 16)).get s) v)
theorem Sq.get_put (s : Sq α) (n m : Nat) (hn : n < 256) (hm : m < 256) (v : α) : (s.put n v).get m = if m = n then v else s.get m := by
  unfold Sq.get Sq.put
  have l1 := Nat.mod_lt (n / 16) (show 0 < 16 by decide)
  have l2 := Nat.mod_lt (m / 16) (show 0 < 16 by decide)
  have l3 := Nat.mod_lt n (show 0 < 16 by decide)
  have l4 := Nat.mod_lt m (show 0 < 16 by decide)
  by_cases h1 : m / 16 % 16 = n / 16 % 16
  · rw [h1, ndL_same _ l1]
    by_cases h2 : m % 16 = n % 16
    · rw [if_pos (by omega), h2, ndL_same _ l3]
    · rw [if_neg (by intro e; subst e; exact h2 rfl), ndL_ne _ _ l3 l4 h2]
  · rw [ndL_ne _ _ l1 l2 h1, if_neg (by intro e; subst e; exact h1 rfl)]
def Nd.all (x : α) : Nd α := ⟨x, x, x, x, x, x, x, x, x, x, x, x, x, x, x, x⟩
theorem ndL_all (i : Nat) (h : i < 16) (x : α) : (ndL i).get (Nd.all x) = x := by rcases lt16 h with rfl | rfl | rfl | rfl | rfl | rfl | rfl | rfl | rfl | rfl | rfl | rfl | rfl | rfl | rfl | rfl <;> rfl
def Sq.all (x : α) : Sq α := Nd.all (Nd.all x)
theorem Sq.get_all (x : α) (n : Nat) : (Sq.all x).get n = x := by
  unfold Sq.get Sq.all
  rw [ndL_all _ (Nat.mod_lt _ (by decide)), ndL_all _ (Nat.mod_lt _ (by decide))]
end
end Go.Am
/-! FxT -/
namespace Go.Am

abbrev Fr := Sq (Option AV)
structure FLoop where
  state : LoopState
  pending : Option Code
  fn : FuncId
  n : Nat
  tmps : Fr
  params : List Tmp
  assign : Code
  body : Code
  defers : Nat
inductive FObj where
  | cells (c : List AV)
  | map (es : List AEntry) (clock : Nat)
  | loop (l : FLoop)
  | deferred (ds : Option (List ADef))
  | miter (m : Option Nat) (since : Nat) (seen : List Nat) (last : Nat)
structure FHeap where
  m : Sq (Sq (Option FObj))
  next : Nat
  low : Nat
abbrev Ans := Option (AV × FHeap)
abbrev bad : Ans := none

def Fr.abs (T : Fr) : Tr AV := fun n => if n < 256 then Sq.get T n else none
def FLoop.abs (l : FLoop) : ALoop := ⟨l.state, l.pending, l.fn, l.n, Fr.abs l.tmps, l.params, l.assign, l.body, l.defers⟩
def FObj.abs : FObj → AObj
  | .cells c => .cells c
  | .map es clock => .map es clock
  | .loop l => .loop l.abs
  | .deferred ds => .deferred ds
  | .miter m s l t => .miter m s l t
def FHeap.look (m : Sq (Sq (Option FObj))) (b : Nat) : Option AObj := if b < 65536 then (Sq.get (Sq.get m (b / 256)) (b % 256)).map FObj.abs else none
def FHeap.abs (H : FHeap) : AHeap := ⟨fun b => FHeap.look H.m b, H.next, H.low⟩
def FHeap.empty (n : Nat) : FHeap := ⟨Sq.all (Sq.all none), n, n⟩

theorem Fr.abs_get {T : Fr} {n : Nat} {v : AV} (hn : n < 256) (h : Sq.get T n = some v) : (Fr.abs T).get n = some v := by
  show (if n < 256 then Sq.get T n else none) = _
  rw [if_pos hn, h]
theorem Fr.abs_put {T : Fr} {n : Nat} {v : Option AV} (hn : n < 256) : Fr.abs (Sq.put T n v) = (Fr.abs T).put n v := by
  refine Tr.ext' fun m => ?_
  rw [Tr.get_put]
  show (if m < 256 then Sq.get (Sq.put T n v) m else none) = if m = n then v else (if m < 256 then Sq.get T m else none)
  by_cases h : m < 256
  · rw [if_pos h, if_pos h, Sq.get_put _ _ _ hn h]
  · rw [if_neg h, if_neg h, if_neg (by omega)]
theorem Fr.abs_empty : Fr.abs (Sq.all none) = Tr.leaf := by
  refine Tr.ext' fun m => ?_
  show (if m < 256 then Sq.get (Sq.all none) m else none) = none
  split
  · exact Sq.get_all _ _
  · rfl
theorem FHeap.look_put {m : Sq (Sq (Option FObj))} {b : Nat} {o : Option FObj} (hb : b < 65536) (c : Nat) :
    FHeap.look (Sq.put m (b / 256) (Sq.put (Sq.get m (b / 256)) (b % 256) o)) c = if c = b then o.map FObj.abs else FHeap.look m c := by
  unfold FHeap.look
  by_cases hc : c < 65536
  · rw [if_pos hc, if_pos hc, Sq.get_put _ _ _ (by omega) (by omega)]
    by_cases h1 : c / 256 = b / 256
    · rw [if_pos h1, Sq.get_put _ _ _ (Nat.mod_lt _ (by decide)) (Nat.mod_lt _ (by decide))]
      by_cases h2 : c % 256 = b % 256
      · rw [if_pos h2, if_pos (by omega)]
      · rw [if_neg h2, if_neg (by intro e; subst e; exact h2 rfl), h1]
    · rw [if_neg h1, if_neg (by intro e; subst e; exact h1 rfl)]
  · rw [if_neg hc, if_neg hc, if_neg (by omega)]
end Go.Am
