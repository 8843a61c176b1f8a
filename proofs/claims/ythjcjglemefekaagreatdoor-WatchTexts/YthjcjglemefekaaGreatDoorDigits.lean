/- ref.Digits writes a number's decimal numeral. -/
import Derived.WalkKit
import Derived.WalkSpells
import Derived.WalkLawsBesides
import Derived.Lib.ItoaNum
import Derived.Test.YthjcjglemefekaaGreatDoorProg
namespace Go.Proofs
open Go Go.RowKit

theorem decDigits_len : ∀ (k u : Nat), u < 10 ^ (k + 1) → (Lib.decDigits u).length ≤ k + 1
  | 0, u, h => by rw [Lib.decDigits, dif_pos (by simpa using h)]; simp
  | k + 1, u, h => by
    rw [Lib.decDigits]
    split
    · simp
    · have := decDigits_len k (u / 10) (by rw [Nat.div_lt_iff_lt_mul (by decide)]; rw [Nat.pow_succ] at h; exact h)
      simp; omega

theorem wrap64_small {x : Int} (h0 : -9223372036854775808 ≤ x) (h1 : x ≤ 9223372036854775807) : wrap64 x = x := by
  unfold wrap64; omega

theorem digit_cons {d : Nat} (hd : d < 10) (t : List UInt8) : (⟨#[48, 49, 50, 51, 52, 53, 54, 55, 56, 57]⟩ : ByteArray).extract d (d + 1) ++ ⟨t.toArray⟩ = ⟨(UInt8.ofNat (48 + d) :: t).toArray⟩ := by
  apply ByteArray.ext
  simp only [ByteArray.data_append, ByteArray.data_extract]
  match d, hd with
  | 0, _ | 1, _ | 2, _ | 3, _ | 4, _ | 5, _ | 6, _ | 7, _ | 8, _ | 9, _ => simp
theorem digits_last {N q : Nat} {t : List UInt8} (ht : Lib.decDigits N = Lib.decDigits q ++ t) (h0 : q / 10 = 0) : UInt8.ofNat (48 + q % 10) :: t = Lib.decDigits N := by
  rw [ht, Lib.decDigits, dif_pos (by omega), Nat.mod_eq_of_lt (by omega)]; rfl
theorem digits_next {N q : Nat} {t : List UInt8} (ht : Lib.decDigits N = Lib.decDigits q ++ t) (h0 : q / 10 ≠ 0) : Lib.decDigits N = Lib.decDigits (q / 10) ++ (UInt8.ofNat (48 + q % 10) :: t) := by
  rw [ht, Lib.decDigits, dif_neg (by omega), List.append_assoc]; rfl
theorem itoa_neg {n : Int} (h : n < 0) {t : List UInt8} (ht : t = Lib.decDigits n.natAbs) : (⟨#[45]⟩ : ByteArray) ++ ⟨t.toArray⟩ = ⟨(Lib.itoa n).toArray⟩ := by
  apply ByteArray.ext
  simp [Lib.itoa, if_pos h, ht]
theorem itoa_pos {n : Int} (h : 0 ≤ n) {t : List UInt8} (ht : t = Lib.decDigits n.natAbs) : t.toArray = (Lib.itoa n).toArray := by
  have : n.toNat = n.natAbs := by omega
  rw [Lib.itoa, if_neg (by omega), this, ht]

set_option maxHeartbeats 400000 in
theorem digits_walk (n : Int) (h0 : -9223372036854775808 ≤ n) (h1 : n ≤ 9223372036854775807) (w : World) :
    Calls Tryz.prog 55 #[.int .i64 n] w fun e w' => e = .returned (.string ⟨(Lib.itoa n).toArray⟩) ∧ w' = w := by
  have hN : (Lib.decDigits n.natAbs).length ≤ 20 := decDigits_len 19 _ (by omega)
  go_enter Tryz.func55, Tryz.ntmps55
  go_wp2
  go_loop [4, 3] (fun m s => ∃ (q : Int) (t : List UInt8), m = .int .i64 q ∧ s = .string ⟨t.toArray⟩ ∧ q.natAbs ≤ n.natAbs ∧ Lib.decDigits n.natAbs = Lib.decDigits q.natAbs ++ t) (fun m _ => (intOf m).natAbs)
  case atStart => exact ⟨n, [], rfl, rfl, Nat.le_refl _, by simp⟩
  case round =>
    obtain ⟨q, t, rfl, rfl, hq, ht⟩ := hrel
    have hl : t.length ≤ 20 := by have := congrArg List.length ht; simp at this; omega
    have hm : (q.tmod 10).natAbs = q.natAbs % 10 := Int.natAbs_tmod q 10
    have hv : (q.tdiv 10).natAbs = q.natAbs / 10 := Int.natAbs_tdiv q 10
    obtain ⟨d, hd⟩ : ∃ d : Nat, d = q.natAbs % 10 := ⟨_, rfl⟩
    have hd9 : (d : Int) + 1 ≤ 10 := by omega
    have e2 : wrap64 ((d : Int) + 1) = (d : Int) + 1 := wrap64_small (by omega) (by omega)
    have e3 : wrap64 (q.tdiv 10) = q.tdiv 10 := wrap64_small (by omega) (by omega)
    by_cases hs : q.tmod 10 < 0
    · have e1 : wrap64 (-q.tmod 10) = (d : Int) := by rw [wrap64_small (by omega) (by omega)]; omega
      have a1 : (-q.tmod 10).toNat = q.natAbs % 10 := by omega
      have a2 : (-q.tmod 10 + 1).toNat = q.natAbs % 10 + 1 := by omega
      go_wp2
      · have hz : q.tdiv 10 = 0 := by simpa using (show (q.tdiv 10 == 0) = true by assumption)
        have hn : n < 0 := by assumption
        rw [digit_cons (by omega), digits_last ht (by omega), itoa_neg hn rfl]
        go_ret
        exact ⟨rfl, rfl⟩
      · have hz : q.tdiv 10 = 0 := by simpa using (show (q.tdiv 10 == 0) = true by assumption)
        have hn : 0 ≤ n := by assumption
        rw [digit_cons (by omega), digits_last ht (by omega), itoa_pos hn rfl]
        go_ret
        exact ⟨rfl, rfl⟩
      · have hz : q.tdiv 10 ≠ 0 := by simpa using (show (q.tdiv 10 == 0) = false by assumption)
        refine ⟨⟨_, _, rfl, by rw [digit_cons (by omega)], by omega, ?_⟩, by simp only [intOf]; omega⟩
        rw [hv]; exact digits_next ht (by omega)
    · have e1 : q.tmod 10 = (d : Int) := by omega
      go_wp2
      · have hz : q.tdiv 10 = 0 := by simpa using (show (q.tdiv 10 == 0) = true by assumption)
        have hn : n < 0 := by assumption
        rw [digit_cons (by omega), digits_last ht (by omega), itoa_neg hn rfl]
        go_ret
        exact ⟨rfl, rfl⟩
      · have hz : q.tdiv 10 = 0 := by simpa using (show (q.tdiv 10 == 0) = true by assumption)
        have hn : 0 ≤ n := by assumption
        rw [digit_cons (by omega), digits_last ht (by omega), itoa_pos hn rfl]
        go_ret
        exact ⟨rfl, rfl⟩
      · have hz : q.tdiv 10 ≠ 0 := by simpa using (show (q.tdiv 10 == 0) = false by assumption)
        refine ⟨⟨_, _, rfl, by rw [digit_cons (by omega)], by omega, ?_⟩, by simp only [intOf]; omega⟩
        rw [hv]; exact digits_next ht (by omega)
end Go.Proofs
