/- Proved: the program's tree of chunks and that of the document's own answer are one function; the errors tell alike. Conditions: no more than 48,000 bytes where a length is asked. -/
import Derived.Test.YtlfaalbkhfjpkaaDoorShc
set_option linter.unusedVariables false
set_option maxRecDepth 100000
namespace Go.Proofs.YtlfaalbkhfjpkaaDoor
open Go.RowKit

def nC (len : Nat) : Nat := if len = 0 then 1 else (len + 1023) / 1024
theorem chunks_eq (s : Int) (h0 : -9223372036854775808 ≤ s) (h1 : s ≤ 9223372036854775807) : ∃ v, FSnap_Chunks s = some v ∧ FQuorumref6_Chunks s = some v ∧ (0 ≤ s → v = (nC s.toNat : Int)) := by
  unfold FSnap_Chunks FQuorumref6_Chunks
  by_cases hs : s < 0
  · rw [decide_eq_true hs, cond_true, cond_true]
    exact ⟨0, rfl, rfl, fun h => by omega⟩
  rw [decide_eq_false hs, cond_false, cond_false]
  by_cases hz : s = 0
  · subst hz
    exact ⟨1, rfl, rfl, fun _ => rfl⟩
  have hb : (s == 0) = false := by simpa using hz
  rw [hb, cond_false, IntWalk.rem_in s 1024 (by omega), Int.tdiv_eq_ediv_of_nonneg (by omega), i64_id (show -9223372036854775808 ≤ s / 1024 by omega) (by omega)]
  have hn : (nC s.toNat : Int) = (s + 1023) / 1024 := by unfold nC; rw [if_neg (by omega)]; omega
  by_cases hr : s % 1024 = 0
  · rw [hr, show (if (0 : Int) < 1 then (0 : Int) else 1) = 0 from rfl, Int.add_zero, i64_id (show -9223372036854775808 ≤ s / 1024 by omega) (by omega), show ((0 : Int) != 0) = false from rfl, cond_false, Option.bind_some]
    refine ⟨s / 1024, ?_, rfl, fun _ => by rw [hn]; omega⟩
    congr 1
    split <;> omega
  · rw [show (if s % 1024 < 1 then s % 1024 else 1) = 1 from if_neg (by omega), i64_id (show -9223372036854775808 ≤ s / 1024 + 1 by omega) (by omega), show (s % 1024 != 0) = true by simpa using hr, cond_true, Option.bind_some]
    refine ⟨s / 1024 + 1, ?_, rfl, fun _ => by rw [hn]; omega⟩
    congr 1
    split <;> omega
theorem lies_is (len i : Nat) (hl : len ≤ 48000) (hi : i < 48) : FSnap_lies (len : Int) (i : Int) = some (((1024 * i : Nat) : Int), ((min len (1024 * (i + 1)) : Nat) : Int)) := by
  unfold FSnap_lies
  rw [i64_id (show -9223372036854775808 ≤ (i : Int) * 1024 by omega) (by omega), i64_id (show -9223372036854775808 ≤ (i : Int) + 1 by omega) (by omega), i64_id (show -9223372036854775808 ≤ ((i : Int) + 1) * 1024 by omega) (by omega)]
  congr 2
  · omega
  · split <;> omega
/-! Sums of leaves and rows -/
theorem leaf_is (c : List Int) (h : c.length ≤ 100000) : FSnap_leaf c = some (sumS ([0] ++ c)) := by
  unfold FSnap_leaf
  rw [joined_is _ _ (by simp; omega)]; rfl
theorem leafb_is (c : List Int) (h : c.length ≤ 100000) : FQuorumref6_LeafBytes c = some ([0] ++ c) := by
  unfold FQuorumref6_LeafBytes
  rw [show FQuorumref6_LeafBytes_L8 c = cpStep c from rfl, cp_loop [0] c (by simp; omega)]; rfl
theorem fixl_app (pre : List Int) : ∀ (xs pre : List Int), fixl (pre ++ xs) xs.length pre.length = xs
  | [], pre => rfl
  | x :: xs, pre => by
    show el (pre ++ x :: xs) pre.length :: fixl (pre ++ x :: xs) xs.length (pre.length + 1) = x :: xs
    have h1 : el (pre ++ x :: xs) pre.length = x := by rw [el_get (by simp)]; simp
    have h2 := fixl_app pre xs (pre ++ [x])
    rw [h1]
    congr 1
    simpa using h2
theorem fixl_id (xs : List Int) (n : Nat) (h : xs.length = n) : fixl xs n 0 = xs := by
  subst h
  have := fixl_app [] xs []
  simpa using this
theorem pair_is (l r : List Int) (hl : l.length = 32) (hr : r.length = 32) : FSnap_pair l r = some (sumS ([1] ++ l ++ r)) := by
  unfold FSnap_pair
  have e1 := fixl_id l 32 hl
  have e2 := fixl_id r 32 hr
  show (FSnap_joined2 [1] (fixl l 32 0) (fixl r 32 0)).bind (fun y => some y) = _
  rw [e1, e2, joined2_is _ _ _ (by simp; omega)]; rfl
theorem row_loop (a pre : List Int) (ha : a.length = 32) (hp : pre.length ≤ 1000) : loop (FQuorumref6_RowBytes_L20 a) (pre, 0) = some (pre ++ a) := by
  refine loop_to (fun (x : List Int × Int) => ∃ k : Nat, k ≤ 32 ∧ x = (pre ++ a.take k, (k : Int))) (fun x => 32 - x.2.toNat) _ ?_ ⟨0, by omega, by simp⟩
  rintro x ⟨k, hk, rfl⟩
  unfold FQuorumref6_RowBytes_L20
  simp only [fixl_id a 32 ha]
  by_cases hc : k < 32
  · refine .inl ⟨(pre ++ a.take (k + 1), ((k + 1 : Nat) : Int)), ?_, ⟨k + 1, by omega, rfl⟩, by simp; omega⟩
    rw [decide_eq_true (show (k : Int) < 32 by omega), cond_true, chk_t (by rw [inb_t (by omega) (by omega), inb_t (by omega) (by omega)]; rfl), chk_t (okl1 (by simp; omega)), i64_id (show -9223372036854775808 ≤ (k : Int) + 1 by omega) (by omega), Int.toNat_natCast, List.append_assoc, take_el (by omega)]
    rfl
  · refine .inr ?_
    have : k = 32 := by omega
    subst this
    rw [show decide (((32 : Nat) : Int) < 32) = false from rfl, cond_false, List.take_of_length_le (by omega)]
theorem rowb_is (a b : List Int) (ha : a.length = 32) (hb : b.length = 32) : FQuorumref6_RowBytes a b = some ([1] ++ a ++ b) := by
  unfold FQuorumref6_RowBytes
  rw [row_loop a [1] ha (by simp), Option.bind_some, show FQuorumref6_RowBytes_L35 b = FQuorumref6_RowBytes_L20 b from rfl, row_loop b _ hb (by simp; omega)]; rfl
theorem half_is (n : Nat) (h : 2 ≤ n) (hn : n ≤ 1000) : ∃ k : Nat, 1 ≤ k ∧ k < n ∧ FSnap_half (n : Int) = some (k : Int) ∧ FQuorumref6_Half (n : Int) = some (k : Int) := by
  have e : FQuorumref6_Half_L3 (n : Int) = FSnap_half_L3 (n : Int) := by
    funext x; unfold FQuorumref6_Half_L3 FSnap_half_L3; rw [Int.mul_comm 2 x]
  obtain ⟨y, hy, k, hk1, hk2, rfl⟩ := loop_inv (step := FSnap_half_L3 (n : Int)) (x := 1) (fun x => ∃ k : Nat, 1 ≤ k ∧ k < n ∧ x = (k : Int)) (fun x => n - x.toNat) (fun y => ∃ k : Nat, 1 ≤ k ∧ k < n ∧ y = (k : Int)) (by
    rintro x ⟨k, h1, h2, rfl⟩
    unfold FSnap_half_L3
    rw [i64_id (show -9223372036854775808 ≤ 2 * (k : Int) by omega) (by omega), i64_id (show -9223372036854775808 ≤ (k : Int) * 2 by omega) (by omega)]
    by_cases hc : 2 * (k : Int) < (n : Int)
    · rw [decide_eq_true hc, cond_true]
      exact .inl ⟨((2 * k : Nat) : Int), by congr 2; omega, ⟨2 * k, by omega, by omega, rfl⟩, by simp; omega⟩
    · rw [decide_eq_false hc, cond_false]
      exact .inr ⟨(k : Int), rfl, k, h1, h2, rfl⟩) ⟨1, by omega, by omega, rfl⟩
  refine ⟨k, hk1, hk2, ?_, ?_⟩
  · unfold FSnap_half; rw [hy]; rfl
  · unfold FQuorumref6_Half; rw [e, hy]; rfl
theorem nC_le (len : Nat) (h : len ≤ 48000) : nC len ≤ 47 := by unfold nC; split <;> omega
theorem nC_in (len i : Nat) (h : i < nC len) : 1024 * i ≤ len := by unfold nC at h; split at h <;> omega
end Go.Proofs.YtlfaalbkhfjpkaaDoor
