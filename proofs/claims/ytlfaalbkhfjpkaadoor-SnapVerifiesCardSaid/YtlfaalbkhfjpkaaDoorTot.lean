/- Proved: the block step has an answer for every 64 bytes. Conditions: none. -/
import Derived.Test.YtlfaalbkhfjpkaaDoorBlk
set_option linter.unusedVariables false
set_option maxRecDepth 100000
namespace Go.Proofs.YtlfaalbkhfjpkaaDoor
open Go.RowKit

theorem u64_nn (n : Int) : 0 ≤ IntKind.u64.wrap n := by rw [IntKind.wrap_u64]; omega
theorem turn_some (x n : Int) : ∃ y, FSnap_turn x n = some y := by
  unfold FSnap_turn FBits_RotateLeft32
  rw [chk_t (decide_eq_true (show 0 ≤ bAnd .u64 (IntKind.u64.wrap (IntKind.i64.wrap (0 - n))) 31 from u64_nn _)), chk_t (decide_eq_true (u64_nn _))]
  exact ⟨_, rfl⟩
theorem L9_some (b : List Int) (hb : 64 ≤ b.length) : ∃ y, loop (FSnap_Hasher_block_L9 b) (0, List.replicate 64 0) = some y ∧ y.length = 64 := by
  refine loop_inv (fun (x : Int × List Int) => ∃ k : Nat, k ≤ 16 ∧ x.1 = k ∧ x.2.length = 64) (fun (x : Int × List Int) => 16 - x.1.toNat) (fun (y : List Int) => y.length = 64) ?_ ⟨0, by omega, rfl, by simp⟩
  rintro ⟨i, w⟩ ⟨k, hk, hi, hw⟩
  simp only at hi hw
  subst hi
  by_cases hl : k < 16
  · refine .inl ?_
    unfold FSnap_Hasher_block_L9
    rw [show decide ((k : Int) < 16) = true from decide_eq_true (by omega), cond_true]
    simp only [i64_id (show -9223372036854775808 ≤ 4 * (k : Int) by omega) (by omega), i64_id (show -9223372036854775808 ≤ 4 * (k : Int) + 1 by omega) (by omega), i64_id (show -9223372036854775808 ≤ 4 * (k : Int) + 2 by omega) (by omega), i64_id (show -9223372036854775808 ≤ 4 * (k : Int) + 3 by omega) (by omega), i64_id (show -9223372036854775808 ≤ (k : Int) + 1 by omega) (by omega)]
    rw [chk_t (inb_t (by omega) (by omega)), chk_t (inb_t (by omega) (by omega)), chk_t (inb_t (by omega) (by omega)), chk_t (inb_t (by omega) (by omega)), chk_t (by rw [inb_t (by omega) (by omega), inb_t (by omega) (by omega)]; rfl)]
    exact ⟨_, rfl, ⟨k + 1, by omega, by simp, by simp [hw]⟩, by simp; omega⟩
  · refine .inr ⟨w, ?_, hw⟩
    unfold FSnap_Hasher_block_L9
    rw [show decide ((k : Int) < 16) = false by simp; omega, cond_false]
theorem L24_some (w : List Int) (hw : w.length = 64) : ∃ y, loop FSnap_Hasher_block_L24 (16, w) = some y ∧ y.length = 64 := by
  refine loop_inv (fun (x : Int × List Int) => ∃ k : Nat, 16 ≤ k ∧ k ≤ 64 ∧ x.1 = k ∧ x.2.length = 64) (fun (x : Int × List Int) => 64 - x.1.toNat) (fun (y : List Int) => y.length = 64) ?_ ⟨16, by omega, by omega, rfl, hw⟩
  rintro ⟨i, w⟩ ⟨k, hk0, hk, hi, hw⟩
  simp only at hi hw
  subst hi
  by_cases hl : k < 64
  · refine .inl ?_
    unfold FSnap_Hasher_block_L24
    rw [show decide ((k : Int) < 64) = true from decide_eq_true (by omega), cond_true]
    simp only [i64_id (show -9223372036854775808 ≤ (k : Int) - 15 by omega) (by omega), i64_id (show -9223372036854775808 ≤ (k : Int) - 2 by omega) (by omega), i64_id (show -9223372036854775808 ≤ (k : Int) - 16 by omega) (by omega), i64_id (show -9223372036854775808 ≤ (k : Int) - 7 by omega) (by omega), i64_id (show -9223372036854775808 ≤ (k : Int) + 1 by omega) (by omega)]
    have hi2 : ∀ j : Int, 0 ≤ j → j < 64 → (inb j 64 && inb j w.length) = true := fun j h0 h1 => by rw [inb_t h0 (by omega), inb_t h0 (by omega)]; rfl
    rw [chk_t (hi2 _ (by omega) (by omega)), chk_t (hi2 _ (by omega) (by omega)), chk_t (hi2 _ (by omega) (by omega)), chk_t (hi2 _ (by omega) (by omega))]
    obtain ⟨a, ha⟩ := turn_some (el w ((k : Int) - 15).toNat) 7
    obtain ⟨b, hb⟩ := turn_some (el w ((k : Int) - 15).toNat) 18
    obtain ⟨c, hc⟩ := turn_some (el w ((k : Int) - 2).toNat) 17
    obtain ⟨d, hd⟩ := turn_some (el w ((k : Int) - 2).toNat) 19
    simp only [ha, hb, hc, hd, Option.bind_some]
    rw [chk_t (hi2 _ (by omega) (by omega))]
    exact ⟨_, rfl, ⟨k + 1, by omega, by omega, by simp, by simp [hw]⟩, by simp; omega⟩
  · refine .inr ⟨w, ?_, hw⟩
    unfold FSnap_Hasher_block_L24
    rw [show decide ((k : Int) < 64) = false by simp; omega, cond_false]
theorem L47_some (y s : List Int) (hy : y.length = 64) : ∃ r, loop (FSnap_Hasher_block_L47 y litK) (0, s) = some r ∧ True := by
  refine loop_inv (fun (x : Int × List Int) => ∃ k : Nat, k ≤ 64 ∧ x.1 = k) (fun (x : Int × List Int) => 64 - x.1.toNat) (fun (_ : List Int) => True) ?_ ⟨0, by omega, rfl⟩
  rintro ⟨i, w⟩ ⟨k, hk, hi⟩
  simp only at hi
  subst hi
  by_cases hl : k < 64
  · refine .inl ?_
    unfold FSnap_Hasher_block_L47
    rw [show decide ((k : Int) < 64) = true from decide_eq_true (by omega), cond_true]
    rw [chk_t (by rw [inb_t (by omega) (by omega), inb_t (by omega) (by rw [show litK.length = 64 from rfl]; omega)]; rfl), chk_t (by rw [inb_t (by omega) (by omega), inb_t (by omega) (by omega)]; rfl)]
    obtain ⟨a, ha⟩ := turn_some (el w 4) 6
    obtain ⟨b, hb⟩ := turn_some (el w 4) 11
    obtain ⟨c, hc⟩ := turn_some (el w 4) 25
    obtain ⟨d, hd⟩ := turn_some (el w 0) 2
    obtain ⟨e, he⟩ := turn_some (el w 0) 13
    obtain ⟨f, hf⟩ := turn_some (el w 0) 22
    simp only [ha, hb, hc, hd, he, hf, Option.bind_some, bind1, i64_id (show -9223372036854775808 ≤ (k : Int) + 1 by omega) (by omega)]
    exact ⟨_, rfl, ⟨k + 1, by omega, by simp⟩, by simp; omega⟩
  · refine .inr ⟨w, ?_, trivial⟩
    unfold FSnap_Hasher_block_L47
    rw [show decide ((k : Int) < 64) = false by simp; omega, cond_false]
theorem blk_some (h b : List Int) (hb : 64 ≤ b.length) : ∃ s, FSnap_Hasher_block false h 0 b = some s ∧ s.length = 8 := by
  obtain ⟨y, hy, hl⟩ := L9_some b hb
  obtain ⟨z, hz, hm⟩ := L24_some y hl
  obtain ⟨s, hs, _⟩ := L47_some z h hm
  unfold FSnap_Hasher_block
  rw [hy, Option.bind_some, hz, Option.bind_some, show FSnap_rounds = some litK from rfl, Option.bind_some]
  simp only [bind1, show fixl litK 64 0 = litK from rfl]
  rw [hs]
  exact ⟨_, rfl, rfl⟩
/-- The state behind a block. -/
noncomputable def blkS (h b : List Int) : List Int := (FSnap_Hasher_block false h 0 b).getD []
theorem blk_is (m : Bool) (n : Int) (h b : List Int) (hb : 64 ≤ b.length) : FSnap_Hasher_block m h n b = some (blkS h b) := by
  obtain ⟨s, hs, _⟩ := blk_some h b hb
  unfold blkS
  rw [show FSnap_Hasher_block m h n b = FSnap_Hasher_block false h 0 b from rfl, hs]; rfl
theorem blk_len (h b : List Int) (hb : 64 ≤ b.length) : (blkS h b).length = 8 := by
  obtain ⟨s, hs, hl⟩ := blk_some h b hb
  unfold blkS; rw [hs]; exact hl
end Go.Proofs.YtlfaalbkhfjpkaaDoor
