/- Proved: the program's sum of bytes, whole or in pieces, and the document's own answer are one function. Conditions: no more than 2^40 bytes. -/
import Derived.Test.YtlfaalbkhfjpkaaDoorShb
set_option linter.unusedVariables false
set_option maxRecDepth 100000
namespace Go.Proofs.YtlfaalbkhfjpkaaDoor
open Go.RowKit

/-- SHA-256, as both sides compute it. -/
noncomputable def sumS (b : List Int) : List Int := outS (foldS ((padS b).length / 64) litH (padS b))
theorem sumS_len (b : List Int) : (sumS b).length = 32 := rfl
theorem litH_len : litH.length = 8 := rfl
theorem ref_wsum (b : List Int) (h : b.length ≤ 1099511627776) : FQuorumref6_Words_sum (litH ++ litK) b = some (sumS b) := by
  have hp := padS_len b
  have hz := zz_lt (b.length + 1)
  have hl : (padS b).length ≤ 140737488355328 := by unfold padS; simp [bytes8]; omega
  unfold FQuorumref6_Words_sum
  rw [padded_is b h, Option.bind_some, chk_t (show Nat.ble 8 (litH ++ litK).length = true from rfl), show fixl (litH ++ litK) 8 0 = litH from rfl, ref_loop _ _ ((padS b).length / 64) (by omega) hl rfl, Option.bind_some,
    out_loop _ (foldS_len _ _ _ rfl (by omega)), Option.bind_some, chk_t (show Nat.ble 32 (outS _).length = true from rfl)]
  rfl
/-- The program's hasher holds the sum so far of these bytes. -/
def HInv (all st rest : List Int) (n : Int) : Prop := st = foldS (all.length / 64) litH all ∧ rest = all.drop (64 * (all.length / 64)) ∧ n = (all.length : Int)
theorem hinv_new : HInv [] litH [] 0 := ⟨rfl, rfl, rfl⟩
theorem write_is {all st rest b : List Int} {n : Int} (h : HInv all st rest n) (hl : all.length + b.length ≤ 1099511627776) : ∃ st' rest' n', FSnap_Hasher_Write true st rest n b = some (st', rest', n') ∧ HInv (all ++ b) st' rest' n' := by
  obtain ⟨rfl, rfl, rfl⟩ := h
  have hr : (all.drop (64 * (all.length / 64)) ++ b) = (all ++ b).drop (64 * (all.length / 64)) := (List.drop_append_of_le_length (by omega)).symm
  have hd : ((all ++ b).drop (64 * (all.length / 64))).length = all.length + b.length - 64 * (all.length / 64) := by simp
  unfold FSnap_Hasher_Write
  rw [show (!true) = false from rfl, cond_false, chk_t (okl1 (by rw [hr, hd]; omega)), hr]
  simp only [bind1]
  rw [write_loop, Option.bind_some, chk_t (okl1 (by simp only [List.length_drop, List.length_append]; omega))]
  refine ⟨_, _, _, rfl, ?_, ?_, ?_⟩
  · simp only []
    rw [hd, ← foldS_app (all.length / 64) litH all b (by omega), ← foldS_add]
    congr 1
    rw [List.length_append]; omega
  · simp only []
    rw [hd, List.drop_drop]
    congr 1
    rw [List.length_append]; omega
  · rw [u64_id (show (0 : Int) ≤ ((b.length : Nat) : Int) by omega) (by omega), u64_id (by omega) (by omega)]
    simp
theorem sum_is {all st rest : List Int} {n : Int} (h : HInv all st rest n) (hl : all.length ≤ 1099511627776) : FSnap_Hasher_Sum true st rest n = some (sumS all) := by
  obtain ⟨rfl, rfl, rfl⟩ := h
  have hp := padS_len all
  have hz := zz_lt (all.length + 1)
  have hd : (all.drop (64 * (all.length / 64))).length = all.length - 64 * (all.length / 64) := by simp
  have ez : zz ((all.drop (64 * (all.length / 64)) ++ [128]).length) = zz (all.length + 1) := by simp only [List.length_append, hd]; unfold zz; simp; omega
  have ep : (all.drop (64 * (all.length / 64)) ++ [128] ++ List.replicate (zz (all.length + 1)) 0 ++ bytes8 all.length) = (padS all).drop (64 * (all.length / 64)) := by
    unfold padS
    rw [List.drop_append_of_le_length (by omega)]
    simp
  unfold FSnap_Hasher_Sum
  rw [show (!true) = false from rfl, cond_false, chk_t (okl1 (by omega)), chk_t (okl1 (by simp; omega)), show FSnap_Hasher_Sum_L36 = FQuorumref6_padded_L31 from rfl, zero_loop _ (by simp; omega), Option.bind_some, ez, len_loop2 _ _ (by simp; omega), Option.bind_some, ep,
    sum_loop _ _ ((padS all).length / 64 - all.length / 64) (by
      have : (padS all).length = all.length + (1 + (zz (all.length + 1) + 8)) := by unfold padS; simp [bytes8]; omega
      rw [List.length_drop]; omega), Option.bind_some]
  have hle : all.length ≤ (padS all).length := by unfold padS; simp
  have e2 : foldS ((padS all).length / 64 - all.length / 64) (foldS (all.length / 64) litH all) ((padS all).drop (64 * (all.length / 64))) = foldS ((padS all).length / 64) litH (padS all) := by
    have : foldS (all.length / 64) litH (padS all) = foldS (all.length / 64) litH all := by unfold padS; rw [foldS_app _ _ _ _ (by omega)]
    rw [← this, ← foldS_add]
    congr 1
    omega
  rw [e2]
  rfl
theorem joined_is (a b : List Int) (h : a.length + b.length ≤ 1099511627776) : FSnap_joined a b = some (sumS (a ++ b)) := by
  unfold FSnap_joined
  obtain ⟨st, rest, n, hw, hi⟩ := write_is (b := a) hinv_new (by simp; omega)
  obtain ⟨st', rest', n', hw', hi'⟩ := write_is (b := b) hi (by simpa using h)
  rw [show FSnap_New = some litH from rfl, Option.bind_some, hw, Option.bind_some, hw', Option.bind_some, sum_is hi' (by simpa using h)]
  simp
theorem joined2_is (a b c : List Int) (h : a.length + b.length + c.length ≤ 1099511627776) : FSnap_joined2 a b c = some (sumS (a ++ b ++ c)) := by
  unfold FSnap_joined2
  obtain ⟨st, rest, n, hw, hi⟩ := write_is (b := a) hinv_new (by simp; omega)
  obtain ⟨st', rest', n', hw', hi'⟩ := write_is (b := b) hi (by simp; omega)
  obtain ⟨st'', rest'', n'', hw'', hi''⟩ := write_is (b := c) hi' (by simp; omega)
  rw [show FSnap_New = some litH from rfl, Option.bind_some, hw, Option.bind_some, hw', Option.bind_some, hw'', Option.bind_some, sum_is hi'' (by simp; omega)]
  simp
theorem eqA_refl : ∀ (n k : Nat) (xs : List Int), eqA n k xs xs = true
  | 0, _, _ => rfl
  | n + 1, k, xs => by unfold eqA; rw [eqA_refl n]; simp
end Go.Proofs.YtlfaalbkhfjpkaaDoor
