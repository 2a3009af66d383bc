/- Proved: the program's sum of bytes, whole or in pieces, and the document's own answer are one function. Conditions: no more than 2^40 bytes. -/
import Derived.Test.YtlfaalbkhfjpkaaDoorTot
set_option linter.unusedVariables false
set_option maxRecDepth 100000
namespace Go.Proofs.YtlfaalbkhfjpkaaDoor
open Go.RowKit

/-- The state behind n blocks. -/
noncomputable def foldS : Nat → List Int → List Int → List Int
  | 0, h, _ => h
  | n + 1, h, b => foldS n (blkS h (b.take 64)) (b.drop 64)
theorem foldS_add (m n : Nat) : ∀ (h b : List Int), foldS (m + n) h b = foldS n (foldS m h b) (b.drop (64 * m)) := by
  induction m with
  | zero => intro h b; simp [foldS]
  | succ m ih =>
    intro h b
    rw [show m + 1 + n = (m + n) + 1 by omega]
    show foldS (m + n) (blkS h (b.take 64)) (b.drop 64) = foldS n (foldS m (blkS h (b.take 64)) (b.drop 64)) (b.drop (64 * (m + 1)))
    rw [ih, List.drop_drop, show 64 + 64 * m = 64 * (m + 1) by omega]
theorem foldS_succ (n : Nat) (h b : List Int) : foldS (n + 1) h b = blkS (foldS n h b) ((b.drop (64 * n)).take 64) := by rw [foldS_add]; rfl
theorem foldS_app (n : Nat) : ∀ (h b c : List Int), 64 * n ≤ b.length → foldS n h (b ++ c) = foldS n h b := by
  induction n with
  | zero => intro h b c _; rfl
  | succ n ih =>
    intro h b c hl
    unfold foldS
    rw [List.take_append_of_le_length (by omega), List.drop_append_of_le_length (by omega), ih _ _ _ (by rw [List.length_drop]; omega)]
theorem foldS_len (n : Nat) (h b : List Int) (hh : h.length = 8) (hl : 64 * n ≤ b.length) : (foldS n h b).length = 8 := by
  cases n with
  | zero => exact hh
  | succ n => rw [foldS_succ]; exact blk_len _ _ (by rw [List.length_take, List.length_drop]; omega)

/-! Padding -/
def zz (m : Nat) : Nat := (120 - m % 64) % 64
theorem zz_is (m : Nat) : (m + zz m) % 64 = 56 := by unfold zz; omega
theorem zz_lt (m : Nat) : zz m < 64 := by unfold zz; omega
theorem zero_loop (a : List Int) (h : a.length + 64 ≤ 140737488355328) : loop FQuorumref6_padded_L31 a = some (a ++ List.replicate (zz a.length) 0) := by
  refine loop_to (fun (x : List Int) => ∃ k, k ≤ zz a.length ∧ x = a ++ List.replicate k 0) (fun x => a.length + zz a.length - x.length) _ ?_ ⟨0, by omega, by simp⟩
  rintro x ⟨k, hk, rfl⟩
  have hz := zz_is a.length
  have hz2 := zz_lt a.length
  have e : Int.tmod (((a ++ List.replicate k (0 : Int)).length : Nat) : Int) 64 = (((a.length + k) % 64 : Nat) : Int) := by
    rw [IntWalk.rem_in _ _ (by omega)]; simp
  by_cases hl : k < zz a.length
  · refine .inl ⟨a ++ List.replicate (k + 1) 0, ?_, ⟨k + 1, by omega, rfl⟩, by simp; omega⟩
    unfold FQuorumref6_padded_L31
    rw [e, show ((((a.length + k) % 64 : Nat) : Int) != 56) = true by simp; omega, cond_true, chk_t (okl1 (by simp; omega)), List.append_assoc, ← List.replicate_succ']
  · refine .inr ?_
    have : k = zz a.length := by omega
    subst this
    unfold FQuorumref6_padded_L31
    rw [e, hz]; rfl
def bytes8 (n : Nat) : List Int := [IntKind.u8.wrap (shrV .u64 (IntKind.u64.wrap (8 * (n : Int))) 56), IntKind.u8.wrap (shrV .u64 (IntKind.u64.wrap (8 * (n : Int))) 48), IntKind.u8.wrap (shrV .u64 (IntKind.u64.wrap (8 * (n : Int))) 40), IntKind.u8.wrap (shrV .u64 (IntKind.u64.wrap (8 * (n : Int))) 32), IntKind.u8.wrap (shrV .u64 (IntKind.u64.wrap (8 * (n : Int))) 24), IntKind.u8.wrap (shrV .u64 (IntKind.u64.wrap (8 * (n : Int))) 16), IntKind.u8.wrap (shrV .u64 (IntKind.u64.wrap (8 * (n : Int))) 8), IntKind.u8.wrap (shrV .u64 (IntKind.u64.wrap (8 * (n : Int))) 0)]
theorem len_loop (b a : List Int) (h : a.length + 8 ≤ 140737488355328) (hb : b.length ≤ 140737488355328) : loop (FQuorumref6_padded_L46 b) (a, 7) = some (a ++ bytes8 b.length) := by
  refine loop_to (fun (x : List Int × Int) => ∃ k : Nat, k ≤ 8 ∧ x = (a ++ (bytes8 b.length).take k, 7 - (k : Int))) (fun x => (x.2 + 1).toNat) _ ?_ ⟨0, by omega, by simp⟩
  rintro x ⟨k, hk, rfl⟩
  by_cases hl : k < 8
  · refine .inl ⟨(a ++ (bytes8 b.length).take (k + 1), 7 - ((k + 1 : Nat) : Int)), ?_, ⟨k + 1, by omega, rfl⟩, by simp; omega⟩
    unfold FQuorumref6_padded_L46
    simp only []
    rw [show decide ((7 : Int) - (k : Int) ≥ 0) = true from decide_eq_true (by omega), cond_true, i64_id (show -9223372036854775808 ≤ (8 : Int) * (7 - (k : Int)) by omega) (by omega), u64_id (show 0 ≤ (8 : Int) * (7 - (k : Int)) by omega) (by omega),
      u64_id (show (0 : Int) ≤ ((b.length : Nat) : Int) by omega) (by omega), i64_id (show -9223372036854775808 ≤ (7 : Int) - (k : Int) - 1 by omega) (by omega), chk_t (decide_eq_true (by omega)), chk_t (okl1 (by simp; omega))]
    simp only [bind1]
    have : (bytes8 b.length).take (k + 1) = (bytes8 b.length).take k ++ [IntKind.u8.wrap (shrV .u64 (IntKind.u64.wrap (8 * ((b.length : Nat) : Int))) (8 * (7 - (k : Int))))] := by
      have hk : k = 0 ∨ k = 1 ∨ k = 2 ∨ k = 3 ∨ k = 4 ∨ k = 5 ∨ k = 6 ∨ k = 7 := by omega
      rcases hk with rfl | rfl | rfl | rfl | rfl | rfl | rfl | rfl <;> rfl
    rw [this, List.append_assoc, show (7 : Int) - (k : Int) - 1 = 7 - ((k + 1 : Nat) : Int) by omega]
  · refine .inr ?_
    have : k = 8 := by omega
    subst this
    rfl
theorem len_loop2 (n : Nat) (a : List Int) (h : a.length + 8 ≤ 140737488355328) : loop (FSnap_Hasher_Sum_L51 (n : Int)) (a, 56) = some (a ++ bytes8 n) := by
  refine loop_to (fun (x : List Int × Int) => ∃ k : Nat, k ≤ 8 ∧ x = (a ++ (bytes8 n).take k, 56 - 8 * (k : Int))) (fun x => (x.2 + 8).toNat) _ ?_ ⟨0, by omega, by simp⟩
  rintro x ⟨k, hk, rfl⟩
  by_cases hl : k < 8
  · refine .inl ⟨(a ++ (bytes8 n).take (k + 1), 56 - 8 * ((k + 1 : Nat) : Int)), ?_, ⟨k + 1, by omega, rfl⟩, by simp; omega⟩
    unfold FSnap_Hasher_Sum_L51
    simp only []
    rw [show decide ((56 : Int) - 8 * (k : Int) ≥ 0) = true from decide_eq_true (by omega), cond_true, u64_id (show 0 ≤ (56 : Int) - 8 * (k : Int) by omega) (by omega),
      i64_id (show -9223372036854775808 ≤ (56 : Int) - 8 * (k : Int) - 8 by omega) (by omega), chk_t (decide_eq_true (by omega)), chk_t (okl1 (by simp; omega))]
    simp only [bind1]
    have : (bytes8 n).take (k + 1) = (bytes8 n).take k ++ [IntKind.u8.wrap (shrV .u64 (IntKind.u64.wrap (8 * (n : Int))) (56 - 8 * (k : Int)))] := by
      have hk : k = 0 ∨ k = 1 ∨ k = 2 ∨ k = 3 ∨ k = 4 ∨ k = 5 ∨ k = 6 ∨ k = 7 := by omega
      rcases hk with rfl | rfl | rfl | rfl | rfl | rfl | rfl | rfl <;> rfl
    rw [this, List.append_assoc, show (56 : Int) - 8 * (k : Int) - 8 = 56 - 8 * ((k + 1 : Nat) : Int) by omega]
  · refine .inr ?_
    have : k = 8 := by omega
    subst this
    rfl
/-- The bytes with what follows them. -/
def padS (b : List Int) : List Int := b ++ ([128] ++ (List.replicate (zz (b.length + 1)) 0 ++ bytes8 b.length))
theorem padS_len (b : List Int) : (padS b).length % 64 = 0 := by
  have := zz_is (b.length + 1)
  unfold padS; simp [bytes8]; omega
theorem padded_is (b : List Int) (h : b.length ≤ 1099511627776) : FQuorumref6_padded b = some (padS b) := by
  unfold FQuorumref6_padded
  have := zz_lt (b.length + 1)
  rw [show FQuorumref6_padded_L3 b = cpStep b from rfl, cp_loop [] b (by simp; omega), Option.bind_some, List.nil_append, chk_t (okl1 (by simp; omega)), zero_loop _ (by simp; omega), Option.bind_some, len_loop _ _ (by simp; omega) (by omega), Option.bind_some]
  unfold padS; simp
theorem fixl8 (y : List Int) (h : y.length = 8) : fixl y 8 0 = y := by
  rcases y with _ | ⟨a, _ | ⟨b, _ | ⟨c, _ | ⟨d, _ | ⟨e, _ | ⟨f, _ | ⟨g, _ | ⟨i, _ | ⟨j, y⟩⟩⟩⟩⟩⟩⟩⟩⟩ <;> first | rfl | (simp at h; done) | (simp at h; omega)
theorem ref_loop (l h : List Int) (q : Nat) (hq : l.length = 64 * q) (hb : l.length ≤ 140737488355328) (hh : h.length = 8) : loop (FQuorumref6_Words_sum_L30 (litH ++ litK) l) (0, h) = some (foldS q h l) := by
  refine loop_to (fun (x : Int × List Int) => ∃ k : Nat, k ≤ q ∧ x = (((64 * k : Nat) : Int), foldS k h l)) (fun x => l.length - x.1.toNat) _ ?_ ⟨0, by omega, rfl⟩
  rintro x ⟨k, hk, rfl⟩
  have hf : (foldS k h l).length = 8 := foldS_len k h l hh (by omega)
  unfold FQuorumref6_Words_sum_L30
  simp only []
  rw [i64_id (show -9223372036854775808 ≤ ((64 * k : Nat) : Int) + 64 by omega) (by omega)]
  by_cases hl : k < q
  · refine .inl ⟨(((64 * (k + 1) : Nat) : Int), foldS (k + 1) h l), ?_, ⟨k + 1, by omega, rfl⟩, by simp; omega⟩
    rw [show decide (((64 * k : Nat) : Int) + 64 ≤ ((l.length : Nat) : Int)) = true from decide_eq_true (by omega), cond_true, chk_t (by rw [hf]; rfl), chk_t (inc_t (by omega) (by omega) (by omega)), blk_eq true 0, blk_is _ _ _ _ (by simp; omega), Option.bind_some]
    have e : foldS (k + 1) h l = blkS (foldS k h l) ((l.drop ((64 * k : Nat) : Int).toNat).take ((((64 * k : Nat) : Int) + 64).toNat - ((64 * k : Nat) : Int).toNat)) := by
      rw [foldS_succ, Int.toNat_natCast, show (((64 * k : Nat) : Int) + 64).toNat - 64 * k = 64 by omega]
    rw [← e, fixl8 _ (foldS_len _ _ _ hh (by omega)), chk_t (by rw [hf, foldS_len _ _ _ hh (by omega)]; rfl), show ((64 * k : Nat) : Int) + 64 = ((64 * (k + 1) : Nat) : Int) by omega]
  · refine .inr ?_
    have : k = q := by omega
    subst this
    rw [show decide (((64 * k : Nat) : Int) + 64 ≤ ((l.length : Nat) : Int)) = false from decide_eq_false (by omega), cond_false]
theorem sum_loop (l h : List Int) (q : Nat) (hq : l.length = 64 * q) : loop FSnap_Hasher_Sum_L74 (l, h) = some (foldS q h l) := by
  refine loop_to (fun (x : List Int × List Int) => ∃ k : Nat, k ≤ q ∧ x = (l.drop (64 * k), foldS k h l)) (fun x => x.1.length) _ ?_ ⟨0, by omega, by simp [foldS]⟩
  rintro x ⟨k, hk, rfl⟩
  unfold FSnap_Hasher_Sum_L74
  simp only []
  by_cases hl : k < q
  · refine .inl ⟨(l.drop (64 * (k + 1)), foldS (k + 1) h l), ?_, ⟨k + 1, by omega, rfl⟩, by simp; omega⟩
    rw [show decide ((((l.drop (64 * k)).length : Nat) : Int) > 0) = true from decide_eq_true (by simp; omega), cond_true, chk_t (inc_t (by omega) (by omega) (by simp; omega)), blk_is _ _ _ _ (by simp; omega), Option.bind_some, chk_t (inc_t (by omega) (by omega) (by simp; omega)), foldS_succ, List.drop_drop]
    rfl
  · refine .inr ?_
    have : k = q := by omega
    subst this
    rw [show decide ((((l.drop (64 * k)).length : Nat) : Int) > 0) = false from decide_eq_false (by simp; omega), cond_false]
theorem write_loop (m : Bool) (v : Int) (l h : List Int) : loop (FSnap_Hasher_Write_L23 m v) (h, l) = some (foldS (l.length / 64) h l, l.drop (64 * (l.length / 64))) := by
  refine loop_to (fun (x : List Int × List Int) => ∃ k : Nat, k ≤ l.length / 64 ∧ x = (foldS k h l, l.drop (64 * k))) (fun x => x.2.length) _ ?_ ⟨0, by omega, by simp [foldS]⟩
  rintro x ⟨k, hk, rfl⟩
  unfold FSnap_Hasher_Write_L23
  simp only []
  by_cases hl : k < l.length / 64
  · refine .inl ⟨(foldS (k + 1) h l, l.drop (64 * (k + 1))), ?_, ⟨k + 1, by omega, rfl⟩, by simp; omega⟩
    rw [show decide ((((l.drop (64 * k)).length : Nat) : Int) ≥ 64) = true from decide_eq_true (by simp; omega), cond_true, chk_t (inc_t (by omega) (by omega) (by simp; omega)), blk_is _ _ _ _ (by simp; omega), Option.bind_some, chk_t (inc_t (by omega) (by omega) (by simp; omega)), foldS_succ, List.drop_drop]
    rfl
  · refine .inr ?_
    have : k = l.length / 64 := by omega
    subst this
    rw [show decide ((((l.drop (64 * (l.length / 64))).length : Nat) : Int) ≥ 64) = false from decide_eq_false (by simp; omega), cond_false]
/-- The sum out of the last state. -/
def outS (y : List Int) : List Int := [IntKind.u8.wrap (Int.fdiv (el y 0) 16777216), IntKind.u8.wrap (Int.fdiv (el y 0) 65536), IntKind.u8.wrap (Int.fdiv (el y 0) 256), IntKind.u8.wrap (el y 0), IntKind.u8.wrap (Int.fdiv (el y 1) 16777216), IntKind.u8.wrap (Int.fdiv (el y 1) 65536), IntKind.u8.wrap (Int.fdiv (el y 1) 256), IntKind.u8.wrap (el y 1), IntKind.u8.wrap (Int.fdiv (el y 2) 16777216), IntKind.u8.wrap (Int.fdiv (el y 2) 65536), IntKind.u8.wrap (Int.fdiv (el y 2) 256), IntKind.u8.wrap (el y 2), IntKind.u8.wrap (Int.fdiv (el y 3) 16777216), IntKind.u8.wrap (Int.fdiv (el y 3) 65536), IntKind.u8.wrap (Int.fdiv (el y 3) 256), IntKind.u8.wrap (el y 3), IntKind.u8.wrap (Int.fdiv (el y 4) 16777216), IntKind.u8.wrap (Int.fdiv (el y 4) 65536), IntKind.u8.wrap (Int.fdiv (el y 4) 256), IntKind.u8.wrap (el y 4), IntKind.u8.wrap (Int.fdiv (el y 5) 16777216), IntKind.u8.wrap (Int.fdiv (el y 5) 65536), IntKind.u8.wrap (Int.fdiv (el y 5) 256), IntKind.u8.wrap (el y 5), IntKind.u8.wrap (Int.fdiv (el y 6) 16777216), IntKind.u8.wrap (Int.fdiv (el y 6) 65536), IntKind.u8.wrap (Int.fdiv (el y 6) 256), IntKind.u8.wrap (el y 6), IntKind.u8.wrap (Int.fdiv (el y 7) 16777216), IntKind.u8.wrap (Int.fdiv (el y 7) 65536), IntKind.u8.wrap (Int.fdiv (el y 7) 256), IntKind.u8.wrap (el y 7)]
theorem out_it (a b c d e f g i : Int) : it (FQuorumref6_Words_sum_L51 [a, b, c, d, e, f, g, i]) 40 (0, List.replicate 32 0) = some [IntKind.u8.wrap (Int.fdiv a 16777216), IntKind.u8.wrap (Int.fdiv a 65536), IntKind.u8.wrap (Int.fdiv a 256), IntKind.u8.wrap (Int.fdiv a 1), IntKind.u8.wrap (Int.fdiv b 16777216), IntKind.u8.wrap (Int.fdiv b 65536), IntKind.u8.wrap (Int.fdiv b 256), IntKind.u8.wrap (Int.fdiv b 1), IntKind.u8.wrap (Int.fdiv c 16777216), IntKind.u8.wrap (Int.fdiv c 65536), IntKind.u8.wrap (Int.fdiv c 256), IntKind.u8.wrap (Int.fdiv c 1), IntKind.u8.wrap (Int.fdiv d 16777216), IntKind.u8.wrap (Int.fdiv d 65536), IntKind.u8.wrap (Int.fdiv d 256), IntKind.u8.wrap (Int.fdiv d 1), IntKind.u8.wrap (Int.fdiv e 16777216), IntKind.u8.wrap (Int.fdiv e 65536), IntKind.u8.wrap (Int.fdiv e 256), IntKind.u8.wrap (Int.fdiv e 1), IntKind.u8.wrap (Int.fdiv f 16777216), IntKind.u8.wrap (Int.fdiv f 65536), IntKind.u8.wrap (Int.fdiv f 256), IntKind.u8.wrap (Int.fdiv f 1), IntKind.u8.wrap (Int.fdiv g 16777216), IntKind.u8.wrap (Int.fdiv g 65536), IntKind.u8.wrap (Int.fdiv g 256), IntKind.u8.wrap (Int.fdiv g 1), IntKind.u8.wrap (Int.fdiv i 16777216), IntKind.u8.wrap (Int.fdiv i 65536), IntKind.u8.wrap (Int.fdiv i 256), IntKind.u8.wrap (Int.fdiv i 1)] := by kernel_rfl
theorem out_loop (y : List Int) (h : y.length = 8) : loop (FQuorumref6_Words_sum_L51 y) (0, List.replicate 32 0) = some (outS y) := by
  rcases y with _ | ⟨a, _ | ⟨b, _ | ⟨c, _ | ⟨d, _ | ⟨e, _ | ⟨f, _ | ⟨g, _ | ⟨i, _ | ⟨j, y⟩⟩⟩⟩⟩⟩⟩⟩⟩ <;> first | (simp at h; done) | (simp at h; omega) | skip
  rw [loop_of (out_it a b c d e f g i)]
  simp only [Int.fdiv_one]
  rfl
end Go.Proofs.YtlfaalbkhfjpkaaDoor
