/- Proved: the program's sum of bytes does not ask in which pieces they come. Conditions: no more than 2^40 bytes. -/
import Derived.Test.YtfmifminaldmhaaDoorPiFn
import Derived.Test.YtfmifminaldmhaaDoorPln
import Derived.Test.YtfmifminaldmhaaDoorMor
set_option linter.unusedVariables false
set_option maxRecDepth 100000
namespace Go.Proofs.YtfmifminaldmhaaDoor
open Go.RowKit

def litH : List Int := [1779033703, 3144134277, 1013904242, 2773480762, 1359893119, 2600822924, 528734635, 1541459225]
def litK : List Int := [1116352408, 1899447441, 3049323471, 3921009573, 961987163, 1508970993, 2453635748, 2870763221, 3624381080, 310598401, 607225278, 1426881987, 1925078388, 2162078206, 2614888103, 3248222580, 3835390401, 4022224774, 264347078, 604807628, 770255983, 1249150122, 1555081692, 1996064986, 2554220882, 2821834349, 2952996808, 3210313671, 3336571891, 3584528711, 113926993, 338241895, 666307205, 773529912, 1294757372, 1396182291, 1695183700, 1986661051, 2177026350, 2456956037, 2730485921, 2820302411, 3259730800, 3345764771, 3516065817, 3600352804, 4094571909, 275423344, 430227734, 506948616, 659060556, 883997877, 958139571, 1322822218, 1537002063, 1747873779, 1955562222, 2024104815, 2227730452, 2361852424, 2428436474, 2756734187, 3204031479, 3329325298]
theorem u64_nn (n : Int) : 0 ≤ IntKind.u64.wrap n := by rw [IntKind.wrap_u64]; omega
theorem turn_some (x n : Int) : ∃ y, FSnap_turn x n = some y := by
  unfold FSnap_turn FBits_RotateLeft32
  rw [chk_t (decide_eq_true (show 0 ≤ bAnd .u64 (IntKind.u64.wrap (IntKind.i64.wrap (0 - n))) 31 from u64_nn _)), chk_t (decide_eq_true (u64_nn _))]
  exact ⟨_, rfl⟩
theorem L9_some (b : List Int) (hb : 64 ≤ b.length) : ∃ y, loop (FSnap_Hasher_block_L9 b) (0, List.replicate 64 0) = some y ∧ y.length = 64 := by
  refine loop_inv (fun (x : Int × List Int) => ∃ k : Nat, k ≤ 16 ∧ x.1 = k ∧ x.2.length = 64) (fun (x : Int × List Int) => 16 - x.1.toNat) (fun (y : List Int) => y.length = 64) ?_ ⟨0, by omega, rfl, by simp⟩
  rintro ⟨i, w⟩ ⟨k, hk, hi, hw⟩
  simp only at hi hw
  subst hi
  by_cases hl : k < 16
  · refine .inl ?_
    unfold FSnap_Hasher_block_L9
    rw [show decide ((k : Int) < 16) = true from decide_eq_true (by omega), cond_true]
    simp only [i64_id (show -9223372036854775808 ≤ 4 * (k : Int) by omega) (by omega), i64_id (show -9223372036854775808 ≤ 4 * (k : Int) + 1 by omega) (by omega), i64_id (show -9223372036854775808 ≤ 4 * (k : Int) + 2 by omega) (by omega), i64_id (show -9223372036854775808 ≤ 4 * (k : Int) + 3 by omega) (by omega), i64_id (show -9223372036854775808 ≤ (k : Int) + 1 by omega) (by omega)]
    rw [chk_t (inb_t (by omega) (by omega)), chk_t (inb_t (by omega) (by omega)), chk_t (inb_t (by omega) (by omega)), chk_t (inb_t (by omega) (by omega)), chk_t (by rw [inb_t (by omega) (by omega), inb_t (by omega) (by omega)]; rfl)]
    exact ⟨_, rfl, ⟨k + 1, by omega, by simp, by simp [hw]⟩, by simp; omega⟩
  · refine .inr ⟨w, ?_, hw⟩
    unfold FSnap_Hasher_block_L9
    rw [show decide ((k : Int) < 16) = false by simp; omega, cond_false]
theorem L24_some (w : List Int) (hw : w.length = 64) : ∃ y, loop FSnap_Hasher_block_L24 (16, w) = some y ∧ y.length = 64 := by
  refine loop_inv (fun (x : Int × List Int) => ∃ k : Nat, 16 ≤ k ∧ k ≤ 64 ∧ x.1 = k ∧ x.2.length = 64) (fun (x : Int × List Int) => 64 - x.1.toNat) (fun (y : List Int) => y.length = 64) ?_ ⟨16, by omega, by omega, rfl, hw⟩
  rintro ⟨i, w⟩ ⟨k, hk0, hk, hi, hw⟩
  simp only at hi hw
  subst hi
  by_cases hl : k < 64
  · refine .inl ?_
    unfold FSnap_Hasher_block_L24
    rw [show decide ((k : Int) < 64) = true from decide_eq_true (by omega), cond_true]
    simp only [i64_id (show -9223372036854775808 ≤ (k : Int) - 15 by omega) (by omega), i64_id (show -9223372036854775808 ≤ (k : Int) - 2 by omega) (by omega), i64_id (show -9223372036854775808 ≤ (k : Int) - 16 by omega) (by omega), i64_id (show -9223372036854775808 ≤ (k : Int) - 7 by omega) (by omega), i64_id (show -9223372036854775808 ≤ (k : Int) + 1 by omega) (by omega)]
    have hi2 : ∀ j : Int, 0 ≤ j → j < 64 → (inb j 64 && inb j w.length) = true := fun j h0 h1 => by rw [inb_t h0 (by omega), inb_t h0 (by omega)]; rfl
    rw [chk_t (hi2 _ (by omega) (by omega)), chk_t (hi2 _ (by omega) (by omega)), chk_t (hi2 _ (by omega) (by omega)), chk_t (hi2 _ (by omega) (by omega))]
    obtain ⟨a, ha⟩ := turn_some (el w ((k : Int) - 15).toNat) 7
    obtain ⟨b, hb⟩ := turn_some (el w ((k : Int) - 15).toNat) 18
    obtain ⟨c, hc⟩ := turn_some (el w ((k : Int) - 2).toNat) 17
    obtain ⟨d, hd⟩ := turn_some (el w ((k : Int) - 2).toNat) 19
    simp only [ha, hb, hc, hd, Option.bind_some]
    rw [chk_t (hi2 _ (by omega) (by omega))]
    exact ⟨_, rfl, ⟨k + 1, by omega, by omega, by simp, by simp [hw]⟩, by simp; omega⟩
  · refine .inr ⟨w, ?_, hw⟩
    unfold FSnap_Hasher_block_L24
    rw [show decide ((k : Int) < 64) = false by simp; omega, cond_false]
theorem L47_some (y s : List Int) (hy : y.length = 64) : ∃ r, loop (FSnap_Hasher_block_L47 y litK) (0, s) = some r ∧ True := by
  refine loop_inv (fun (x : Int × List Int) => ∃ k : Nat, k ≤ 64 ∧ x.1 = k) (fun (x : Int × List Int) => 64 - x.1.toNat) (fun (_ : List Int) => True) ?_ ⟨0, by omega, rfl⟩
  rintro ⟨i, w⟩ ⟨k, hk, hi⟩
  simp only at hi
  subst hi
  by_cases hl : k < 64
  · refine .inl ?_
    unfold FSnap_Hasher_block_L47
    rw [show decide ((k : Int) < 64) = true from decide_eq_true (by omega), cond_true]
    rw [chk_t (by rw [inb_t (by omega) (by omega), inb_t (by omega) (by rw [show litK.length = 64 from rfl]; omega)]; rfl), chk_t (by rw [inb_t (by omega) (by omega), inb_t (by omega) (by omega)]; rfl)]
    obtain ⟨a, ha⟩ := turn_some (el w 4) 6
    obtain ⟨b, hb⟩ := turn_some (el w 4) 11
    obtain ⟨c, hc⟩ := turn_some (el w 4) 25
    obtain ⟨d, hd⟩ := turn_some (el w 0) 2
    obtain ⟨e, he⟩ := turn_some (el w 0) 13
    obtain ⟨f, hf⟩ := turn_some (el w 0) 22
    simp only [ha, hb, hc, hd, he, hf, Option.bind_some, bind1, i64_id (show -9223372036854775808 ≤ (k : Int) + 1 by omega) (by omega)]
    exact ⟨_, rfl, ⟨k + 1, by omega, by simp⟩, by simp; omega⟩
  · refine .inr ⟨w, ?_, trivial⟩
    unfold FSnap_Hasher_block_L47
    rw [show decide ((k : Int) < 64) = false by simp; omega, cond_false]
theorem blk_some (h b : List Int) (hb : 64 ≤ b.length) : ∃ s, FSnap_Hasher_block false h 0 b = some s ∧ s.length = 8 := by
  obtain ⟨y, hy, hl⟩ := L9_some b hb
  obtain ⟨z, hz, hm⟩ := L24_some y hl
  obtain ⟨s, hs, _⟩ := L47_some z h hm
  unfold FSnap_Hasher_block
  rw [hy, Option.bind_some, hz, Option.bind_some, show FSnap_rounds = some litK from rfl, Option.bind_some]
  simp only [bind1, show fixl litK 64 0 = litK from rfl]
  rw [hs]
  exact ⟨_, rfl, rfl⟩
/-- The state behind a block. -/
noncomputable def blkS (h b : List Int) : List Int := (FSnap_Hasher_block false h 0 b).getD []
theorem blk_is (m : Bool) (n : Int) (h b : List Int) (hb : 64 ≤ b.length) : FSnap_Hasher_block m h n b = some (blkS h b) := by
  obtain ⟨s, hs, _⟩ := blk_some h b hb
  unfold blkS
  rw [show FSnap_Hasher_block m h n b = FSnap_Hasher_block false h 0 b from rfl, hs]; rfl
/-- The state behind n blocks. -/
noncomputable def foldS : Nat → List Int → List Int → List Int
  | 0, h, _ => h
  | n + 1, h, b => foldS n (blkS h (b.take 64)) (b.drop 64)
theorem foldS_add (m n : Nat) : ∀ (h b : List Int), foldS (m + n) h b = foldS n (foldS m h b) (b.drop (64 * m)) := by
  induction m with
  | zero => intro h b; simp [foldS]
  | succ m ih =>
    intro h b
    rw [show m + 1 + n = (m + n) + 1 by omega]
    show foldS (m + n) (blkS h (b.take 64)) (b.drop 64) = foldS n (foldS m (blkS h (b.take 64)) (b.drop 64)) (b.drop (64 * (m + 1)))
    rw [ih, List.drop_drop, show 64 + 64 * m = 64 * (m + 1) by omega]
theorem foldS_succ (n : Nat) (h b : List Int) : foldS (n + 1) h b = blkS (foldS n h b) ((b.drop (64 * n)).take 64) := by rw [foldS_add]; rfl
theorem foldS_app (n : Nat) : ∀ (h b c : List Int), 64 * n ≤ b.length → foldS n h (b ++ c) = foldS n h b := by
  induction n with
  | zero => intro h b c _; rfl
  | succ n ih =>
    intro h b c hl
    unfold foldS
    rw [List.take_append_of_le_length (by omega), List.drop_append_of_le_length (by omega), ih _ _ _ (by rw [List.length_drop]; omega)]
/-! Padding -/
def zz (m : Nat) : Nat := (120 - m % 64) % 64
theorem zz_is (m : Nat) : (m + zz m) % 64 = 56 := by unfold zz; omega
theorem zz_lt (m : Nat) : zz m < 64 := by unfold zz; omega
theorem zero_loop (a : List Int) (h : a.length + 64 ≤ 140737488355328) : loop FSnap_Hasher_Sum_L36 a = some (a ++ List.replicate (zz a.length) 0) := by
  refine loop_to (fun (x : List Int) => ∃ k, k ≤ zz a.length ∧ x = a ++ List.replicate k 0) (fun x => a.length + zz a.length - x.length) _ ?_ ⟨0, by omega, by simp⟩
  rintro x ⟨k, hk, rfl⟩
  have hz := zz_is a.length
  have hz2 := zz_lt a.length
  have e : Int.tmod (((a ++ List.replicate k (0 : Int)).length : Nat) : Int) 64 = (((a.length + k) % 64 : Nat) : Int) := by
    rw [IntWalk.rem_in _ _ (by omega)]; simp
  by_cases hl : k < zz a.length
  · refine .inl ⟨a ++ List.replicate (k + 1) 0, ?_, ⟨k + 1, by omega, rfl⟩, by simp; omega⟩
    unfold FSnap_Hasher_Sum_L36
    rw [e, show ((((a.length + k) % 64 : Nat) : Int) != 56) = true by simp; omega, cond_true, chk_t (okl1 (by simp; omega)), List.append_assoc, ← List.replicate_succ']
  · refine .inr ?_
    have : k = zz a.length := by omega
    subst this
    unfold FSnap_Hasher_Sum_L36
    rw [e, hz]; rfl
def bytes8 (n : Nat) : List Int := [IntKind.u8.wrap (shrV .u64 (IntKind.u64.wrap (8 * (n : Int))) 56), IntKind.u8.wrap (shrV .u64 (IntKind.u64.wrap (8 * (n : Int))) 48), IntKind.u8.wrap (shrV .u64 (IntKind.u64.wrap (8 * (n : Int))) 40), IntKind.u8.wrap (shrV .u64 (IntKind.u64.wrap (8 * (n : Int))) 32), IntKind.u8.wrap (shrV .u64 (IntKind.u64.wrap (8 * (n : Int))) 24), IntKind.u8.wrap (shrV .u64 (IntKind.u64.wrap (8 * (n : Int))) 16), IntKind.u8.wrap (shrV .u64 (IntKind.u64.wrap (8 * (n : Int))) 8), IntKind.u8.wrap (shrV .u64 (IntKind.u64.wrap (8 * (n : Int))) 0)]
theorem len_loop2 (n : Nat) (a : List Int) (h : a.length + 8 ≤ 140737488355328) : loop (FSnap_Hasher_Sum_L51 (n : Int)) (a, 56) = some (a ++ bytes8 n) := by
  refine loop_to (fun (x : List Int × Int) => ∃ k : Nat, k ≤ 8 ∧ x = (a ++ (bytes8 n).take k, 56 - 8 * (k : Int))) (fun x => (x.2 + 8).toNat) _ ?_ ⟨0, by omega, by simp⟩
  rintro x ⟨k, hk, rfl⟩
  by_cases hl : k < 8
  · refine .inl ⟨(a ++ (bytes8 n).take (k + 1), 56 - 8 * ((k + 1 : Nat) : Int)), ?_, ⟨k + 1, by omega, rfl⟩, by simp; omega⟩
    unfold FSnap_Hasher_Sum_L51
    simp only []
    rw [show decide ((56 : Int) - 8 * (k : Int) ≥ 0) = true from decide_eq_true (by omega), cond_true, u64_id (show 0 ≤ (56 : Int) - 8 * (k : Int) by omega) (by omega),
      i64_id (show -9223372036854775808 ≤ (56 : Int) - 8 * (k : Int) - 8 by omega) (by omega), chk_t (decide_eq_true (by omega)), chk_t (okl1 (by simp; omega))]
    simp only [bind1]
    have : (bytes8 n).take (k + 1) = (bytes8 n).take k ++ [IntKind.u8.wrap (shrV .u64 (IntKind.u64.wrap (8 * (n : Int))) (56 - 8 * (k : Int)))] := by
      have hk : k = 0 ∨ k = 1 ∨ k = 2 ∨ k = 3 ∨ k = 4 ∨ k = 5 ∨ k = 6 ∨ k = 7 := by omega
      rcases hk with rfl | rfl | rfl | rfl | rfl | rfl | rfl | rfl <;> rfl
    rw [this, List.append_assoc, show (56 : Int) - 8 * (k : Int) - 8 = 56 - 8 * ((k + 1 : Nat) : Int) by omega]
  · refine .inr ?_
    have : k = 8 := by omega
    subst this
    rfl
/-- The bytes with what follows them. -/
def padS (b : List Int) : List Int := b ++ ([128] ++ (List.replicate (zz (b.length + 1)) 0 ++ bytes8 b.length))
theorem padS_len (b : List Int) : (padS b).length % 64 = 0 := by
  have := zz_is (b.length + 1)
  unfold padS; simp [bytes8]; omega
theorem sum_loop (l h : List Int) (q : Nat) (hq : l.length = 64 * q) : loop FSnap_Hasher_Sum_L74 (l, h) = some (foldS q h l) := by
  refine loop_to (fun (x : List Int × List Int) => ∃ k : Nat, k ≤ q ∧ x = (l.drop (64 * k), foldS k h l)) (fun x => x.1.length) _ ?_ ⟨0, by omega, by simp [foldS]⟩
  rintro x ⟨k, hk, rfl⟩
  unfold FSnap_Hasher_Sum_L74
  simp only []
  by_cases hl : k < q
  · refine .inl ⟨(l.drop (64 * (k + 1)), foldS (k + 1) h l), ?_, ⟨k + 1, by omega, rfl⟩, by simp; omega⟩
    rw [show decide ((((l.drop (64 * k)).length : Nat) : Int) > 0) = true from decide_eq_true (by simp; omega), cond_true, chk_t (inc_t (by omega) (by omega) (by simp; omega)), blk_is _ _ _ _ (by simp; omega), Option.bind_some, chk_t (inc_t (by omega) (by omega) (by simp; omega)), foldS_succ, List.drop_drop]
    rfl
  · refine .inr ?_
    have : k = q := by omega
    subst this
    rw [show decide ((((l.drop (64 * k)).length : Nat) : Int) > 0) = false from decide_eq_false (by simp; omega), cond_false]
theorem write_loop (m : Bool) (v : Int) (l h : List Int) : loop (FSnap_Hasher_Write_L23 m v) (h, l) = some (foldS (l.length / 64) h l, l.drop (64 * (l.length / 64))) := by
  refine loop_to (fun (x : List Int × List Int) => ∃ k : Nat, k ≤ l.length / 64 ∧ x = (foldS k h l, l.drop (64 * k))) (fun x => x.2.length) _ ?_ ⟨0, by omega, by simp [foldS]⟩
  rintro x ⟨k, hk, rfl⟩
  unfold FSnap_Hasher_Write_L23
  simp only []
  by_cases hl : k < l.length / 64
  · refine .inl ⟨(foldS (k + 1) h l, l.drop (64 * (k + 1))), ?_, ⟨k + 1, by omega, rfl⟩, by simp; omega⟩
    rw [show decide ((((l.drop (64 * k)).length : Nat) : Int) ≥ 64) = true from decide_eq_true (by simp; omega), cond_true, chk_t (inc_t (by omega) (by omega) (by simp; omega)), blk_is _ _ _ _ (by simp; omega), Option.bind_some, chk_t (inc_t (by omega) (by omega) (by simp; omega)), foldS_succ, List.drop_drop]
    rfl
  · refine .inr ?_
    have : k = l.length / 64 := by omega
    subst this
    rw [show decide ((((l.drop (64 * (l.length / 64))).length : Nat) : Int) ≥ 64) = false from decide_eq_false (by simp; omega), cond_false]
/-- The sum out of the last state. -/
def outS (y : List Int) : List Int := [IntKind.u8.wrap (Int.fdiv (el y 0) 16777216), IntKind.u8.wrap (Int.fdiv (el y 0) 65536), IntKind.u8.wrap (Int.fdiv (el y 0) 256), IntKind.u8.wrap (el y 0), IntKind.u8.wrap (Int.fdiv (el y 1) 16777216), IntKind.u8.wrap (Int.fdiv (el y 1) 65536), IntKind.u8.wrap (Int.fdiv (el y 1) 256), IntKind.u8.wrap (el y 1), IntKind.u8.wrap (Int.fdiv (el y 2) 16777216), IntKind.u8.wrap (Int.fdiv (el y 2) 65536), IntKind.u8.wrap (Int.fdiv (el y 2) 256), IntKind.u8.wrap (el y 2), IntKind.u8.wrap (Int.fdiv (el y 3) 16777216), IntKind.u8.wrap (Int.fdiv (el y 3) 65536), IntKind.u8.wrap (Int.fdiv (el y 3) 256), IntKind.u8.wrap (el y 3), IntKind.u8.wrap (Int.fdiv (el y 4) 16777216), IntKind.u8.wrap (Int.fdiv (el y 4) 65536), IntKind.u8.wrap (Int.fdiv (el y 4) 256), IntKind.u8.wrap (el y 4), IntKind.u8.wrap (Int.fdiv (el y 5) 16777216), IntKind.u8.wrap (Int.fdiv (el y 5) 65536), IntKind.u8.wrap (Int.fdiv (el y 5) 256), IntKind.u8.wrap (el y 5), IntKind.u8.wrap (Int.fdiv (el y 6) 16777216), IntKind.u8.wrap (Int.fdiv (el y 6) 65536), IntKind.u8.wrap (Int.fdiv (el y 6) 256), IntKind.u8.wrap (el y 6), IntKind.u8.wrap (Int.fdiv (el y 7) 16777216), IntKind.u8.wrap (Int.fdiv (el y 7) 65536), IntKind.u8.wrap (Int.fdiv (el y 7) 256), IntKind.u8.wrap (el y 7)]
/-- SHA-256, as the program computes it. -/
noncomputable def sumS (b : List Int) : List Int := outS (foldS ((padS b).length / 64) litH (padS b))
/-- The program's hasher holds the sum so far of these bytes. -/
def HInv (all st rest : List Int) (n : Int) : Prop := st = foldS (all.length / 64) litH all ∧ rest = all.drop (64 * (all.length / 64)) ∧ n = (all.length : Int)
theorem hinv_new : HInv [] litH [] 0 := ⟨rfl, rfl, rfl⟩
theorem write_is {all st rest b : List Int} {n : Int} (h : HInv all st rest n) (hl : all.length + b.length ≤ 1099511627776) : ∃ st' rest' n', FSnap_Hasher_Write true st rest n b = some (st', rest', n') ∧ HInv (all ++ b) st' rest' n' := by
  obtain ⟨rfl, rfl, rfl⟩ := h
  have hr : (all.drop (64 * (all.length / 64)) ++ b) = (all ++ b).drop (64 * (all.length / 64)) := (List.drop_append_of_le_length (by omega)).symm
  have hd : ((all ++ b).drop (64 * (all.length / 64))).length = all.length + b.length - 64 * (all.length / 64) := by simp
  unfold FSnap_Hasher_Write
  rw [show (!true) = false from rfl, cond_false, chk_t (okl1 (by rw [hr, hd]; omega)), hr]
  simp only [bind1]
  rw [write_loop, Option.bind_some, chk_t (okl1 (by simp only [List.length_drop, List.length_append]; omega))]
  refine ⟨_, _, _, rfl, ?_, ?_, ?_⟩
  · simp only []
    rw [hd, ← foldS_app (all.length / 64) litH all b (by omega), ← foldS_add]
    congr 1
    rw [List.length_append]; omega
  · simp only []
    rw [hd, List.drop_drop]
    congr 1
    rw [List.length_append]; omega
  · rw [u64_id (show (0 : Int) ≤ ((b.length : Nat) : Int) by omega) (by omega), u64_id (by omega) (by omega)]
    simp
theorem sum_is {all st rest : List Int} {n : Int} (h : HInv all st rest n) (hl : all.length ≤ 1099511627776) : FSnap_Hasher_Sum true st rest n = some (sumS all) := by
  obtain ⟨rfl, rfl, rfl⟩ := h
  have hp := padS_len all
  have hz := zz_lt (all.length + 1)
  have hd : (all.drop (64 * (all.length / 64))).length = all.length - 64 * (all.length / 64) := by simp
  have ez : zz ((all.drop (64 * (all.length / 64)) ++ [128]).length) = zz (all.length + 1) := by simp only [List.length_append, hd]; unfold zz; simp; omega
  have ep : (all.drop (64 * (all.length / 64)) ++ [128] ++ List.replicate (zz (all.length + 1)) 0 ++ bytes8 all.length) = (padS all).drop (64 * (all.length / 64)) := by
    unfold padS
    rw [List.drop_append_of_le_length (by omega)]
    simp
  unfold FSnap_Hasher_Sum
  rw [show (!true) = false from rfl, cond_false, chk_t (okl1 (by omega)), chk_t (okl1 (by simp; omega)), zero_loop _ (by simp; omega), Option.bind_some, ez, len_loop2 _ _ (by simp; omega), Option.bind_some, ep,
    sum_loop _ _ ((padS all).length / 64 - all.length / 64) (by
      have : (padS all).length = all.length + (1 + (zz (all.length + 1) + 8)) := by unfold padS; simp [bytes8]; omega
      rw [List.length_drop]; omega), Option.bind_some]
  have hle : all.length ≤ (padS all).length := by unfold padS; simp
  have e2 : foldS ((padS all).length / 64 - all.length / 64) (foldS (all.length / 64) litH all) ((padS all).drop (64 * (all.length / 64))) = foldS ((padS all).length / 64) litH (padS all) := by
    have : foldS (all.length / 64) litH (padS all) = foldS (all.length / 64) litH all := by unfold padS; rw [foldS_app _ _ _ _ (by omega)]
    rw [← this, ← foldS_add]
    congr 1
    omega
  rw [e2]
  rfl
theorem snap_sum (b : List Int) (h : b.length ≤ 1099511627776) : FSnap_Sum b = some (sumS b) := by
  unfold FSnap_Sum FSnap_joined
  obtain ⟨st, rest, n, hw, hi⟩ := write_is (b := b) hinv_new (by simp; omega)
  rw [show FSnap_New = some litH from rfl, Option.bind_some, hw, Option.bind_some, sum_is hi (by simpa using h)]
  rfl
theorem eqA_refl : ∀ (n k : Nat) (xs : List Int), eqA n k xs xs = true
  | 0, _, _ => rfl
  | n + 1, k, xs => by unfold eqA; rw [eqA_refl n]; simp
end Go.Proofs.YtfmifminaldmhaaDoor
