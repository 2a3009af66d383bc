/- Proved: the program's tree of chunks and that of the document's own answer are one function; the errors tell alike. Conditions: no more than 48,000 bytes where a length is asked. -/
import Derived.Test.YtlfaalbkhfjpkaaDoorShc
set_option linter.unusedVariables false
set_option maxRecDepth 100000
namespace Go.Proofs.YtlfaalbkhfjpkaaDoor
open Go.RowKit

def nC (len : Nat) : Nat := if len = 0 then 1 else (len + 1023) / 1024
theorem chunks_eq (s : Int) (h0 : -9223372036854775808 ≤ s) (h1 : s ≤ 9223372036854775807) : ∃ v, FSnap_Chunks s = some v ∧ FQuorumref6_Chunks s = some v ∧ (0 ≤ s → v = (nC s.toNat : Int)) := by
  unfold FSnap_Chunks FQuorumref6_Chunks
  by_cases hs : s < 0
  · rw [decide_eq_true hs, cond_true, cond_true]
    exact ⟨0, rfl, rfl, fun h => by omega⟩
  rw [decide_eq_false hs, cond_false, cond_false]
  by_cases hz : s = 0
  · subst hz
    exact ⟨1, rfl, rfl, fun _ => rfl⟩
  have hb : (s == 0) = false := by simpa using hz
  rw [hb, cond_false, IntWalk.rem_in s 1024 (by omega), Int.tdiv_eq_ediv_of_nonneg (by omega), i64_id (show -9223372036854775808 ≤ s / 1024 by omega) (by omega)]
  have hn : (nC s.toNat : Int) = (s + 1023) / 1024 := by unfold nC; rw [if_neg (by omega)]; omega
  by_cases hr : s % 1024 = 0
  · rw [hr, show (if (0 : Int) < 1 then (0 : Int) else 1) = 0 from rfl, Int.add_zero, i64_id (show -9223372036854775808 ≤ s / 1024 by omega) (by omega), show ((0 : Int) != 0) = false from rfl, cond_false, Option.bind_some]
    refine ⟨s / 1024, ?_, rfl, fun _ => by rw [hn]; omega⟩
    congr 1
    split <;> omega
  · rw [show (if s % 1024 < 1 then s % 1024 else 1) = 1 from if_neg (by omega), i64_id (show -9223372036854775808 ≤ s / 1024 + 1 by omega) (by omega), show (s % 1024 != 0) = true by simpa using hr, cond_true, Option.bind_some]
    refine ⟨s / 1024 + 1, ?_, rfl, fun _ => by rw [hn]; omega⟩
    congr 1
    split <;> omega
/-- A chunk. -/
def pieceS (data : List Int) (i : Nat) : List Int := (data.drop (1024 * i)).take 1024
theorem pieceS_len (data : List Int) (i : Nat) : (pieceS data i).length = min 1024 (data.length - 1024 * i) := by unfold pieceS; simp
theorem piece_win (data m : List Int) (i : Nat) (h : 1024 * i ≤ data.length) : ((data ++ m).drop (1024 * i)).take (min data.length (1024 * (i + 1)) - 1024 * i) = pieceS data i := by
  unfold pieceS
  rw [List.drop_append_of_le_length h, List.take_append_of_le_length (by rw [List.length_drop]; omega)]
  by_cases hc : 1024 * (i + 1) ≤ data.length
  · congr 1; omega
  · rw [List.take_of_length_le (by rw [List.length_drop]; omega), List.take_of_length_le (by rw [List.length_drop]; omega)]
theorem lies_is (len i : Nat) (hl : len ≤ 48000) (hi : i < 48) : FSnap_lies (len : Int) (i : Int) = some (((1024 * i : Nat) : Int), ((min len (1024 * (i + 1)) : Nat) : Int)) := by
  unfold FSnap_lies
  rw [i64_id (show -9223372036854775808 ≤ (i : Int) * 1024 by omega) (by omega), i64_id (show -9223372036854775808 ≤ (i : Int) + 1 by omega) (by omega), i64_id (show -9223372036854775808 ≤ ((i : Int) + 1) * 1024 by omega) (by omega)]
  congr 2
  · omega
  · split <;> omega
theorem piece_is (data : List Int) (i : Nat) (hl : data.length ≤ 48000) (hi : 1024 * i ≤ data.length) : FQuorumref6_piece data (i : Int) = some (pieceS data i) := by
  have hp := pieceS_len data i
  unfold FQuorumref6_piece FQuorumref6_length
  rw [i64_id (show -9223372036854775808 ≤ (i : Int) * 1024 by omega) (by omega), i64_id (show -9223372036854775808 ≤ ((data.length : Nat) : Int) - (i : Int) * 1024 by omega) (by omega)]
  have e : (bif decide (((data.length : Nat) : Int) - (i : Int) * 1024 > 1024) then some (1024 : Int) else some (((data.length : Nat) : Int) - (i : Int) * 1024)) = some (((pieceS data i).length : Nat) : Int) := by
    by_cases hc : ((data.length : Nat) : Int) - (i : Int) * 1024 > 1024
    · rw [decide_eq_true hc, cond_true]; congr 1; omega
    · rw [decide_eq_false hc, cond_false]; congr 1; omega
  rw [e, Option.bind_some]
  rw [loop_to (step := FQuorumref6_piece_L11 data (i : Int) (((pieceS data i).length : Nat) : Int)) (x := ([], 0)) (fun (x : List Int × Int) => ∃ k : Nat, k ≤ (pieceS data i).length ∧ x = ((pieceS data i).take k, (k : Int))) (fun x => (pieceS data i).length - x.2.toNat) (pieceS data i) ?_ ⟨0, by omega, by simp⟩]
  · rfl
  · rintro x ⟨k, hk, rfl⟩
    unfold FQuorumref6_piece_L11
    simp only []
    by_cases hc : k < (pieceS data i).length
    · refine .inl ⟨((pieceS data i).take (k + 1), ((k + 1 : Nat) : Int)), ?_, ⟨k + 1, by omega, rfl⟩, by simp; omega⟩
      have hel : el data (1024 * i + k) = el (pieceS data i) k := by
        rw [el_get (by omega), el_get hc]; simp [pieceS]
      rw [decide_eq_true (show (k : Int) < (((pieceS data i).length : Nat) : Int) by omega), cond_true, i64_id (show -9223372036854775808 ≤ (i : Int) * 1024 by omega) (by omega), i64_id (show -9223372036854775808 ≤ (i : Int) * 1024 + (k : Int) by omega) (by omega), show ((i : Int) * 1024 + (k : Int)).toNat = 1024 * i + k by omega, hel,
        chk_t (inb_t (by omega) (by omega)), chk_t (okl1 (by simp; omega)), i64_id (show -9223372036854775808 ≤ (k : Int) + 1 by omega) (by omega), take_el hc]
      rfl
    · refine .inr ?_
      have : k = (pieceS data i).length := by omega
      subst this
      rw [decide_eq_false (by omega), cond_false, List.take_of_length_le (Nat.le_refl _)]
/-! Sums of leaves and rows -/
theorem leaf_is (c : List Int) (h : c.length ≤ 100000) : FSnap_leaf c = some (sumS ([0] ++ c)) := by
  unfold FSnap_leaf
  rw [joined_is _ _ (by simp; omega)]; rfl
theorem leafb_is (c : List Int) (h : c.length ≤ 100000) : FQuorumref6_LeafBytes c = some ([0] ++ c) := by
  unfold FQuorumref6_LeafBytes
  rw [show FQuorumref6_LeafBytes_L8 c = cpStep c from rfl, cp_loop [0] c (by simp; omega)]; rfl
theorem fixl_app (pre : List Int) : ∀ (xs pre : List Int), fixl (pre ++ xs) xs.length pre.length = xs
  | [], pre => rfl
  | x :: xs, pre => by
    show el (pre ++ x :: xs) pre.length :: fixl (pre ++ x :: xs) xs.length (pre.length + 1) = x :: xs
    have h1 : el (pre ++ x :: xs) pre.length = x := by rw [el_get (by simp)]; simp
    have h2 := fixl_app pre xs (pre ++ [x])
    rw [h1]
    congr 1
    simpa using h2
theorem fixl_id (xs : List Int) (n : Nat) (h : xs.length = n) : fixl xs n 0 = xs := by
  subst h
  have := fixl_app [] xs []
  simpa using this
theorem pair_is (l r : List Int) (hl : l.length = 32) (hr : r.length = 32) : FSnap_pair l r = some (sumS ([1] ++ l ++ r)) := by
  unfold FSnap_pair
  have e1 := fixl_id l 32 hl
  have e2 := fixl_id r 32 hr
  show (FSnap_joined2 [1] (fixl l 32 0) (fixl r 32 0)).bind (fun y => some y) = _
  rw [e1, e2, joined2_is _ _ _ (by simp; omega)]; rfl
theorem row_loop (a pre : List Int) (ha : a.length = 32) (hp : pre.length ≤ 1000) : loop (FQuorumref6_RowBytes_L20 a) (pre, 0) = some (pre ++ a) := by
  refine loop_to (fun (x : List Int × Int) => ∃ k : Nat, k ≤ 32 ∧ x = (pre ++ a.take k, (k : Int))) (fun x => 32 - x.2.toNat) _ ?_ ⟨0, by omega, by simp⟩
  rintro x ⟨k, hk, rfl⟩
  unfold FQuorumref6_RowBytes_L20
  simp only [fixl_id a 32 ha]
  by_cases hc : k < 32
  · refine .inl ⟨(pre ++ a.take (k + 1), ((k + 1 : Nat) : Int)), ?_, ⟨k + 1, by omega, rfl⟩, by simp; omega⟩
    rw [decide_eq_true (show (k : Int) < 32 by omega), cond_true, chk_t (by rw [inb_t (by omega) (by omega), inb_t (by omega) (by omega)]; rfl), chk_t (okl1 (by simp; omega)), i64_id (show -9223372036854775808 ≤ (k : Int) + 1 by omega) (by omega), Int.toNat_natCast, List.append_assoc, take_el (by omega)]
    rfl
  · refine .inr ?_
    have : k = 32 := by omega
    subst this
    rw [show decide (((32 : Nat) : Int) < 32) = false from rfl, cond_false, List.take_of_length_le (by omega)]
theorem rowb_is (a b : List Int) (ha : a.length = 32) (hb : b.length = 32) : FQuorumref6_RowBytes a b = some ([1] ++ a ++ b) := by
  unfold FQuorumref6_RowBytes
  rw [row_loop a [1] ha (by simp), Option.bind_some, show FQuorumref6_RowBytes_L35 b = FQuorumref6_RowBytes_L20 b from rfl, row_loop b _ hb (by simp; omega)]; rfl
theorem half_is (n : Nat) (h : 2 ≤ n) (hn : n ≤ 1000) : ∃ k : Nat, 1 ≤ k ∧ k < n ∧ FSnap_half (n : Int) = some (k : Int) ∧ FQuorumref6_Half (n : Int) = some (k : Int) := by
  have e : FQuorumref6_Half_L3 (n : Int) = FSnap_half_L3 (n : Int) := by
    funext x; unfold FQuorumref6_Half_L3 FSnap_half_L3; rw [Int.mul_comm 2 x]
  obtain ⟨y, hy, k, hk1, hk2, rfl⟩ := loop_inv (step := FSnap_half_L3 (n : Int)) (x := 1) (fun x => ∃ k : Nat, 1 ≤ k ∧ k < n ∧ x = (k : Int)) (fun x => n - x.toNat) (fun y => ∃ k : Nat, 1 ≤ k ∧ k < n ∧ y = (k : Int)) (by
    rintro x ⟨k, h1, h2, rfl⟩
    unfold FSnap_half_L3
    rw [i64_id (show -9223372036854775808 ≤ 2 * (k : Int) by omega) (by omega), i64_id (show -9223372036854775808 ≤ (k : Int) * 2 by omega) (by omega)]
    by_cases hc : 2 * (k : Int) < (n : Int)
    · rw [decide_eq_true hc, cond_true]
      exact .inl ⟨((2 * k : Nat) : Int), by congr 2; omega, ⟨2 * k, by omega, by omega, rfl⟩, by simp; omega⟩
    · rw [decide_eq_false hc, cond_false]
      exact .inr ⟨(k : Int), rfl, k, h1, h2, rfl⟩) ⟨1, by omega, by omega, rfl⟩
  refine ⟨k, hk1, hk2, ?_, ?_⟩
  · unfold FSnap_half; rw [hy]; rfl
  · unfold FQuorumref6_Half; rw [e, hy]; rfl
theorem nC_le (len : Nat) (h : len ≤ 48000) : nC len ≤ 47 := by unfold nC; split <;> omega
theorem nC_in (len i : Nat) (h : i < nC len) : 1024 * i ≤ len := by unfold nC at h; split at h <;> omega
theorem rows_eq (data : List Int) (hd : data.length ≤ 48000) : ∀ (m lo n : Nat), 1 ≤ n → n ≤ m → lo + n ≤ nC data.length → ∃ y, itR FSnap_row_U m (data, (lo : Int), (n : Int)) = some y ∧ itR FQuorumref6_Words_row_U m (litH ++ litK, data, (lo : Int), (n : Int)) = some y ∧ y.length = 32 := by
  intro m
  have hC := nC_le data.length hd
  induction m with
  | zero => intro lo n h1 h2; omega
  | succ m ih =>
    intro lo n h1 h2 h3
    show ∃ y, FSnap_row_S (itR FSnap_row_U m) data (lo : Int) (n : Int) = some y ∧ FQuorumref6_Words_row_S (itR FQuorumref6_Words_row_U m) (litH ++ litK) data (lo : Int) (n : Int) = some y ∧ y.length = 32
    unfold FSnap_row_S FQuorumref6_Words_row_S
    by_cases hn : n = 1
    · subst hn
      have hin := nC_in data.length lo (by omega)
      have hp := pieceS_len data lo
      rw [show (((1 : Nat) : Int) == 1) = true from rfl, cond_true, cond_true, lies_is _ _ hd (by omega), Option.bind_some, chk_t (inc_t (by omega) (by omega) (by omega)), Int.toNat_natCast, Int.toNat_natCast]
      have hw := piece_win data [] lo hin
      rw [List.append_nil] at hw
      rw [hw, leaf_is _ (by omega), piece_is data lo hd hin, Option.bind_some, Option.bind_some, leafb_is _ (by omega), Option.bind_some, ref_wsum _ (by simp; omega)]
      exact ⟨_, rfl, rfl, sumS_len _⟩
    · obtain ⟨k, hk1, hk2, e1, e2⟩ := half_is n (by omega) (by omega)
      obtain ⟨a, ha1, ha2, ha⟩ := ih lo k hk1 (by omega) (by omega)
      obtain ⟨b, hb1, hb2, hb⟩ := ih (lo + k) (n - k) (by omega) (by omega) (by omega)
      have hc : (((n : Nat) : Int) == 1) = false := by simp; omega
      rw [hc, cond_false, cond_false, e1, e2, Option.bind_some, Option.bind_some, i64_id (show -9223372036854775808 ≤ (lo : Int) + (k : Int) by omega) (by omega), i64_id (show -9223372036854775808 ≤ (n : Int) - (k : Int) by omega) (by omega),
        show (lo : Int) + (k : Int) = ((lo + k : Nat) : Int) by omega, show (n : Int) - (k : Int) = ((n - k : Nat) : Int) by omega, ha1, ha2, Option.bind_some, Option.bind_some, hb1, hb2, Option.bind_some, Option.bind_some, pair_is a b ha hb, rowb_is a b ha hb, Option.bind_some, Option.bind_some, ref_wsum _ (by simp; omega)]
      exact ⟨_, rfl, rfl, sumS_len _⟩
theorem row_both (data : List Int) (hd : data.length ≤ 48000) (lo n : Nat) (h1 : 1 ≤ n) (h2 : lo + n ≤ nC data.length) : ∃ y, FSnap_row data (lo : Int) (n : Int) = some y ∧ FQuorumref6_Words_row (litH ++ litK) data (lo : Int) (n : Int) = some y ∧ y.length = 32 :=
  rows_eq data hd 1000 lo n h1 (by have := nC_le data.length hd; omega) h2
theorem paths_eq (data : List Int) (hd : data.length ≤ 48000) (i : Int) : ∀ (m lo n : Nat), 1 ≤ n → n ≤ m → lo + n ≤ nC data.length → ∃ y, itR FSnap_beside_U m (data, (lo : Int), (n : Int), i) = some y ∧ itR FQuorumref6_Words_path_U m (litH ++ litK, data, i, (lo : Int), (n : Int)) = some y ∧ y.length ≤ n := by
  intro m
  have hC := nC_le data.length hd
  induction m with
  | zero => intro lo n h1 h2; omega
  | succ m ih =>
    intro lo n h1 h2 h3
    show ∃ y, FSnap_beside_S (itR FSnap_beside_U m) data (lo : Int) (n : Int) i = some y ∧ FQuorumref6_Words_path_S (itR FQuorumref6_Words_path_U m) (litH ++ litK) data i (lo : Int) (n : Int) = some y ∧ y.length ≤ n
    unfold FSnap_beside_S FQuorumref6_Words_path_S
    by_cases hn : n = 1
    · subst hn
      rw [show (((1 : Nat) : Int) == 1) = true from rfl, cond_true, cond_true]
      exact ⟨[], rfl, rfl, by simp⟩
    · obtain ⟨k, hk1, hk2, e1, e2⟩ := half_is n (by omega) (by omega)
      have hc : (((n : Nat) : Int) == 1) = false := by simp; omega
      rw [hc, cond_false, cond_false, e1, e2, Option.bind_some, Option.bind_some, i64_id (show -9223372036854775808 ≤ (lo : Int) + (k : Int) by omega) (by omega), i64_id (show -9223372036854775808 ≤ (n : Int) - (k : Int) by omega) (by omega),
        show (lo : Int) + (k : Int) = ((lo + k : Nat) : Int) by omega, show (n : Int) - (k : Int) = ((n - k : Nat) : Int) by omega]
      by_cases hi : i < ((lo + k : Nat) : Int)
      · obtain ⟨p, hp1, hp2, hp⟩ := ih lo k hk1 (by omega) (by omega)
        obtain ⟨r, hr1, hr2, hr⟩ := row_both data hd (lo + k) (n - k) (by omega) (by omega)
        rw [decide_eq_true hi, cond_true, cond_true, hp1, hp2]
        simp only [Option.bind_some, hr1, hr2]
        rw [chk_t (okl_t (by simp; omega) (by omega))]
        exact ⟨_, rfl, rfl, by simp; omega⟩
      · obtain ⟨p, hp1, hp2, hp⟩ := ih (lo + k) (n - k) (by omega) (by omega) (by omega)
        obtain ⟨r, hr1, hr2, hr⟩ := row_both data hd lo k hk1 (by omega)
        rw [decide_eq_false hi, cond_false, cond_false, hp1, hp2]
        simp only [Option.bind_some, hr1, hr2]
        rw [chk_t (okl_t (by simp; omega) (by omega))]
        exact ⟨_, rfl, rfl, by simp; omega⟩
end Go.Proofs.YtlfaalbkhfjpkaaDoor
