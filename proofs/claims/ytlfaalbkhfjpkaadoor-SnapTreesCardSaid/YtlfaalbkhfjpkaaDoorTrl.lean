/- Proved: the law SnapTrees, as a plain function, answers true. Conditions: the numbers are 64-bit numbers; the list is no longer than lists can be. -/
import Derived.Test.YtlfaalbkhfjpkaaDoorTre
set_option linter.unusedVariables false
set_option maxRecDepth 100000
namespace Go.Proofs.YtlfaalbkhfjpkaaDoor
open Go.RowKit

def markS (i : Nat) : Int := IntKind.u8.wrap (IntKind.i64.wrap (160 + (i : Int)))
def marksS : List Int := (List.range 72).map markS
theorem marksS_len : marksS.length = 72 := by simp [marksS]
theorem marksS_take (k : Nat) (h : k < 72) : marksS.take (k + 1) = marksS.take k ++ [markS k] := by
  rw [← take_el (by rw [marksS_len]; exact h), el_get (by rw [marksS_len]; exact h)]
  simp [marksS]
theorem marks_loop (a : List Int) (h : a.length + 72 ≤ 140737488355328) : loop FQuorumlaw6_twin_L26 (a, 0) = some (a ++ marksS) := by
  refine loop_to (fun (x : List Int × Int) => ∃ k : Nat, k ≤ 72 ∧ x = (a ++ marksS.take k, (k : Int))) (fun x => 72 - x.2.toNat) _ ?_ ⟨0, by omega, by simp⟩
  rintro x ⟨k, hk, rfl⟩
  have hm := marksS_len
  unfold FQuorumlaw6_twin_L26
  simp only []
  by_cases hl : k < 72
  · refine .inl ⟨(a ++ marksS.take (k + 1), ((k + 1 : Nat) : Int)), ?_, ⟨k + 1, by omega, rfl⟩, by simp; omega⟩
    rw [show decide ((k : Int) < 72) = true from decide_eq_true (by omega), cond_true, chk_t (okl1 (by simp; omega)), i64_id (show -9223372036854775808 ≤ (k : Int) + 1 by omega) (by omega), marksS_take k hl, List.append_assoc]
    rfl
  · refine .inr ?_
    have : k = 72 := by omega
    subst this
    rw [show decide (((72 : Nat) : Int) < 72) = false from rfl, cond_false, List.take_of_length_le (by omega)]
theorem twin_is (b : List Int) (h : b.length ≤ 1099511627776) : FQuorumlaw6_twin b = some (b ++ marksS, b.length) := by
  unfold FQuorumlaw6_twin
  rw [i64_id (show -9223372036854775808 ≤ ((b.length : Nat) : Int) + 72 by omega) (by omega), chk_t (by rw [inc_t (by omega) (by omega) (by omega), okl1 (by omega)]; rfl), show FQuorumlaw6_twin_L11 b = cpStep b from rfl, show List.replicate 0 (0 : Int) = [] from rfl,
    cp_loop [] b (by simp; omega), Option.bind_some, List.nil_append, marks_loop _ (by omega), Option.bind_some, chk_t (inc_t (by omega) (by omega) (by simp; omega)), Int.toNat_natCast]
theorem twin_take (b : List Int) : (b ++ marksS).take b.length = b := by simp
theorem same_is (b : List Int) (h : b.length ≤ 140737488355328) : FQuorumlaw6_sameBytes b b = some true := by
  unfold FQuorumlaw6_sameBytes
  rw [show (((b.length : Nat) : Int) != ((b.length : Nat) : Int)) = false by simp, cond_false]
  rw [loop_to (step := FQuorumlaw6_sameBytes_L6 b b) (x := 0) (fun (x : Int) => ∃ k : Nat, k ≤ b.length ∧ x = (k : Int)) (fun x => b.length - x.toNat) (Sum.inl ()) ?_ ⟨0, by omega, rfl⟩]
  · rfl
  · rintro x ⟨k, hk, rfl⟩
    unfold FQuorumlaw6_sameBytes_L6
    by_cases hl : k < b.length
    · refine .inl ⟨((k + 1 : Nat) : Int), ?_, ⟨k + 1, by omega, rfl⟩, by simp; omega⟩
      rw [show decide ((k : Int) < ((b.length : Nat) : Int)) = true from decide_eq_true (by omega), cond_true, chk_t (inb_t (by omega) (by omega)), chk_t (inb_t (by omega) (by omega)), show (el b (k : Int).toNat != el b (k : Int).toNat) = false by simp, cond_false, i64_id (by omega) (by omega)]
      rfl
    · refine .inr ?_
      rw [show decide ((k : Int) < ((b.length : Nat) : Int)) = false from decide_eq_false (by omega), cond_false]
theorem kept_is (b : List Int) (h : b.length ≤ 1099511627776) : FQuorumlaw6_kept (b ++ marksS) b.length b = some true := by
  have hm := marksS_len
  unfold FQuorumlaw6_kept
  rw [twin_take, same_is b (by omega), Option.bind_some, show (!true) = false from rfl, cond_false, i64_id (show -9223372036854775808 ≤ ((b.length : Nat) : Int) + 72 by omega) (by omega), chk_t (inc_t (by omega) (by omega) (by simp; omega))]
  rw [loop_to (step := FQuorumlaw6_kept_L16 (b ++ marksS) b) (x := 0) (fun (x : Int) => ∃ k : Nat, k ≤ 72 ∧ x = (k : Int)) (fun x => 72 - x.toNat) (Sum.inl ()) ?_ ⟨0, by omega, rfl⟩]
  · rfl
  · rintro x ⟨k, hk, rfl⟩
    unfold FQuorumlaw6_kept_L16
    by_cases hl : k < 72
    · refine .inl ⟨((k + 1 : Nat) : Int), ?_, ⟨k + 1, by omega, rfl⟩, by simp; omega⟩
      have e : el ((b ++ marksS).take (b.length + 72)) (b.length + k) = markS k := by
        rw [List.take_of_length_le (by simp; omega), el_get (by simp; omega), List.getElem_append_right (by omega)]
        simp [marksS]
      rw [show decide ((k : Int) < 72) = true from decide_eq_true (by omega), cond_true, i64_id (show -9223372036854775808 ≤ ((b.length : Nat) : Int) + (k : Int) by omega) (by omega), i64_id (show -9223372036854775808 ≤ ((b.length : Nat) : Int) + 72 by omega) (by omega),
        show (((b.length : Nat) : Int) + (72 : Int)).toNat = b.length + 72 by omega, show (((b.length : Nat) : Int) + (k : Int)).toNat = b.length + k by omega, chk_t (inb_t (by omega) (by simp; omega)), e, show (markS k != IntKind.u8.wrap (IntKind.i64.wrap (160 + (k : Int)))) = false by simp [markS], cond_false,
        i64_id (show -9223372036854775808 ≤ (k : Int) + 1 by omega) (by omega)]
      rfl
    · refine .inr ?_
      rw [show decide ((k : Int) < 72) = false from decide_eq_false (by omega), cond_false]
def snapT : ByteArray := ⟨#[115, 110, 97, 112]⟩
theorem is_bad (i : Int) : FQuorumlaw0_Is snapT i 123 [(snapT, i)] 123 = some true := by
  unfold FQuorumlaw0_Is FQuorumlaw0_Told
  rw [Option.bind_some, show ((123 : Int) != 0) = true from rfl, cond_true]
  unfold FQuorumref0_Same
  rw [show ((123 : Int) != 123) = false from rfl, cond_false, show (((([(snapT, i)] : List (ByteArray × Int)).length : Nat) : Int) != ((([(snapT, i)] : List (ByteArray × Int)).length : Nat) : Int)) = false from rfl, cond_false]
  rw [loop_next (step := FQuorumref0_Same_L19 [(snapT, i)] [(snapT, i)]) (x' := 1) (o := some (.inl ())) ?_ (loop_end ?_)]
  · rfl
  · have hin0 : inb 0 ([(snapT, i)] : List (ByteArray × Int)).length = true := rfl
    unfold FQuorumref0_Same_L19
    rw [show decide ((0 : Int) < ((([(snapT, i)] : List (ByteArray × Int)).length : Nat) : Int)) = true from rfl, cond_true, chk_t hin0, chk_t hin0]
    have e : el [(snapT, i)] (0 : Int).toNat = (snapT, i) := rfl
    rw [e]
    simp only [bind1]
    rw [show (!(snapT.toList == snapT.toList)) = false by simp, cond_false, chk_t hin0, chk_t hin0, show ((i : Int) != i) = false by simp, cond_false]
    rfl
  · rfl
theorem is_good : FQuorumlaw0_Is2 [] 0 = some true := by
  unfold FQuorumlaw0_Is2 FQuorumlaw0_Told2
  rw [loop_end (step := FQuorumlaw0_Told2_L16) (y := ()) rfl, Option.bind_some, Option.bind_some]
  unfold FQuorumref0_Same
  rw [show ((0 : Int) != 0) = false from rfl, cond_false, show (((([] : List (ByteArray × Int)).length : Nat) : Int) != ((([] : List (ByteArray × Int)).length : Nat) : Int)) = false from rfl, cond_false, loop_end (step := FQuorumref0_Same_L19 [] []) (y := .inl ()) rfl]
  rfl
theorem hashes_is (b : List (List Int)) (h : b.length ≤ 140737488355328) : FQuorumlaw6_sameHashes b b = some true := by
  unfold FQuorumlaw6_sameHashes
  rw [show (((b.length : Nat) : Int) != ((b.length : Nat) : Int)) = false by simp, cond_false]
  rw [loop_to (step := FQuorumlaw6_sameHashes_L6 b b) (x := 0) (fun (x : Int) => ∃ k : Nat, k ≤ b.length ∧ x = (k : Int)) (fun x => b.length - x.toNat) (Sum.inl ()) ?_ ⟨0, by omega, rfl⟩]
  · rfl
  · rintro x ⟨k, hk, rfl⟩
    unfold FQuorumlaw6_sameHashes_L6
    by_cases hl : k < b.length
    · refine .inl ⟨((k + 1 : Nat) : Int), ?_, ⟨k + 1, by omega, rfl⟩, by simp; omega⟩
      rw [show decide ((k : Int) < ((b.length : Nat) : Int)) = true from decide_eq_true (by omega), cond_true, chk_t (inb_t (by omega) (by omega)), chk_t (inb_t (by omega) (by omega)), eqA_refl, show (!true) = false from rfl, cond_false, i64_id (by omega) (by omega)]
      rfl
    · refine .inr ?_
      rw [show decide ((k : Int) < ((b.length : Nat) : Int)) = false from decide_eq_false (by omega), cond_false]
theorem spoil1 (c : List Int) (hb : c.length ≤ 140737488355328) : loop FQuorumlaw6_SnapTrees_L77 (c, 0) = some () := by
  refine loop_to (fun (x : List Int × Int) => ∃ k : Nat, k ≤ c.length ∧ x.2 = (k : Int) ∧ x.1.length = c.length) (fun x => c.length - x.2.toNat) _ ?_ ⟨0, by omega, rfl, rfl⟩
  rintro ⟨l, i⟩ ⟨k, hk, hi, hl⟩
  simp only at hi hl
  subst hi
  unfold FQuorumlaw6_SnapTrees_L77
  simp only [hl]
  by_cases hlt : k < c.length
  · refine .inl ⟨(l.set (k : Int).toNat (bXor .u8 (el l (k : Int).toNat) 255), ((k + 1 : Nat) : Int)), ?_, ⟨k + 1, by omega, rfl, by simpa using hl⟩, by simp; omega⟩
    rw [decide_eq_true (show (k : Int) < ((c.length : Nat) : Int) by omega), cond_true, chk_t (inb_t (by omega) (by omega)), chk_t (inb_t (by omega) (by omega)), i64_id (show -9223372036854775808 ≤ (k : Int) + 1 by omega) (by omega)]
    rfl
  · refine .inr ?_
    rw [decide_eq_false (show ¬ (k : Int) < ((c.length : Nat) : Int) by omega), cond_false]
theorem spoil2 (c : List (List Int)) (hb : c.length ≤ 140737488355328) : loop FQuorumlaw6_SnapTrees_L116 (c, 0) = some () := by
  refine loop_to (fun (x : List (List Int) × Int) => ∃ k : Nat, k ≤ c.length ∧ x.2 = (k : Int) ∧ x.1.length = c.length) (fun x => c.length - x.2.toNat) _ ?_ ⟨0, by omega, rfl, rfl⟩
  rintro ⟨l, i⟩ ⟨k, hk, hi, hl⟩
  simp only at hi hl
  subst hi
  unfold FQuorumlaw6_SnapTrees_L116
  simp only [hl]
  by_cases hlt : k < c.length
  · refine .inl ⟨(l.set (k : Int).toNat [9, 0, 0, 0, 0, 0, 0, 0, 0, 0, 0, 0, 0, 0, 0, 0, 0, 0, 0, 0, 0, 0, 0, 0, 0, 0, 0, 0, 0, 0, 0, 0], ((k + 1 : Nat) : Int)), ?_, ⟨k + 1, by omega, rfl, by simpa using hl⟩, by simp; omega⟩
    rw [decide_eq_true (show (k : Int) < ((c.length : Nat) : Int) by omega), cond_true, chk_t (inb_t (by omega) (by omega)), i64_id (show -9223372036854775808 ≤ (k : Int) + 1 by omega) (by omega)]
    rfl
  · refine .inr ?_
    rw [decide_eq_false (show ¬ (k : Int) < ((c.length : Nat) : Int) by omega), cond_false]
/-- Both chunks, both paths. -/
theorem chunk_bad (data : List Int) (hd : data.length ≤ 48000) (i : Int) (h : i < 0 ∨ (nC data.length : Int) ≤ i) : FSnap_Chunk (data ++ marksS) data.length i = some (.inl ()) ∧ FQuorumref6_Chunk data i = some ([], [(snapT, i)], 123) := by
  obtain ⟨v, e1, e2, e3⟩ := chunks_eq ((data.length : Nat) : Int) (by omega) (by omega)
  have e3 := e3 (by omega)
  rw [Int.toNat_natCast] at e3
  subst e3
  unfold FSnap_Chunk FQuorumref6_Chunk
  rw [twin_take, e1, e2]
  by_cases h0 : i < 0
  · rw [decide_eq_true h0, cond_true, cond_true]; exact ⟨rfl, rfl⟩
  · rw [decide_eq_false h0, cond_false, cond_false, Option.bind_some, Option.bind_some, decide_eq_true (show i ≥ (nC data.length : Int) by omega), cond_true, cond_true]; exact ⟨rfl, rfl⟩
theorem chunk_good (data : List Int) (hd : data.length ≤ 48000) (i : Nat) (h : i < nC data.length) : FSnap_Chunk (data ++ marksS) data.length (i : Int) = some (.inr (pieceS data i)) ∧ FQuorumref6_Chunk data (i : Int) = some (pieceS data i, [], 0) := by
  obtain ⟨v, e1, e2, e3⟩ := chunks_eq ((data.length : Nat) : Int) (by omega) (by omega)
  have e3 := e3 (by omega)
  rw [Int.toNat_natCast] at e3
  subst e3
  have hC := nC_le data.length hd
  have hin := nC_in data.length i h
  have hw := piece_win data marksS i hin
  have hp := pieceS_len data i
  unfold FSnap_Chunk FQuorumref6_Chunk
  rw [twin_take, e1, e2, decide_eq_false (show ¬ (i : Int) < 0 by omega), cond_false, cond_false, Option.bind_some, Option.bind_some, decide_eq_false (show ¬ (i : Int) ≥ (nC data.length : Int) by omega), cond_false, cond_false, lies_is _ _ hd (by omega), Option.bind_some,
    chk_t (inc_t (by omega) (by omega) (by simp; omega)), Int.toNat_natCast, Int.toNat_natCast, hw, chk_t (okl1 (by omega)), piece_is data i hd hin]
  exact ⟨rfl, rfl⟩
theorem path_bad (data : List Int) (hd : data.length ≤ 48000) (i : Int) (h : i < 0 ∨ (nC data.length : Int) ≤ i) : FSnap_Path data i = some (.inl ()) ∧ FQuorumref6_Path data i = some ([], [(snapT, i)], 123) := by
  obtain ⟨v, e1, e2, e3⟩ := chunks_eq ((data.length : Nat) : Int) (by omega) (by omega)
  have e3 := e3 (by omega)
  rw [Int.toNat_natCast] at e3
  subst e3
  unfold FSnap_Path FQuorumref6_Path
  rw [e1, e2, Option.bind_some, Option.bind_some]
  by_cases h0 : i < 0
  · rw [decide_eq_true h0, cond_true, cond_true]; exact ⟨rfl, rfl⟩
  · rw [decide_eq_false h0, cond_false, cond_false, decide_eq_true (show i ≥ (nC data.length : Int) by omega), cond_true, cond_true]; exact ⟨rfl, rfl⟩
theorem path_good (data : List Int) (hd : data.length ≤ 48000) (i : Nat) (h : i < nC data.length) : ∃ p, FSnap_Path data (i : Int) = some (.inr p) ∧ FQuorumref6_Path data (i : Int) = some (p, [], 0) ∧ p.length ≤ 48 := by
  obtain ⟨v, e1, e2, e3⟩ := chunks_eq ((data.length : Nat) : Int) (by omega) (by omega)
  have e3 := e3 (by omega)
  rw [Int.toNat_natCast] at e3
  subst e3
  have hC := nC_le data.length hd
  obtain ⟨p, hp1, hp2, hp⟩ := paths_eq data hd (i : Int) 1000 0 (nC data.length) (by omega) (by omega) (by omega)
  have hp1 : FSnap_beside data 0 (nC data.length : Int) (i : Int) = some p := hp1
  have hp2 : FQuorumref6_Words_path (litH ++ litK) data (i : Int) 0 (nC data.length : Int) = some p := hp2
  refine ⟨p, ?_, ?_, by omega⟩
  · unfold FSnap_Path
    rw [e1, Option.bind_some, decide_eq_false (show ¬ (i : Int) < 0 by omega), cond_false, decide_eq_false (show ¬ (i : Int) ≥ (nC data.length : Int) by omega), cond_false, hp1]; rfl
  · unfold FQuorumref6_Path
    rw [e2, Option.bind_some, decide_eq_false (show ¬ (i : Int) < 0 by omega), cond_false, decide_eq_false (show ¬ (i : Int) ≥ (nC data.length : Int) by omega), cond_false, words_lit, Option.bind_some, hp2]; rfl
theorem roots_eq (data : List Int) (hd : data.length ≤ 48000) : ∃ r, FSnap_Root data = some r ∧ FQuorumref6_Root data = some r := by
  obtain ⟨v, e1, e2, e3⟩ := chunks_eq ((data.length : Nat) : Int) (by omega) (by omega)
  have e3 := e3 (by omega)
  rw [Int.toNat_natCast] at e3
  subst e3
  obtain ⟨r, h1, h2, _⟩ := row_both data hd 0 (nC data.length) (by unfold nC; split <;> omega) (by omega)
  have h1 : FSnap_row data 0 (nC data.length : Int) = some r := h1
  have h2 : FQuorumref6_Words_row (litH ++ litK) data 0 (nC data.length : Int) = some r := h2
  unfold FSnap_Root FQuorumref6_Root
  rw [e1, e2, words_lit, Option.bind_some, Option.bind_some, h1]
  simp only [Option.bind_some, h2]
  exact ⟨r, rfl, rfl⟩
/-- The law, as a plain function, answers true. -/
theorem trees_true (data : List Int) (i size : Int) (hs0 : -9223372036854775808 ≤ size) (hs1 : size ≤ 9223372036854775807) : FQuorumlaw6_SnapTrees data i size = some true := by
  unfold FQuorumlaw6_SnapTrees
  by_cases hd : ((data.length : Nat) : Int) > 48000
  · rw [decide_eq_true hd, cond_true]
  have hd' : data.length ≤ 48000 := by omega
  obtain ⟨a, a1, a2, _⟩ := chunks_eq size hs0 hs1
  obtain ⟨b, b1, b2, _⟩ := chunks_eq ((data.length : Nat) : Int) (by omega) (by omega)
  obtain ⟨r, r1, r2⟩ := roots_eq data hd'
  rw [decide_eq_false hd, cond_false, twin_is data (by omega), Option.bind_some]
  simp only [twin_take]
  rw [a1, Option.bind_some, a2, Option.bind_some, show (a != a) = false by simp, cond_false, b1, Option.bind_some, b2, Option.bind_some, show (b != b) = false by simp, cond_false]
  have hs0 : FQuorumlaw6_sameBytes [] [] = some true := same_is [] (by simp)
  have hh0 : FQuorumlaw6_sameHashes [] [] = some true := hashes_is [] (by simp)
  have hk := kept_is data (by omega)
  by_cases hi : i < 0 ∨ (nC data.length : Int) ≤ i
  · obtain ⟨c1, c2⟩ := chunk_bad data hd' i hi
    obtain ⟨p1, p2⟩ := path_bad data hd' i hi
    have hb := is_bad i
    unfold snapT at hb c2 p2
    have s1 := spoil1 [] (by simp)
    have s2 := spoil2 [] (by simp)
    simp only [c1, c2, p1, p2, Option.bind_some, Sum.elim_inl, hb, hs0, hh0, Bool.not_true, cond_false, cond_true, s1, s2, r1, r2, eqA_refl, hk]
  · obtain ⟨k, rfl⟩ : ∃ k : Nat, i = (k : Int) := ⟨i.toNat, by omega⟩
    have hk' : k < nC data.length := by omega
    obtain ⟨c1, c2⟩ := chunk_good data hd' k hk'
    obtain ⟨p, p1, p2, pl⟩ := path_good data hd' k hk'
    have hlen := pieceS_len data k
    have s1 := spoil1 (pieceS data k) (by omega)
    have s2 := spoil2 p (by omega)
    have hs := same_is (pieceS data k) (by omega)
    have hh := hashes_is p (by omega)
    simp only [c1, c2, p1, p2, Option.bind_some, Sum.elim_inl, Sum.elim_inr, is_good, hs, hh, Bool.not_true, cond_false, cond_true, s1, s2, r1, r2, eqA_refl, hk]
end Go.Proofs.YtlfaalbkhfjpkaaDoor
