/- Proved: the law SnapPieces, as a plain function, answers true. Conditions: the list is no longer than lists can be. -/
import Derived.Test.YtfmifminaldmhaaDoorPis
set_option linter.unusedVariables false
set_option maxRecDepth 100000
namespace Go.Proofs.YtfmifminaldmhaaDoor
open Go.RowKit

/-! Two sums that are published, by evaluation -/
noncomputable def blkC (h b : List Int) : Option (List Int) :=
  (it (FSnap_Hasher_block_L9 b) 20 (0, List.replicate 64 0)).bind (fun y10 => (it FSnap_Hasher_block_L24 60 (16, y10)).bind (fun y25 => (it (FSnap_Hasher_block_L47 y25 litK) 70 (0, h)).bind (fun y48 => some ([IntKind.u32.wrap ((el h 0) + (el y48 0)), IntKind.u32.wrap ((el h 1) + (el y48 1)), IntKind.u32.wrap ((el h 2) + (el y48 2)), IntKind.u32.wrap ((el h 3) + (el y48 3)), IntKind.u32.wrap ((el h 4) + (el y48 4)), IntKind.u32.wrap ((el h 5) + (el y48 5)), IntKind.u32.wrap ((el h 6) + (el y48 6)), IntKind.u32.wrap ((el h 7) + (el y48 7))]))))
theorem blk_of {h b y : List Int} (e : blkC h b = some y) : blkS h b = y := by
  unfold blkC at e
  cases e1 : it (FSnap_Hasher_block_L9 b) 20 (0, List.replicate 64 0) with
  | none => rw [e1] at e; cases e
  | some y10 =>
    rw [e1, Option.bind_some] at e
    cases e2 : it FSnap_Hasher_block_L24 60 (16, y10) with
    | none => rw [e2] at e; cases e
    | some y25 =>
      rw [e2, Option.bind_some] at e
      cases e3 : it (FSnap_Hasher_block_L47 y25 litK) 70 (0, h) with
      | none => rw [e3] at e; cases e
      | some y48 =>
        rw [e3, Option.bind_some] at e
        unfold blkS FSnap_Hasher_block
        rw [loop_of e1, Option.bind_some, loop_of e2, Option.bind_some, show FSnap_rounds = some litK from rfl, Option.bind_some]
        simp only [bind1, show fixl litK 64 0 = litK from rfl]
        rw [loop_of e3, Option.bind_some, e]; rfl
def abcS : List Int := [3128432319, 2399260650, 1094795486, 1571693091, 2953011619, 2518121116, 3021012833, 4060091821]
def nilS : List Int := [3820012610, 2566659092, 2600203464, 2574235940, 665731556, 1687917388, 2761267483, 2018687061]
theorem abc_blk : blkC litH (padS [97, 98, 99]) = some abcS := by kernel_rfl
theorem nil_blk : blkC litH (padS []) = some nilS := by kernel_rfl
theorem fold1 (h b : List Int) (hb : b.length = 64) : foldS (b.length / 64) h b = blkS h b := by
  rw [hb]
  show foldS 0 (blkS h (b.take 64)) (b.drop 64) = _
  rw [List.take_of_length_le (by omega)]; rfl
theorem abc_sum : sumS [97, 98, 99] = outS abcS := by unfold sumS; rw [fold1 _ _ rfl, blk_of abc_blk]
theorem nil_sum : sumS [] = outS nilS := by unfold sumS; rw [fold1 _ _ rfl, blk_of nil_blk]
theorem known_true : FQuorumlaw6_known = some true := by
  unfold FQuorumlaw6_known
  rw [snap_sum [97, 98, 99] (by simp), Option.bind_some, snap_sum [] (by simp), Option.bind_some, abc_sum, nil_sum]
  rfl
/-- Three pieces and one of nothing. -/
theorem tail_true (b : List Int) (hb : b.length ≤ 4000) (i j : Nat) (hij : i ≤ j) (hj : j ≤ b.length) :
    (FSnap_New).bind (fun y19 => chk (inc 0 (i : Int) b.length) ((FSnap_Hasher_Write true y19 ([]) 0 (b.take i)).bind (fun y30 => chk (inc (i : Int) (j : Int) b.length) ((FSnap_Hasher_Write true y30.1 y30.2.1 y30.2.2 ((b.drop i).take (j - i))).bind (fun y40 => (FSnap_Hasher_Sum true y40.1 y40.2.1 y40.2.2).bind (fun y48 => (FSnap_Hasher_Write true y40.1 y40.2.1 y40.2.2 ([])).bind (fun y56 => chk (inc 0 (j : Int) b.length) ((FSnap_Hasher_Write true y56.1 y56.2.1 y56.2.2 (b.drop j)).bind (fun y66 => (FSnap_Hasher_Sum true y66.1 y66.2.1 y66.2.2).bind (fun y74 => (FSnap_Sum b).bind (fun y82 => some (eqA 32 0 y74 y82))))))))))) ) = some true := by
  obtain ⟨s1, r1, n1, w1, i1⟩ := write_is (b := b.take i) hinv_new (by simp; omega)
  obtain ⟨s2, r2, n2, w2, i2⟩ := write_is (b := (b.drop i).take (j - i)) i1 (by simp; omega)
  obtain ⟨s3, r3, n3, w3, i3⟩ := write_is (b := []) i2 (by simp; omega)
  obtain ⟨s4, r4, n4, w4, i4⟩ := write_is (b := b.drop j) i3 (by simp; omega)
  have e : [] ++ b.take i ++ (b.drop i).take (j - i) ++ [] ++ b.drop j = b := by
    have h1 : b.take i ++ (b.drop i).take (j - i) = b.take j := by
      have := (List.take_append_drop i (b.take j)).symm
      rw [List.take_take, Nat.min_eq_left hij, List.drop_take] at this
      exact this.symm
    rw [List.nil_append, List.append_nil, h1, List.take_append_drop]
  rw [show FSnap_New = some litH from rfl, Option.bind_some, chk_t (inc_t (by omega) (by omega) (by omega)), w1, Option.bind_some, chk_t (inc_t (by omega) (by omega) (by omega))]
  simp only []
  rw [w2, Option.bind_some]
  simp only []
  rw [sum_is i2 (by simp; omega), Option.bind_some, w3, Option.bind_some, chk_t (inc_t (by omega) (by omega) (by omega))]
  simp only []
  rw [w4, Option.bind_some]
  simp only []
  rw [sum_is i4 (by rw [e]; omega), Option.bind_some, snap_sum b (by omega), Option.bind_some, e, eqA_refl]
theorem tail_int (b : List Int) (hb : b.length ≤ 4000) (x y : Int) (h0 : 0 ≤ x) (hxy : x ≤ y) (hy : y ≤ (b.length : Int)) :
    (FSnap_New).bind (fun y19 => chk (inc 0 x b.length) ((FSnap_Hasher_Write true y19 ([]) 0 (b.take x.toNat)).bind (fun y30 => chk (inc x y b.length) ((FSnap_Hasher_Write true y30.1 y30.2.1 y30.2.2 ((b.drop x.toNat).take (y.toNat - x.toNat))).bind (fun y40 => (FSnap_Hasher_Sum true y40.1 y40.2.1 y40.2.2).bind (fun y48 => (FSnap_Hasher_Write true y40.1 y40.2.1 y40.2.2 ([])).bind (fun y56 => chk (inc 0 y b.length) ((FSnap_Hasher_Write true y56.1 y56.2.1 y56.2.2 (b.drop y.toNat)).bind (fun y66 => (FSnap_Hasher_Sum true y66.1 y66.2.1 y66.2.2).bind (fun y74 => (FSnap_Sum b).bind (fun y82 => some (eqA 32 0 y74 y82))))))))))) ) = some true := by
  obtain ⟨i, rfl⟩ := Int.eq_ofNat_of_zero_le h0
  obtain ⟨j, rfl⟩ := Int.eq_ofNat_of_zero_le (Int.le_trans h0 hxy)
  exact tail_true b hb i j (by omega) (by omega)
theorem pieces_true (b : List Int) (i j : Int) : FQuorumlaw6_SnapPieces b i j = some true := by
  unfold FQuorumlaw6_SnapPieces
  rw [known_true, Option.bind_some]
  show (bif decide _ then _ else _) = _
  by_cases hb : ((b.length : Nat) : Int) > 4000
  · rw [decide_eq_true hb]; rfl
  rw [decide_eq_false hb, cond_false]
  have hb' : b.length ≤ 4000 := by omega
  by_cases h1 : i < 0
  · rw [decide_eq_true h1, cond_true]
    by_cases h2 : j < 0
    · rw [decide_eq_true h2, cond_true]
      exact tail_int b hb' 0 _ (Int.le_refl _) (by omega) (Int.le_refl _)
    · rw [decide_eq_false h2, cond_false]
      by_cases h3 : j > ((b.length : Nat) : Int)
      · rw [decide_eq_true h3, cond_true, Option.bind_some]
        exact tail_int b hb' 0 _ (Int.le_refl _) (by omega) (Int.le_refl _)
      · rw [decide_eq_false h3, cond_false, Option.bind_some]
        exact tail_int b hb' 0 j (Int.le_refl _) (by omega) (by omega)
  · rw [decide_eq_false h1, cond_false]
    have go : ∀ x : Int, 0 ≤ x → x ≤ (b.length : Int) → (bif decide (j < x) then (FSnap_New).bind (fun y191 => chk (inc 0 x b.length) ((FSnap_Hasher_Write true y191 ([]) 0 (b.take x.toNat)).bind (fun y202 => chk (inc x ((b.length : Nat) : Int) b.length) ((FSnap_Hasher_Write true y202.1 y202.2.1 y202.2.2 ((b.drop x.toNat).take (((b.length : Nat) : Int).toNat - x.toNat))).bind (fun y212 => (FSnap_Hasher_Sum true y212.1 y212.2.1 y212.2.2).bind (fun y220 => (FSnap_Hasher_Write true y212.1 y212.2.1 y212.2.2 ([])).bind (fun y228 => chk (inc 0 ((b.length : Nat) : Int) b.length) ((FSnap_Hasher_Write true y228.1 y228.2.1 y228.2.2 (b.drop ((b.length : Nat) : Int).toNat)).bind (fun y238 => (FSnap_Hasher_Sum true y238.1 y238.2.1 y238.2.2).bind (fun y246 => (FSnap_Sum b).bind (fun y254 => some (eqA 32 0 y246 y254)))))))))))) else ((bif decide (j > ((b.length : Nat) : Int)) then some ((b.length : Nat) : Int) else some j)).bind (fun y263 => (FSnap_New).bind (fun y275 => chk (inc 0 x b.length) ((FSnap_Hasher_Write true y275 ([]) 0 (b.take x.toNat)).bind (fun y285 => chk (inc x y263 b.length) ((FSnap_Hasher_Write true y285.1 y285.2.1 y285.2.2 ((b.drop x.toNat).take (y263.toNat - x.toNat))).bind (fun y295 => (FSnap_Hasher_Sum true y295.1 y295.2.1 y295.2.2).bind (fun y303 => (FSnap_Hasher_Write true y295.1 y295.2.1 y295.2.2 ([])).bind (fun y311 => chk (inc 0 y263 b.length) ((FSnap_Hasher_Write true y311.1 y311.2.1 y311.2.2 (b.drop y263.toNat)).bind (fun y321 => (FSnap_Hasher_Sum true y321.1 y321.2.1 y321.2.2).bind (fun y329 => (FSnap_Sum b).bind (fun y337 => some (eqA 32 0 y329 y337)))))))))))))) = some true := by
      intro x hx0 hx
      by_cases h2 : j < x
      · rw [decide_eq_true h2, cond_true]
        exact tail_int b hb' x _ hx0 hx (Int.le_refl _)
      · rw [decide_eq_false h2, cond_false]
        by_cases h3 : j > ((b.length : Nat) : Int)
        · rw [decide_eq_true h3, cond_true, Option.bind_some]
          exact tail_int b hb' x _ hx0 hx (Int.le_refl _)
        · rw [decide_eq_false h3, cond_false, Option.bind_some]
          exact tail_int b hb' x j hx0 (by omega) (by omega)
    · by_cases h3 : i > ((b.length : Nat) : Int)
      · rw [decide_eq_true h3, cond_true, Option.bind_some]
        exact go 0 (Int.le_refl _) (by omega)
      · rw [decide_eq_false h3, cond_false, Option.bind_some]
        exact go i (by omega) (by omega)
end Go.Proofs.YtfmifminaldmhaaDoor
