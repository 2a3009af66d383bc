/- Proved: the law SnapSums, as a plain function, answers true. Conditions: the lists are no longer than lists can be. -/
import Derived.Test.YtlfaalbkhfjpkaaDoorShc
import Derived.Test.YtlfaalbkhfjpkaaDoorSuFn
set_option linter.unusedVariables false
set_option maxRecDepth 100000
namespace Go.Proofs.YtlfaalbkhfjpkaaDoor
open Go.RowKit

def markS (i : Nat) : Int := IntKind.u8.wrap (IntKind.i64.wrap (160 + (i : Int)))
def marksS : List Int := (List.range 72).map markS
theorem marksS_len : marksS.length = 72 := by simp [marksS]
theorem marksS_take (k : Nat) (h : k < 72) : marksS.take (k + 1) = marksS.take k ++ [markS k] := by
  rw [← take_el (by rw [marksS_len]; exact h), el_get (by rw [marksS_len]; exact h)]
  simp [marksS]
theorem marks_loop (a : List Int) (h : a.length + 72 ≤ 140737488355328) : loop FQuorumlaw6_twin_L26 (a, 0) = some (a ++ marksS) := by
  refine loop_to (fun (x : List Int × Int) => ∃ k : Nat, k ≤ 72 ∧ x = (a ++ marksS.take k, (k : Int))) (fun x => 72 - x.2.toNat) _ ?_ ⟨0, by omega, by simp⟩
  rintro x ⟨k, hk, rfl⟩
  have hm := marksS_len
  unfold FQuorumlaw6_twin_L26
  simp only []
  by_cases hl : k < 72
  · refine .inl ⟨(a ++ marksS.take (k + 1), ((k + 1 : Nat) : Int)), ?_, ⟨k + 1, by omega, rfl⟩, by simp; omega⟩
    rw [show decide ((k : Int) < 72) = true from decide_eq_true (by omega), cond_true, chk_t (okl1 (by simp; omega)), i64_id (show -9223372036854775808 ≤ (k : Int) + 1 by omega) (by omega), marksS_take k hl, List.append_assoc]
    rfl
  · refine .inr ?_
    have : k = 72 := by omega
    subst this
    rw [show decide (((72 : Nat) : Int) < 72) = false from rfl, cond_false, List.take_of_length_le (by omega)]
theorem twin_is (b : List Int) (h : b.length ≤ 1099511627776) : FQuorumlaw6_twin b = some (b ++ marksS, b.length) := by
  unfold FQuorumlaw6_twin
  rw [i64_id (show -9223372036854775808 ≤ ((b.length : Nat) : Int) + 72 by omega) (by omega), chk_t (by rw [inc_t (by omega) (by omega) (by omega), okl1 (by omega)]; rfl), show FQuorumlaw6_twin_L11 b = cpStep b from rfl, show List.replicate 0 (0 : Int) = [] from rfl,
    cp_loop [] b (by simp; omega), Option.bind_some, List.nil_append, marks_loop _ (by omega), Option.bind_some, chk_t (inc_t (by omega) (by omega) (by simp; omega)), Int.toNat_natCast]
theorem twin_take (b : List Int) : (b ++ marksS).take b.length = b := by simp
theorem same_is (b : List Int) (h : b.length ≤ 140737488355328) : FQuorumlaw6_sameBytes b b = some true := by
  unfold FQuorumlaw6_sameBytes
  rw [show (((b.length : Nat) : Int) != ((b.length : Nat) : Int)) = false by simp, cond_false]
  rw [loop_to (step := FQuorumlaw6_sameBytes_L6 b b) (x := 0) (fun (x : Int) => ∃ k : Nat, k ≤ b.length ∧ x = (k : Int)) (fun x => b.length - x.toNat) (Sum.inl ()) ?_ ⟨0, by omega, rfl⟩]
  · rfl
  · rintro x ⟨k, hk, rfl⟩
    unfold FQuorumlaw6_sameBytes_L6
    by_cases hl : k < b.length
    · refine .inl ⟨((k + 1 : Nat) : Int), ?_, ⟨k + 1, by omega, rfl⟩, by simp; omega⟩
      rw [show decide ((k : Int) < ((b.length : Nat) : Int)) = true from decide_eq_true (by omega), cond_true, chk_t (inb_t (by omega) (by omega)), chk_t (inb_t (by omega) (by omega)), show (el b (k : Int).toNat != el b (k : Int).toNat) = false by simp, cond_false, i64_id (by omega) (by omega)]
      rfl
    · refine .inr ?_
      rw [show decide ((k : Int) < ((b.length : Nat) : Int)) = false from decide_eq_false (by omega), cond_false]
theorem kept_is (b : List Int) (h : b.length ≤ 1099511627776) : FQuorumlaw6_kept (b ++ marksS) b.length b = some true := by
  have hm := marksS_len
  unfold FQuorumlaw6_kept
  rw [twin_take, same_is b (by omega), Option.bind_some, show (!true) = false from rfl, cond_false, i64_id (show -9223372036854775808 ≤ ((b.length : Nat) : Int) + 72 by omega) (by omega), chk_t (inc_t (by omega) (by omega) (by simp; omega))]
  rw [loop_to (step := FQuorumlaw6_kept_L16 (b ++ marksS) b) (x := 0) (fun (x : Int) => ∃ k : Nat, k ≤ 72 ∧ x = (k : Int)) (fun x => 72 - x.toNat) (Sum.inl ()) ?_ ⟨0, by omega, rfl⟩]
  · rfl
  · rintro x ⟨k, hk, rfl⟩
    unfold FQuorumlaw6_kept_L16
    by_cases hl : k < 72
    · refine .inl ⟨((k + 1 : Nat) : Int), ?_, ⟨k + 1, by omega, rfl⟩, by simp; omega⟩
      have e : el ((b ++ marksS).take (b.length + 72)) (b.length + k) = markS k := by
        rw [List.take_of_length_le (by simp; omega), el_get (by simp; omega), List.getElem_append_right (by omega)]
        simp [marksS]
      rw [show decide ((k : Int) < 72) = true from decide_eq_true (by omega), cond_true, i64_id (show -9223372036854775808 ≤ ((b.length : Nat) : Int) + (k : Int) by omega) (by omega), i64_id (show -9223372036854775808 ≤ ((b.length : Nat) : Int) + 72 by omega) (by omega),
        show (((b.length : Nat) : Int) + (72 : Int)).toNat = b.length + 72 by omega, show (((b.length : Nat) : Int) + (k : Int)).toNat = b.length + k by omega, chk_t (inb_t (by omega) (by simp; omega)), e, show (markS k != IntKind.u8.wrap (IntKind.i64.wrap (160 + (k : Int)))) = false by simp [markS], cond_false,
        i64_id (show -9223372036854775808 ≤ (k : Int) + 1 by omega) (by omega)]
      rfl
    · refine .inr ?_
      rw [show decide ((k : Int) < 72) = false from decide_eq_false (by omega), cond_false]
theorem spoil_some (y : List Int × Nat) (h : y.2 ≤ y.1.length) (hb : y.1.length ≤ 140737488355328) : ∃ u, loop (FQuorumlaw6_SnapSums_L195 y) (y.1, 0) = some u ∧ True := by
  refine loop_inv (fun (x : List Int × Int) => ∃ k : Nat, k ≤ y.2 ∧ x.2 = (k : Int) ∧ x.1.length = y.1.length) (fun x => y.2 - x.2.toNat) (fun _ => True) ?_ ⟨0, by omega, rfl, rfl⟩
  rintro ⟨l, i⟩ ⟨k, hk, hi, hl⟩
  simp only at hi hl
  subst hi
  have ht : (l.take y.2).length = y.2 := by rw [List.length_take]; omega
  unfold FQuorumlaw6_SnapSums_L195
  simp only [ht]
  by_cases hlt : k < y.2
  · refine .inl ⟨(l.set (k : Int).toNat (bXor .u8 (el (l.take y.2) (k : Int).toNat) 255), ((k + 1 : Nat) : Int)), ?_, ⟨k + 1, by omega, rfl, by simpa using hl⟩, by simp; omega⟩
    rw [show decide ((k : Int) < ((y.2 : Nat) : Int)) = true from decide_eq_true (by omega), cond_true, chk_t (inb_t (by omega) (by omega)), chk_t (inb_t (by omega) (by omega)), i64_id (show -9223372036854775808 ≤ (k : Int) + 1 by omega) (by omega)]
    rfl
  · refine .inr ⟨(), ?_, trivial⟩
    rw [show decide ((k : Int) < ((y.2 : Nat) : Int)) = false from decide_eq_false (by omega), cond_false]
/-- What stands at the head of a round. -/
def SInv (pieces : List (List Int)) (other : List Int) (x : (List Int) × (List Int) × Int × (List Int) × (List Int) × Int × (List Int) × (List Int) × Int) : Prop :=
  ∃ k : Nat, k ≤ 41 ∧ k ≤ pieces.length ∧ x.2.2.1 = (k : Int) ∧ x.1.length ≤ 4000 ∧ x.2.1.length ≤ 200 * k ∧ HInv x.2.1 x.2.2.2.1 x.2.2.2.2.1 x.2.2.2.2.2.1 ∧ HInv x.1 x.2.2.2.2.2.2.1 x.2.2.2.2.2.2.2.1 x.2.2.2.2.2.2.2.2
def SPost (y : ((List Int) × (List Int) × (List Int) × Int) ⊕ Bool) : Prop := ∃ z, y = .inl z ∧ z.1.length ≤ 4000 ∧ HInv z.1 z.2.1 z.2.2.1 z.2.2.2
theorem sums_loop (pieces : List (List Int)) (other : List Int) (hp : ∀ i, i < pieces.length → (el pieces i).length ≤ 281474976710656) (ho : other.length ≤ 281474976710656) :
    ∃ y, loop (FQuorumlaw6_SnapSums_L19 pieces other) ([], [], 0, litH, [], 0, litH, [], 0) = some y ∧ SPost y := by
  refine loop_inv (SInv pieces other) (fun x => pieces.length - x.2.2.1.toNat) SPost ?_ ⟨0, by omega, by omega, rfl, by simp, by simp, hinv_new, hinv_new⟩
  rintro ⟨all, beside, i, gs, gr, gn, hs, hr, hn⟩ ⟨k, hk, hkp, hi, ha, hb, hg, hh⟩
  simp only at hi ha hb hg hh
  subst hi
  by_cases hl : k < pieces.length
  · have hpk := hp k hl
    unfold FQuorumlaw6_SnapSums_L19
    simp only []
    rw [show decide ((k : Int) < ((pieces.length : Nat) : Int)) = true from decide_eq_true (by omega), cond_true, chk_t (inb_t (by omega) (by omega)), Int.toNat_natCast, i64_id (show -9223372036854775808 ≤ ((all.length : Nat) : Int) + (((el pieces k).length : Nat) : Int) by omega) (by omega)]
    by_cases h1 : ((all.length : Nat) : Int) + (((el pieces k).length : Nat) : Int) > 4000
    · rw [decide_eq_true h1, cond_true]
      exact .inr ⟨_, rfl, _, rfl, ha, hh⟩
    rw [decide_eq_false h1, cond_false]
    by_cases h2 : ((other.length : Nat) : Int) > 200
    · rw [decide_eq_true h2, cond_true]
      exact .inr ⟨_, rfl, _, rfl, ha, hh⟩
    rw [decide_eq_false h2, cond_false]
    by_cases h3 : (k : Int) > 40
    · rw [decide_eq_true h3, cond_true]
      exact .inr ⟨_, rfl, _, rfl, ha, hh⟩
    rw [decide_eq_false h3, cond_false]
    generalize hP : el pieces k = p at *
    obtain ⟨hs', hr', hn', hw, hh'⟩ := write_is (b := p) hh (by omega)
    obtain ⟨gs', gr', gn', gw, hg'⟩ := write_is (b := other) hg (by omega)
    have hal : (all ++ p).length = all.length + p.length := by simp
    have hbl : (beside ++ other).length = beside.length + other.length := by simp
    obtain ⟨u, hu, _⟩ := spoil_some (p ++ marksS, p.length) (by simp) (by simp [marksS_len]; omega)
    have e210 : FQuorumlaw6_SnapSums_L210 pieces (all, beside, (k : Int), gs, gr, gn, hs, hr, hn) = cpStep p := by
      funext x
      unfold FQuorumlaw6_SnapSums_L210 cpStep
      simp only [Int.toNat_natCast, hP]
      rw [chk_t (inb_t (by omega) (by omega)), chk_t (inb_t (by omega) (by omega))]
    refine .inl ⟨(all ++ p, beside ++ other, ((k + 1 : Nat) : Int), gs', gr', gn', hs', hr', hn'), ?_, ⟨k + 1, by omega, by omega, rfl, by simp only []; omega, by simp only []; omega, hg', hh'⟩, by simp; omega⟩
    rw [chk_t (inb_t (by omega) (by omega)), twin_is p (by omega), Option.bind_some, twin_is other (by omega), Option.bind_some]
    simp only [twin_take]
    rw [hw, Option.bind_some, gw, Option.bind_some, chk_t (inb_t (by omega) (by omega)), kept_is p (by omega), Option.bind_some, show (!true) = false from rfl, cond_false, kept_is other (by omega), Option.bind_some, show (!true) = false from rfl, cond_false,
      hu, Option.bind_some, e210, cp_loop all p (by omega), Option.bind_some, show FQuorumlaw6_SnapSums_L225 other = cpStep other from rfl, cp_loop beside other (by omega), Option.bind_some, ref_sum _ (by omega), Option.bind_some, twin_is _ (by omega), Option.bind_some]
    simp only [twin_take]
    rw [snap_sum _ (by omega), Option.bind_some, eqA_refl, show (!true) = false from rfl, cond_false, kept_is _ (by omega), Option.bind_some]
    simp only [bind1]
    rw [show (!true) = false from rfl, cond_false, sum_is hh' (by omega), Option.bind_some, eqA_refl, show (!true) = false from rfl, cond_false, Option.bind_some, eqA_refl, show (!true) = false from rfl, cond_false, sum_is hg' (by omega), Option.bind_some, ref_sum _ (by omega), Option.bind_some, eqA_refl, show (!true) = false from rfl, cond_false,
      i64_id (show -9223372036854775808 ≤ (k : Int) + 1 by omega) (by omega)]
    rfl
  · refine .inr ⟨.inl (all, hs, hr, hn), ?_, _, rfl, ha, hh⟩
    unfold FQuorumlaw6_SnapSums_L19
    simp only []
    rw [show decide ((k : Int) < ((pieces.length : Nat) : Int)) = false from decide_eq_false (by omega), cond_false]
/-- The law, as a plain function, answers true. -/
theorem sums_true (pieces : List (List Int)) (other : List Int) (hp : ∀ i, i < pieces.length → (el pieces i).length ≤ 281474976710656) (ho : other.length ≤ 281474976710656) : FQuorumlaw6_SnapSums pieces other = some true := by
  obtain ⟨y, hy, ⟨all, st, rest, n⟩, rfl, hl, hh⟩ := sums_loop pieces other hp ho
  simp only at hl hh
  unfold FQuorumlaw6_SnapSums
  rw [show FSnap_New = some litH from rfl, Option.bind_some, Option.bind_some, hy, Option.bind_some]
  simp only [Sum.elim_inl]
  rw [show FSnap_Hasher_Write2 = some () from rfl, Option.bind_some]
  unfold FSnap_Hasher_Write
  rw [show (!false) = true from rfl, cond_true, Option.bind_some, show FSnap_Hasher_Sum2 = some (List.replicate 32 0) from rfl, Option.bind_some]
  rw [show (!(eqA 32 0 (List.replicate 32 0) ([0, 0, 0, 0, 0, 0, 0, 0, 0, 0, 0, 0, 0, 0, 0, 0, 0, 0, 0, 0, 0, 0, 0, 0, 0, 0, 0, 0, 0, 0, 0, 0]))) = false from rfl, cond_false]
  rw [show FSnap_Hasher_Sum false [0, 0, 0, 0, 0, 0, 0, 0] [] 0 = some (List.replicate 32 0) from rfl, Option.bind_some, show (!(eqA 32 0 (List.replicate 32 0) ([0, 0, 0, 0, 0, 0, 0, 0, 0, 0, 0, 0, 0, 0, 0, 0, 0, 0, 0, 0, 0, 0, 0, 0, 0, 0, 0, 0, 0, 0, 0, 0]))) = false from rfl, cond_false]
  rw [sum_is hh (by omega), Option.bind_some, ref_sum _ (by omega), Option.bind_some, eqA_refl, cond_true, snap_sum [] (by simp), Option.bind_some, ref_sum [] (by simp), Option.bind_some, eqA_refl]
end Go.Proofs.YtlfaalbkhfjpkaaDoor
