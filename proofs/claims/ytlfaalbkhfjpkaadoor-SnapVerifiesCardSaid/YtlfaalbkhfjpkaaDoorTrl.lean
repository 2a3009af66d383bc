/- Proved: the law SnapVerifies, as a plain function, answers true. Conditions: the sums of the path are lists of 32 numbers. -/
import Derived.Test.YtlfaalbkhfjpkaaDoorTre
set_option linter.unusedVariables false
set_option maxRecDepth 100000
namespace Go.Proofs.YtlfaalbkhfjpkaaDoor
open Go.RowKit

def markS (i : Nat) : Int := IntKind.u8.wrap (IntKind.i64.wrap (160 + (i : Int)))
def marksS : List Int := (List.range 72).map markS
theorem marksS_len : marksS.length = 72 := by simp [marksS]
theorem marksS_take (k : Nat) (h : k < 72) : marksS.take (k + 1) = marksS.take k ++ [markS k] := by
  rw [← take_el (by rw [marksS_len]; exact h), el_get (by rw [marksS_len]; exact h)]
  simp [marksS]
theorem marks_loop (a : List Int) (h : a.length + 72 ≤ 140737488355328) : loop FQuorumlaw6_twin_L26 (a, 0) = some (a ++ marksS) := by
  refine loop_to (fun (x : List Int × Int) => ∃ k : Nat, k ≤ 72 ∧ x = (a ++ marksS.take k, (k : Int))) (fun x => 72 - x.2.toNat) _ ?_ ⟨0, by omega, by simp⟩
  rintro x ⟨k, hk, rfl⟩
  have hm := marksS_len
  unfold FQuorumlaw6_twin_L26
  simp only []
  by_cases hl : k < 72
  · refine .inl ⟨(a ++ marksS.take (k + 1), ((k + 1 : Nat) : Int)), ?_, ⟨k + 1, by omega, rfl⟩, by simp; omega⟩
    rw [show decide ((k : Int) < 72) = true from decide_eq_true (by omega), cond_true, chk_t (okl1 (by simp; omega)), i64_id (show -9223372036854775808 ≤ (k : Int) + 1 by omega) (by omega), marksS_take k hl, List.append_assoc]
    rfl
  · refine .inr ?_
    have : k = 72 := by omega
    subst this
    rw [show decide (((72 : Nat) : Int) < 72) = false from rfl, cond_false, List.take_of_length_le (by omega)]
theorem twin_is (b : List Int) (h : b.length ≤ 1099511627776) : FQuorumlaw6_twin b = some (b ++ marksS, b.length) := by
  unfold FQuorumlaw6_twin
  rw [i64_id (show -9223372036854775808 ≤ ((b.length : Nat) : Int) + 72 by omega) (by omega), chk_t (by rw [inc_t (by omega) (by omega) (by omega), okl1 (by omega)]; rfl), show FQuorumlaw6_twin_L11 b = cpStep b from rfl, show List.replicate 0 (0 : Int) = [] from rfl,
    cp_loop [] b (by simp; omega), Option.bind_some, List.nil_append, marks_loop _ (by omega), Option.bind_some, chk_t (inc_t (by omega) (by omega) (by simp; omega)), Int.toNat_natCast]
theorem twin_take (b : List Int) : (b ++ marksS).take b.length = b := by simp
theorem same_is (b : List Int) (h : b.length ≤ 140737488355328) : FQuorumlaw6_sameBytes b b = some true := by
  unfold FQuorumlaw6_sameBytes
  rw [show (((b.length : Nat) : Int) != ((b.length : Nat) : Int)) = false by simp, cond_false]
  rw [loop_to (step := FQuorumlaw6_sameBytes_L6 b b) (x := 0) (fun (x : Int) => ∃ k : Nat, k ≤ b.length ∧ x = (k : Int)) (fun x => b.length - x.toNat) (Sum.inl ()) ?_ ⟨0, by omega, rfl⟩]
  · rfl
  · rintro x ⟨k, hk, rfl⟩
    unfold FQuorumlaw6_sameBytes_L6
    by_cases hl : k < b.length
    · refine .inl ⟨((k + 1 : Nat) : Int), ?_, ⟨k + 1, by omega, rfl⟩, by simp; omega⟩
      rw [show decide ((k : Int) < ((b.length : Nat) : Int)) = true from decide_eq_true (by omega), cond_true, chk_t (inb_t (by omega) (by omega)), chk_t (inb_t (by omega) (by omega)), show (el b (k : Int).toNat != el b (k : Int).toNat) = false by simp, cond_false, i64_id (by omega) (by omega)]
      rfl
    · refine .inr ?_
      rw [show decide ((k : Int) < ((b.length : Nat) : Int)) = false from decide_eq_false (by omega), cond_false]
theorem kept_is (b : List Int) (h : b.length ≤ 1099511627776) : FQuorumlaw6_kept (b ++ marksS) b.length b = some true := by
  have hm := marksS_len
  unfold FQuorumlaw6_kept
  rw [twin_take, same_is b (by omega), Option.bind_some, show (!true) = false from rfl, cond_false, i64_id (show -9223372036854775808 ≤ ((b.length : Nat) : Int) + 72 by omega) (by omega), chk_t (inc_t (by omega) (by omega) (by simp; omega))]
  rw [loop_to (step := FQuorumlaw6_kept_L16 (b ++ marksS) b) (x := 0) (fun (x : Int) => ∃ k : Nat, k ≤ 72 ∧ x = (k : Int)) (fun x => 72 - x.toNat) (Sum.inl ()) ?_ ⟨0, by omega, rfl⟩]
  · rfl
  · rintro x ⟨k, hk, rfl⟩
    unfold FQuorumlaw6_kept_L16
    by_cases hl : k < 72
    · refine .inl ⟨((k + 1 : Nat) : Int), ?_, ⟨k + 1, by omega, rfl⟩, by simp; omega⟩
      have e : el ((b ++ marksS).take (b.length + 72)) (b.length + k) = markS k := by
        rw [List.take_of_length_le (by simp; omega), el_get (by simp; omega), List.getElem_append_right (by omega)]
        simp [marksS]
      rw [show decide ((k : Int) < 72) = true from decide_eq_true (by omega), cond_true, i64_id (show -9223372036854775808 ≤ ((b.length : Nat) : Int) + (k : Int) by omega) (by omega), i64_id (show -9223372036854775808 ≤ ((b.length : Nat) : Int) + 72 by omega) (by omega),
        show (((b.length : Nat) : Int) + (72 : Int)).toNat = b.length + 72 by omega, show (((b.length : Nat) : Int) + (k : Int)).toNat = b.length + k by omega, chk_t (inb_t (by omega) (by simp; omega)), e, show (markS k != IntKind.u8.wrap (IntKind.i64.wrap (160 + (k : Int)))) = false by simp [markS], cond_false,
        i64_id (show -9223372036854775808 ≤ (k : Int) + 1 by omega) (by omega)]
      rfl
    · refine .inr ?_
      rw [show decide ((k : Int) < 72) = false from decide_eq_false (by omega), cond_false]
def snapT : ByteArray := ⟨#[115, 110, 97, 112]⟩
theorem is_bad (i code : Int) (hc : code ≠ 0) : FQuorumlaw0_Is snapT i code [(snapT, i)] code = some true := by
  unfold FQuorumlaw0_Is FQuorumlaw0_Told
  rw [Option.bind_some, show (code != 0) = true by simpa using hc, cond_true]
  unfold FQuorumref0_Same
  rw [show (code != code) = false by simp, cond_false, show (((([(snapT, i)] : List (ByteArray × Int)).length : Nat) : Int) != ((([(snapT, i)] : List (ByteArray × Int)).length : Nat) : Int)) = false from rfl, cond_false]
  rw [loop_next (step := FQuorumref0_Same_L19 [(snapT, i)] [(snapT, i)]) (x' := 1) (o := some (.inl ())) ?_ (loop_end ?_)]
  · rfl
  · have hin0 : inb 0 ([(snapT, i)] : List (ByteArray × Int)).length = true := rfl
    unfold FQuorumref0_Same_L19
    rw [show decide ((0 : Int) < ((([(snapT, i)] : List (ByteArray × Int)).length : Nat) : Int)) = true from rfl, cond_true, chk_t hin0, chk_t hin0]
    have e : el [(snapT, i)] (0 : Int).toNat = (snapT, i) := rfl
    rw [e]
    simp only [bind1]
    rw [show (!(snapT.toList == snapT.toList)) = false by simp, cond_false, chk_t hin0, chk_t hin0, show ((i : Int) != i) = false by simp, cond_false]
    rfl
  · rfl
theorem is_good : FQuorumlaw0_Is2 [] 0 = some true := by
  unfold FQuorumlaw0_Is2 FQuorumlaw0_Told2
  rw [loop_end (step := FQuorumlaw0_Told2_L16) (y := ()) rfl, Option.bind_some, Option.bind_some]
  unfold FQuorumref0_Same
  rw [show ((0 : Int) != 0) = false from rfl, cond_false, show (((([] : List (ByteArray × Int)).length : Nat) : Int) != ((([] : List (ByteArray × Int)).length : Nat) : Int)) = false from rfl, cond_false, loop_end (step := FQuorumref0_Same_L19 [] []) (y := .inl ()) rfl]
  rfl
theorem hashes_is (b : List (List Int)) (h : b.length ≤ 140737488355328) : FQuorumlaw6_sameHashes b b = some true := by
  unfold FQuorumlaw6_sameHashes
  rw [show (((b.length : Nat) : Int) != ((b.length : Nat) : Int)) = false by simp, cond_false]
  rw [loop_to (step := FQuorumlaw6_sameHashes_L6 b b) (x := 0) (fun (x : Int) => ∃ k : Nat, k ≤ b.length ∧ x = (k : Int)) (fun x => b.length - x.toNat) (Sum.inl ()) ?_ ⟨0, by omega, rfl⟩]
  · rfl
  · rintro x ⟨k, hk, rfl⟩
    unfold FQuorumlaw6_sameHashes_L6
    by_cases hl : k < b.length
    · refine .inl ⟨((k + 1 : Nat) : Int), ?_, ⟨k + 1, by omega, rfl⟩, by simp; omega⟩
      rw [show decide ((k : Int) < ((b.length : Nat) : Int)) = true from decide_eq_true (by omega), cond_true, chk_t (inb_t (by omega) (by omega)), chk_t (inb_t (by omega) (by omega)), eqA_refl, show (!true) = false from rfl, cond_false, i64_id (by omega) (by omega)]
      rfl
    · refine .inr ?_
      rw [show decide ((k : Int) < ((b.length : Nat) : Int)) = false from decide_eq_false (by omega), cond_false]
/-! The way up -/
noncomputable def pairS (l r : List Int) : List Int := sumS ([1] ++ l ++ r)
noncomputable def upN (bs : List Bool) (path : List (List Int)) (leaf : List Int) : Nat → List Int
  | 0 => leaf
  | k + 1 => bif el bs k then pairS (el path k) (upN bs path leaf k) else pairS (upN bs path leaf k) (el path k)
theorem upN_succ (bs : List Bool) (path : List (List Int)) (leaf : List Int) (k : Nat) : upN bs path leaf (k + 1) = bif el bs k then pairS (el path k) (upN bs path leaf k) else pairS (upN bs path leaf k) (el path k) := rfl
theorem upN_len (bs : List Bool) (path : List (List Int)) (leaf : List Int) (h : leaf.length = 32) : ∀ k, (upN bs path leaf k).length = 32
  | 0 => h
  | k + 1 => by unfold upN; cases el bs k <;> exact sumS_len _
theorem upN_same {bs bs' : List Bool} {path path' : List (List Int)} {leaf : List Int} : ∀ k, (∀ j, j < k → el bs j = el bs' j ∧ el path j = el path' j) → upN bs path leaf k = upN bs' path' leaf k
  | 0, _ => rfl
  | k + 1, h => by
    unfold upN
    rw [(h k (by omega)).1, (h k (by omega)).2, upN_same k (fun j hj => h j (by omega))]
theorem pair_is' (l r : List Int) (hl : l.length = 32) (hr : r.length = 32) : FSnap_pair l r = some (pairS l r) := pair_is l r hl hr
theorem up_loop (path : List (List Int)) (bs : List Bool) (leaf : List Int) (hl : path.length = bs.length) (hn : bs.length ≤ 1000) (hf : leaf.length = 32) (hp : ∀ k, k < path.length → (el path k).length = 32) :
    loop (FSnap_Verify_L114 path bs) (0, leaf) = some (upN bs path leaf bs.length) := by
  refine loop_to (fun (x : Int × List Int) => ∃ k : Nat, k ≤ bs.length ∧ x = ((k : Int), upN bs path leaf k)) (fun x => bs.length - x.1.toNat) _ ?_ ⟨0, by omega, rfl⟩
  rintro x ⟨k, hk, rfl⟩
  unfold FSnap_Verify_L114
  simp only []
  by_cases hc : k < bs.length
  · refine .inl ⟨(((k + 1 : Nat) : Int), upN bs path leaf (k + 1)), ?_, ⟨k + 1, by omega, rfl⟩, by simp; omega⟩
    have h1 := upN_len bs path leaf hf k
    have h2 := hp k (by omega)
    rw [decide_eq_true (show (k : Int) < ((bs.length : Nat) : Int) by omega), cond_true, chk_t (inb_t (by omega) (by omega)), Int.toNat_natCast, i64_id (show -9223372036854775808 ≤ (k : Int) + 1 by omega) (by omega)]
    rw [upN_succ]
    cases hb : el bs k with
    | true => rw [cond_true, cond_true, chk_t (inb_t (by omega) (by omega)), pair_is' _ _ h2 h1]; rfl
    | false => rw [cond_false, cond_false, chk_t (inb_t (by omega) (by omega)), pair_is' _ _ h1 h2]; rfl
  · refine .inr ?_
    have : k = bs.length := by omega
    subst this
    rw [decide_eq_false (by omega), cond_false]
theorem el_last {α : Type} [Inhabited α] (xs : List α) (x : α) : el (xs ++ [x]) xs.length = x := by rw [el_get (by simp)]; simp
theorem el_fore {α : Type} [Inhabited α] (xs : List α) (x : α) (j : Nat) (h : j < xs.length) : el (xs ++ [x]) j = el xs j := by rw [el_get (by simp; omega), el_get h, List.getElem_append_left h]
theorem way : ∀ (m n i : Nat), i < n → 1 ≤ n → n ≤ m → n ≤ 900 → ∃ bs : List Bool, itR FSnap_sides_U m ((n : Int), (i : Int)) = some bs ∧ bs.length < n ∧
    (∀ d : Nat, d + n ≤ 6000 → loop FQuorumref6_Depth_L3 ((i : Int), (n : Int), (d : Int)) = some ((d + bs.length : Nat) : Int)) ∧
    ∀ (path : List (List Int)) (leaf : List Int), path.length = bs.length → leaf.length = 32 → (∀ k, k < path.length → (el path k).length = 32) →
      itR FQuorumref6_Words_lead_U m (litH ++ litK, leaf, (i : Int), (n : Int), path) = some (upN bs path leaf bs.length) := by
  intro m
  induction m with
  | zero => intro n i h0 h1 h2; omega
  | succ m ih =>
    intro n i h0 h1 h2 h3
    show ∃ bs : List Bool, FSnap_sides_S (itR FSnap_sides_U m) (n : Int) (i : Int) = some bs ∧ bs.length < n ∧
      (∀ d : Nat, d + n ≤ 6000 → loop FQuorumref6_Depth_L3 ((i : Int), (n : Int), (d : Int)) = some ((d + bs.length : Nat) : Int)) ∧
      ∀ (path : List (List Int)) (leaf : List Int), path.length = bs.length → leaf.length = 32 → (∀ k, k < path.length → (el path k).length = 32) →
        FQuorumref6_Words_lead_S (itR FQuorumref6_Words_lead_U m) (litH ++ litK) leaf (i : Int) (n : Int) path = some (upN bs path leaf bs.length)
    by_cases hn : n = 1
    · subst hn
      refine ⟨[], ?_, by simp, fun d _ => ?_, fun path leaf hl hf hp => ?_⟩
      · unfold FSnap_sides_S; rfl
      · refine loop_end ?_
        unfold FQuorumref6_Depth_L3
        rw [show decide (((1 : Nat) : Int) > 1) = false from rfl, cond_false]
        simp
      · unfold FQuorumref6_Words_lead_S; rfl
    · obtain ⟨k, hk1, hk2, e1, e2⟩ := half_is n (by omega) (by omega)
      have hc : (((n : Nat) : Int) == 1) = false := by simp; omega
      have key : ∀ (b : Bool) (n' i' : Nat), i' < n' → 1 ≤ n' → n' ≤ m → n' < n →
          (∀ f : Int × Int → Option (List Bool), FSnap_sides_S f (n : Int) (i : Int) = (f ((n' : Int), (i' : Int))).bind (fun y => chk (okl ((y ++ [b]).length) 1) (some (y ++ [b])))) →
          (∀ d : Nat, d + n ≤ 6000 → FQuorumref6_Depth_L3 ((i : Int), (n : Int), (d : Int)) = some (.inl ((i' : Int), (n' : Int), ((d + 1 : Nat) : Int)))) →
          (∀ (f : List Int × List Int × Int × Int × List (List Int) → Option (List Int)) (path : List (List Int)) (leaf : List Int), 1 ≤ path.length → path.length ≤ 1000 → FQuorumref6_Words_lead_S f (litH ++ litK) leaf (i : Int) (n : Int) path =
            (f (litH ++ litK, leaf, (i' : Int), (n' : Int), path.take (path.length - 1))).bind (fun y => (bif b then FQuorumref6_RowBytes (el path (path.length - 1)) y else FQuorumref6_RowBytes y (el path (path.length - 1))).bind (fun z => (FQuorumref6_Words_sum (litH ++ litK) z).bind (fun q => some q)))) →
          ∃ bs : List Bool, FSnap_sides_S (itR FSnap_sides_U m) (n : Int) (i : Int) = some bs ∧ bs.length < n ∧
            (∀ d : Nat, d + n ≤ 6000 → loop FQuorumref6_Depth_L3 ((i : Int), (n : Int), (d : Int)) = some ((d + bs.length : Nat) : Int)) ∧
            ∀ (path : List (List Int)) (leaf : List Int), path.length = bs.length → leaf.length = 32 → (∀ k, k < path.length → (el path k).length = 32) →
              FQuorumref6_Words_lead_S (itR FQuorumref6_Words_lead_U m) (litH ++ litK) leaf (i : Int) (n : Int) path = some (upN bs path leaf bs.length) := by
        intro b n' i' hi' hn1 hnm hnn hs hd hl
        obtain ⟨bs, b1, b2, b3, b4⟩ := ih n' i' hi' hn1 hnm (by omega)
        refine ⟨bs ++ [b], ?_, by simp; omega, fun d hdd => ?_, fun path leaf hpl hf hp => ?_⟩
        · rw [hs, b1, Option.bind_some, chk_t (okl1 (by simp; omega))]
        · refine loop_next (hd d hdd) ?_
          rw [b3 (d + 1) (by omega)]
          congr 2
          simp; omega
        · have hlen : path.length = bs.length + 1 := by simpa using hpl
          rw [hl _ _ _ (by omega) (by omega), hlen, Nat.add_sub_cancel]
          have ht : (path.take bs.length).length = bs.length := by rw [List.length_take]; omega
          rw [b4 (path.take bs.length) leaf ht hf (fun k hk => by rw [el_take (by omega) (by omega)]; exact hp k (by omega)), Option.bind_some]
          have hu : upN bs (path.take bs.length) leaf bs.length = upN (bs ++ [b]) path leaf bs.length := upN_same _ (fun j hj => ⟨(el_fore bs b j hj).symm, el_take hj (by omega)⟩)
          have h1 := upN_len (bs ++ [b]) path leaf hf bs.length
          have h2 := hp bs.length (by omega)
          rw [hu, List.length_append, show bs.length + [b].length = bs.length + 1 from rfl]
          rw [upN_succ, el_last]
          cases b with
          | true => rw [cond_true, cond_true, rowb_is _ _ h2 h1, Option.bind_some, ref_wsum _ (by simp; omega)]; rfl
          | false => rw [cond_false, cond_false, rowb_is _ _ h1 h2, Option.bind_some, ref_wsum _ (by simp; omega)]; rfl
      by_cases hi : i < k
      · refine key false k i hi hk1 (by omega) hk2 (fun f => ?_) (fun d hd => ?_) (fun f path leaf hp1 hp2 => ?_)
        · unfold FSnap_sides_S
          rw [hc, cond_false, e1, Option.bind_some, decide_eq_true (show (i : Int) < (k : Int) by omega), cond_true]
        · unfold FQuorumref6_Depth_L3
          simp only []
          rw [decide_eq_true (show ((n : Nat) : Int) > 1 by omega), cond_true, e2, Option.bind_some, decide_eq_true (show (i : Int) < (k : Int) by omega), cond_true, Option.bind_some, i64_id (show -9223372036854775808 ≤ (d : Int) + 1 by omega) (by omega)]
          rfl
        · unfold FQuorumref6_Words_lead_S
          rw [hc, cond_false, e2, Option.bind_some, i64_id (show -9223372036854775808 ≤ ((path.length : Nat) : Int) - 1 by omega) (by omega), chk_t (inb_t (by omega) (by omega)), chk_t (inc_t (by omega) (by omega) (by omega)), decide_eq_true (show (i : Int) < (k : Int) by omega), cond_true,
            show (((path.length : Nat) : Int) - 1).toNat = path.length - 1 by omega]
          rfl
      · refine key true (n - k) (i - k) (by omega) (by omega) (by omega) (by omega) (fun f => ?_) (fun d hd => ?_) (fun f path leaf hp1 hp2 => ?_)
        · unfold FSnap_sides_S
          rw [hc, cond_false, e1, Option.bind_some, decide_eq_false (show ¬ (i : Int) < (k : Int) by omega), cond_false, i64_id (show -9223372036854775808 ≤ (n : Int) - (k : Int) by omega) (by omega), i64_id (show -9223372036854775808 ≤ (i : Int) - (k : Int) by omega) (by omega),
            show (n : Int) - (k : Int) = ((n - k : Nat) : Int) by omega, show (i : Int) - (k : Int) = ((i - k : Nat) : Int) by omega]
        · unfold FQuorumref6_Depth_L3
          simp only []
          rw [decide_eq_true (show ((n : Nat) : Int) > 1 by omega), cond_true, e2, Option.bind_some, decide_eq_false (show ¬ (i : Int) < (k : Int) by omega), cond_false, Option.bind_some, i64_id (show -9223372036854775808 ≤ (d : Int) + 1 by omega) (by omega), i64_id (show -9223372036854775808 ≤ (n : Int) - (k : Int) by omega) (by omega), i64_id (show -9223372036854775808 ≤ (i : Int) - (k : Int) by omega) (by omega),
            show (n : Int) - (k : Int) = ((n - k : Nat) : Int) by omega, show (i : Int) - (k : Int) = ((i - k : Nat) : Int) by omega]
          rfl
        · unfold FQuorumref6_Words_lead_S
          rw [hc, cond_false, e2, Option.bind_some, i64_id (show -9223372036854775808 ≤ ((path.length : Nat) : Int) - 1 by omega) (by omega), chk_t (inb_t (by omega) (by omega)), chk_t (inc_t (by omega) (by omega) (by omega)), decide_eq_false (show ¬ (i : Int) < (k : Int) by omega), cond_false,
            show (((path.length : Nat) : Int) - 1).toNat = path.length - 1 by omega, i64_id (show -9223372036854775808 ≤ (n : Int) - (k : Int) by omega) (by omega), i64_id (show -9223372036854775808 ≤ (i : Int) - (k : Int) by omega) (by omega),
            show (n : Int) - (k : Int) = ((n - k : Nat) : Int) by omega, show (i : Int) - (k : Int) = ((i - k : Nat) : Int) by omega]
          rfl
/-! Twins of paths -/
theorem twinp_loop (p : List (List Int)) (hp : ∀ k, k < p.length → (el p k).length = 32) (hl : p.length ≤ 1000) : loop (FQuorumlaw6_twinPath_L14 p) ([], 0) = some p := by
  refine loop_to (fun (x : List (List Int) × Int) => ∃ k : Nat, k ≤ p.length ∧ x = (p.take k, (k : Int))) (fun x => p.length - x.2.toNat) _ ?_ ⟨0, by omega, rfl⟩
  rintro x ⟨k, hk, rfl⟩
  by_cases hc : k < p.length
  · refine .inl ⟨(p.take (k + 1), ((k + 1 : Nat) : Int)), ?_, ⟨k + 1, by omega, rfl⟩, by simp; omega⟩
    have e : fixl (el p k) 32 0 = el p k := fixl_id _ _ (hp k hc)
    show (bif decide ((k : Int) < ((p.length : Nat) : Int)) then chk (inb (k : Int) p.length) (chk (okl ((p.take k ++ [fixl (el p (k : Int).toNat) 32 0]).length) 32) (bind1 (p.take k ++ [fixl (el p (k : Int).toNat) 32 0]) (fun v64 => some (Sum.inl (v64, IntKind.i64.wrap ((k : Int) + 1)))))) else some (Sum.inr (p.take k))) = _
    rw [decide_eq_true (show (k : Int) < ((p.length : Nat) : Int) by omega), cond_true, chk_t (inb_t (by omega) (by omega)), Int.toNat_natCast, e, chk_t (okl_t (by simp; omega) (by omega)), i64_id (show -9223372036854775808 ≤ (k : Int) + 1 by omega) (by omega), take_el hc]
    rfl
  · refine .inr ?_
    have : k = p.length := by omega
    subst this
    unfold FQuorumlaw6_twinPath_L14
    simp only []
    rw [decide_eq_false (by omega), cond_false, List.take_of_length_le (Nat.le_refl _)]
def sevenS : List Int := [7, 7, 0, 0, 0, 0, 0, 0, 0, 0, 0, 0, 0, 0, 0, 0, 0, 0, 0, 0, 0, 0, 0, 0, 0, 0, 0, 0, 0, 0, 0, 0]
theorem twinp_is (p : List (List Int)) (hp : ∀ k, k < p.length → (el p k).length = 32) (hl : p.length ≤ 1000) : FQuorumlaw6_twinPath p = some (p ++ [sevenS], p.length) := by
  unfold FQuorumlaw6_twinPath
  rw [i64_id (show -9223372036854775808 ≤ ((p.length : Nat) : Int) + 1 by omega) (by omega), chk_t (by rw [inc_t (by omega) (by omega) (by omega), okl_t (by omega) (by omega)]; rfl)]
  simp only [bind1, List.replicate_zero]
  rw [twinp_loop p hp hl, Option.bind_some, chk_t (okl_t (by simp; omega) (by omega)), chk_t (inc_t (by omega) (by omega) (by simp; omega)), Int.toNat_natCast]
  rfl
theorem keptp_is (p : List (List Int)) (hl : p.length ≤ 1000) : FQuorumlaw6_keptPath (p ++ [sevenS]) p.length p = some true := by
  unfold FQuorumlaw6_keptPath
  have ht : (p ++ [sevenS]).take p.length = p := by simp
  have ht2 : (p ++ [sevenS]).take (p.length + 1) = p ++ [sevenS] := List.take_of_length_le (by simp)
  rw [i64_id (show -9223372036854775808 ≤ ((p.length : Nat) : Int) + 1 by omega) (by omega), chk_t (inc_t (by omega) (by omega) (by simp)), ht, hashes_is p (by omega), Option.bind_some, cond_true, show (((p.length : Nat) : Int) + 1).toNat = p.length + 1 by omega, ht2, chk_t (inb_t (by omega) (by simp; omega)), Int.toNat_natCast, el_last]
  exact congrArg some (eqA_refl 32 0 sevenS)
/-- Both answers of Verify. -/
theorem verify_eq (root : List Int) (size i : Int) (chunk : List Int) (path : List (List Int)) (hc : chunk.length ≤ 48000) (hl : path.length ≤ 100) (hp : ∀ k, k < path.length → (el path k).length = 32) :
    (∃ at_ code, code ≠ 0 ∧ FSnap_Verify root size i chunk path = some (.inl (at_, code)) ∧ FQuorumref6_Verify root size i chunk path = some ([(snapT, at_)], code)) ∨
    (FSnap_Verify root size i chunk path = some (.inr ()) ∧ FQuorumref6_Verify root size i chunk path = some ([], 0)) := by
  unfold FSnap_Verify FQuorumref6_Verify
  by_cases h1 : size < 0
  · rw [decide_eq_true h1, cond_true, cond_true]; exact .inl ⟨0, 124, by decide, rfl, rfl⟩
  rw [decide_eq_false h1, cond_false, cond_false]
  by_cases h2 : size > 40000
  · rw [decide_eq_true h2, cond_true, cond_true]; exact .inl ⟨0, 124, by decide, rfl, rfl⟩
  rw [decide_eq_false h2, cond_false, cond_false]
  obtain ⟨v, e1, e2, e3⟩ := chunks_eq size (by omega) (by omega)
  have e3 := e3 (by omega)
  subst e3
  rw [e1, e2, Option.bind_some, Option.bind_some]
  by_cases h3 : i < 0
  · rw [decide_eq_true h3, cond_true, cond_true]; exact .inl ⟨i, 123, by decide, rfl, rfl⟩
  rw [decide_eq_false h3, cond_false, cond_false]
  by_cases h4 : i ≥ (nC size.toNat : Int)
  · rw [decide_eq_true h4, cond_true, cond_true]; exact .inl ⟨i, 123, by decide, rfl, rfl⟩
  rw [decide_eq_false h4, cond_false, cond_false]
  obtain ⟨k, rfl⟩ : ∃ k : Nat, i = (k : Int) := ⟨i.toNat, by omega⟩
  obtain ⟨s, rfl⟩ : ∃ s : Nat, size = (s : Int) := ⟨size.toNat, by omega⟩
  rw [Int.toNat_natCast] at *
  have hC := nC_le s (by omega)
  have hk : k < nC s := by omega
  have hin := nC_in s k hk
  have el_ : FQuorumref6_length (s : Int) (k : Int) = some (((min s (1024 * (k + 1)) - 1024 * k : Nat)) : Int) := by
    unfold FQuorumref6_length
    rw [i64_id (show -9223372036854775808 ≤ (k : Int) * 1024 by omega) (by omega), i64_id (show -9223372036854775808 ≤ (s : Int) - (k : Int) * 1024 by omega) (by omega)]
    by_cases hh : (s : Int) - (k : Int) * 1024 > 1024
    · rw [decide_eq_true hh, cond_true]; congr 1; omega
    · rw [decide_eq_false hh, cond_false]; congr 1; omega
  rw [lies_is s k (by omega) (by omega), el_, Option.bind_some, Option.bind_some]
  simp only []
  rw [i64_id (show -9223372036854775808 ≤ ((min s (1024 * (k + 1)) : Nat) : Int) - ((1024 * k : Nat) : Int) by omega) (by omega), show ((min s (1024 * (k + 1)) : Nat) : Int) - ((1024 * k : Nat) : Int) = ((min s (1024 * (k + 1)) - 1024 * k : Nat) : Int) by omega]
  by_cases h5 : ((chunk.length : Nat) : Int) = ((min s (1024 * (k + 1)) - 1024 * k : Nat) : Int)
  · rw [show (((chunk.length : Nat) : Int) != ((min s (1024 * (k + 1)) - 1024 * k : Nat) : Int)) = false by simpa using h5, cond_false, cond_false]
    obtain ⟨bs, b1, b2, b3, b4⟩ := way 1000 (nC s) k hk (by omega) (by omega) (by omega)
    have b1 : FSnap_sides (nC s : Int) (k : Int) = some bs := b1
    have b3 : FQuorumref6_Depth (k : Int) (nC s : Int) = some ((bs.length : Nat) : Int) := by
      unfold FQuorumref6_Depth
      have := b3 0 (by omega)
      rw [Nat.zero_add] at this
      rw [show (0 : Int) = ((0 : Nat) : Int) from rfl, this]; rfl
    rw [b1, b3, Option.bind_some, Option.bind_some]
    by_cases h6 : ((path.length : Nat) : Int) = ((bs.length : Nat) : Int)
    · have h6' : path.length = bs.length := by omega
      rw [show (((path.length : Nat) : Int) != ((bs.length : Nat) : Int)) = false by simpa using h6, cond_false, cond_false, leaf_is chunk (by omega), leafb_is chunk (by omega), words_lit, Option.bind_some, Option.bind_some, Option.bind_some, ref_wsum _ (by simp; omega), Option.bind_some,
        up_loop path bs _ h6' (by omega) (sumS_len _) hp, Option.bind_some]
      have b4 : FQuorumref6_Words_lead (litH ++ litK) (sumS ([0] ++ chunk)) (k : Int) (nC s : Int) path = some (upN bs path (sumS ([0] ++ chunk)) bs.length) := b4 path _ h6' (sumS_len _) hp
      rw [b4, Option.bind_some]
      cases he : eqA 32 0 (upN bs path (sumS ([0] ++ chunk)) bs.length) root with
      | true => exact .inr ⟨rfl, rfl⟩
      | false => exact .inl ⟨0, 126, by decide, rfl, rfl⟩
    · rw [show (((path.length : Nat) : Int) != ((bs.length : Nat) : Int)) = true by simpa using h6, cond_true, cond_true]
      exact .inl ⟨((path.length : Nat) : Int), 125, by decide, rfl, rfl⟩
  · rw [show (((chunk.length : Nat) : Int) != ((min s (1024 * (k + 1)) - 1024 * k : Nat) : Int)) = true by simpa using h5, cond_true, cond_true]
    exact .inl ⟨1, 124, by decide, rfl, rfl⟩
/-- The law, as a plain function, answers true. -/
theorem verifies_true (root : List Int) (size i : Int) (chunk : List Int) (path : List (List Int)) (hp : ∀ k, k < path.length → (el path k).length = 32) : FQuorumlaw6_SnapVerifies root size i chunk path = some true := by
  unfold FQuorumlaw6_SnapVerifies
  by_cases hc : ((chunk.length : Nat) : Int) > 48000
  · rw [decide_eq_true hc, cond_true]
  rw [decide_eq_false hc, cond_false]
  by_cases hl : ((path.length : Nat) : Int) > 100
  · rw [decide_eq_true hl, cond_true]
  rw [decide_eq_false hl, cond_false, twin_is chunk (by omega), Option.bind_some, twinp_is path hp (by omega), Option.bind_some]
  have ht : (path ++ [sevenS]).take path.length = path := by simp
  simp only [twin_take, ht]
  have hk := kept_is chunk (by omega)
  have hq := keptp_is path (by omega)
  rcases verify_eq root size i chunk path (by omega) (by omega) hp with ⟨a, code, hne, v1, v2⟩ | ⟨v1, v2⟩
  · have hb := is_bad a code hne
    unfold snapT at hb v2
    simp only [v1, v2, Option.bind_some, Sum.elim_inl, hb, cond_true, hk, hq]
  · simp only [v1, v2, Option.bind_some, Sum.elim_inr, is_good, cond_true, hk, hq]
end Go.Proofs.YtlfaalbkhfjpkaaDoor
