/- Proved: SnapSums returns true for every list of pieces and every other text, and what came in reads as before; the tied card. Condition: none beyond the card's own (snap.first reads as the program's text lays it, which the tie pays). -/
import Derived.Test.YtlfaalbkhfjpkaaDoorCards
import Derived.Test.YtlfaalbkhfjpkaaDoorTie
import Derived.Test.YtlfaalbkhfjpkaaDoorSha
import Derived.Test.YtlfaalbkhfjpkaaDoorSuB
import Derived.Test.YtlfaalbkhfjpkaaDoorLaid
import Derived.WalkKit
import Derived.ProofKit
import Derived.OpenShut
import Derived.ChangeOld
import Derived.Stop.Joined
import Derived.SizedLaws
import Derived.SevenTiedAt
set_option linter.unusedVariables false
set_option linter.unusedSimpArgs false
namespace Go.Proofs.YtlfaalbkhfjpkaaDoor.snapSums
open Go.ChangeShapes Go.WideShapes Go.ChangeAt Go.RowKit
theorem own : ownKnob Tryd.prog.godebug = none := by kernel_rfl
theorem laidOk : laidOutB Tryd.prog = true := by kernel_rfl
theorem gFirst : Tryd.prog.globalNamed "quorum/snap.first" = some 0 := by kernel_rfl
theorem tFirst : (Tryd.prog.globals[0]?).map (·.type) = some 34 := by kernel_rfl
theorem u34 : Tryd.prog.underlying 34 = some (.array 8 33) := by kernel_rfl
theorem u33 : Tryd.prog.underlying 33 = some (.int .u32) := by kernel_rfl
theorem c33 : Tryd.prog.cellsOf 33 = 1 := by kernel_rfl
theorem c34 : Tryd.prog.cellsOf 34 = 8 := by kernel_rfl
theorem u22 : Tryd.prog.underlying 22 = some (.slice 23) := by kernel_rfl
theorem u23 : Tryd.prog.underlying 23 = some (.slice 5) := by kernel_rfl
theorem u5 : Tryd.prog.underlying 5 = some (.int .u8) := by kernel_rfl
theorem c23 : Tryd.prog.cellsOf 23 = 1 := by kernel_rfl
theorem c5 : Tryd.prog.cellsOf 5 = 1 := by kernel_rfl
theorem b5 : Tryd.prog.bytesOf 5 = 1 := by kernel_rfl
abbrev laidS : List (String × DataW Unit) := [("quorum/snap.first", Rows.laid_quorum_snap_first)]
theorem door_met (os : Os) (args : Array Value) : laidMetH Tryd.prog laidS ((World.doorLaid Tryd.prog 400 os).forCall (fun _ _ => 0) ⟨#[], args, []⟩).memory :=
  laidMetH_of_parts3 (fuel := 8) (laidMet_of_run' 8 (by kernel_rfl) (by kernel_rfl)) (by kernel_rfl) (by kernel_rfl)
theorem of_laid {W : World} (h : laidMetH Tryd.prog laidS W) : RowAt W ⟨0, 0, none⟩ #[.int .u32 1779033703, .int .u32 3144134277, .int .u32 1013904242, .int .u32 2773480762, .int .u32 1359893119, .int .u32 2600822924, .int .u32 528734635, .int .u32 1541459225] ∧ 0 < W.heap.size := by
  have := laid_ints (ns := litH) h gFirst tFirst u34 u33 c33 c34
  refine ⟨this, ?_⟩
  exact cell_lt (this 0 _ rfl)
set_option maxRecDepth 100000 in
theorem lifted (os : Os) (started : os.Started) (H : Type) (enc : TypeId × Value → H) :
    ReturnsInHanded {} Tryd.checked os 3 .any (fun w args => (Rows.snapSumsSpec.pre enc Tryd.prog Tryd.f3 [] false w args ∧ laidMetH Tryd.prog laidS w) ∧ sizedMet enc Tryd.prog Tryd.f3 (OpenSpec.ofChange Rows.snapSumsSpec) false w args)
      (Rows.snapSumsSpec.post enc Tryd.prog Tryd.f3 false true false false) := by
  refine returnsInHanded_of_change_and (C := Tryd.checked) (X := fun w _ => laidMetH Tryd.prog laidS w) (fun _ _ _ hh h => h.of_heap hh) own started (by kernel_rfl) Tryd.func3
    (ChangeSpec.witness_shaped (enc := enc) (C := Tryd.checked) (os := os) (X := fun w _ => laidMetH Tryd.prog laidS w) false (World.doorLaid Tryd.prog 400 os) #[.slice none 0 0, .slice none 0 0] 8 rfl (World.shaped_of_RefB (by kernel_rfl) (by kernel_rfl)) (by kernel_rfl) (by kernel_rfl) (by kernel_rfl) (door_met os _)) ?_
  intro W base args ds gs before hval0 hW _ hsz0 hL _
  have hW' := hW
  obtain ⟨p, q, hA0, hV, rfl, hfz, hnd⟩ := hW
  have hA : DataW.TrodAll enc Tryd.prog W 0 (fun _ => true) true Tryd.f3.params.toList args.toList ds p := hA0
  rw [Tryd.params3] at hA
  obtain ⟨v0, v1, d0, d1, p0, p1, rfl, rfl, rfl, h0, h1⟩ := trodAll_two hA
  obtain ⟨rfl, rfl⟩ := trodVars_none hV
  obtain ⟨f0, h0'⟩ := h0
  obtain ⟨f1, h1'⟩ := h1
  have h0 : DataW.Trod enc Tryd.prog W 0 (fun _ => true) true 22 v0 d0 p0 := ⟨f0, h0'⟩
  have h1 : DataW.Trod enc Tryd.prog W 0 (fun _ => true) true 23 v1 d1 p1 := ⟨f1, h1'⟩
  have hlig : (DataW.weightsEach Tryd.prog [22, 23] [d0, d1]).all (· ≤ reachBytes) = true := hsz0
  obtain ⟨A, xss, cap, Ad, Cp, e0, hr, _, hin⟩ := open_intss u22 u23 u5 c23 c5 h0' (light_each hlig 0 22 d0 rfl rfl)
  obtain ⟨B, ys, cb, e1, hs, hcb, _⟩ := open_ints u23 u5 c5 h1' (light_each hlig 1 23 d1 rfl rfl)
  rw [b5, Nat.mul_one] at hcb
  rw [b5] at hin
  have hval : ∀ (j : Nat) t v, Tryd.f3.params[j]? = some t → #[v0, v1][j]? = some v → Value.okWide Tryd.prog W .any base t v := hval0
  rw [Tryd.params3] at hval
  obtain ⟨A0, l0, c0, rfl⟩ := okWide_slice u22 (hval 0 22 v0 rfl rfl)
  obtain ⟨A1, l1, c1, rfl⟩ := okWide_slice u23 (hval 1 23 v1 rfl rfl)
  simp only [Value.cells, List.cons.injEq, and_true, Value.slice.injEq] at e0 e1
  obtain ⟨rfl, rfl, rfl⟩ := e0
  obtain ⟨rfl, rfl, rfl⟩ := e1
  clear hA0 hval0 hval
  simp only [List.append_nil] at hW'
  have hlt : ∀ x ∈ p0 ++ p1, x.block < W.heap.size := fun x hx => by simpa using hW'.lt x hx
  have hT := sums_true xss ys (fun i hi => Nat.le_trans (Nat.le_of_eq (Nat.mul_one _).symm) (Nat.le_trans (hin i hi).2.1 (by decide))) (Nat.le_trans hcb (by decide))
  obtain ⟨hfirst, hsz⟩ := of_laid hL
  refine FQuorumlaw6_SnapSums_c (Fr := [old W]) (Ad_pieces := Ad) (Cp_pieces := Cp) (fun w hw => hfirst.below (hw.old 0 rfl) hsz) (fun w hw => hr.below (hw.old 0 rfl) Nat.one_pos) (fun w hw i hi => (hin i hi).1.below (hw.old 0 rfl) Nat.one_pos)
    (fun w hw => hs.below (hw.old 0 rfl) Nat.one_pos) hT (old_start W) (fun z hz _ W' hW'' => ?_)
  subst hz
  have bel : Below W.heap.size W W' := hW''.old 0 rfl
  exact ⟨_, rfl, _, _, _, [], p0 ++ p1, [], hW', trodAll_mk1 (shut_bool (show Tryd.prog.underlying 4 = some .bool by kernel_rfl) _),
    trodAll_cons_mk (Below.trod laidOk (by kernel_rfl) (of_decide_eq_true (by kernel_rfl)) h0 bel (fun x hx => hlt x (List.mem_append_left _ hx)))
      (trodAll_mk1 (Below.trod laidOk (by kernel_rfl) (of_decide_eq_true (by kernel_rfl)) h1 bel (fun x hx => hlt x (List.mem_append_right _ hx)))), rfl, bel.frame _, fun h => by cases h⟩
theorem over : Rows.snapSumsRow.holds Tryd.pinned (OpenSpec.ofChange Rows.snapSumsSpec) :=
  OpenClaim.holds_of_wide 3 Tryd.f3 rfl rfl rfl rfl rfl rfl rfl ⟨rfl, rfl, rfl, rfl, rfl⟩ rfl rfl rfl rfl rfl (by kernel_rfl) Tryd.func3 (by kernel_rfl)
    (of_decide_eq_true (by kernel_rfl)) (by unfold Func.isWrapper; first | (rw [if_pos (by decide +kernel)]; kernel_rfl) | (rw [if_neg (by decide +kernel)]; exact ⟨rfl, rfl⟩))
    (fun os started H enc _ => lifted os started H enc)
end Go.Proofs.YtlfaalbkhfjpkaaDoor.snapSums
namespace Go.Proofs.YtlfaalbkhfjpkaaDoor
/-- The row with its variable tied to the program's text, for the claim. -/
theorem snapSums_card : Rows.SnapSumsCardSaid :=
  Claim7.holds_tied_plain_at .later [] [.data] true (true, "bc4e41581956ec5bfa88e2f0ab76031a70b85a889056cdc5102c378998143f8a") true
    snapSums.over (fun _ h => by cases h) (by kernel_rfl) (fun _ h => by cases h) snapSums_row_tie rfl ⟨rfl, rfl⟩ (by kernel_rfl) rfl
    (fun f fn hf hfn => by
      obtain rfl : f = 3 := Option.some.inj ((show Tryd.prog.funcNamed "quorum/quorumlaw6.SnapSums" = some 3 by kernel_rfl).symm.trans hf) |>.symm
      obtain rfl : fn = Tryd.f3 := (Option.some.inj (Tryd.func3.symm.trans hfn)).symm
      exact ⟨by kernel_rfl, fun j t ht => by
        rw [Tryd.params3] at ht
        have hm : t ∈ [22, 23] := by simpa using Array.mem_of_getElem? ht
        have hall : ([22, 23].all fun u => !Tryd.prog.wantsStandIn u) = true := by kernel_rfl
        exact (show Tryd.prog.wantsStandIn t = false by simpa using List.all_eq_true.1 hall t hm)⟩)
    (by kernel_rfl)
#print axioms snapSums_card
end Go.Proofs.YtlfaalbkhfjpkaaDoor
