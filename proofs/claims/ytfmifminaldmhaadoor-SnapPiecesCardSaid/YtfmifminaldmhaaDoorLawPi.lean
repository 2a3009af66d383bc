/- Proved: SnapPieces returns true for all bytes and every two places, and what came in reads as before; the tied card. Condition: none beyond the card's own (snap.first reads as the program's text lays it, which the tie pays). -/
import Derived.Test.YtfmifminaldmhaaDoorCards
import Derived.Test.YtfmifminaldmhaaDoorTie
import Derived.Test.YtfmifminaldmhaaDoorPil
import Derived.Test.YtfmifminaldmhaaDoorPiE
import Derived.Test.YtfmifminaldmhaaDoorLaid
import Derived.WalkKit
import Derived.ProofKit
import Derived.OpenShut
import Derived.ChangeOld
import Derived.Stop.Joined
import Derived.SizedLaws
import Derived.SevenTiedAt
import Derived.Lay
import Derived.LaidSub
set_option linter.unusedVariables false
set_option linter.unusedSimpArgs false
namespace Go.Proofs.YtfmifminaldmhaaDoor.snapPieces
open Go.ChangeShapes Go.WideShapes Go.ChangeAt Go.RowKit
theorem own : ownKnob Tryd.prog.godebug = none := by kernel_rfl
theorem laidOk : laidOutB Tryd.prog = true := by kernel_rfl
theorem gFirst : Tryd.prog.globalNamed "quorum/snap.first" = some 1 := by kernel_rfl
theorem tFirst : (Tryd.prog.globals[1]?).map (·.type) = some 207 := by kernel_rfl
theorem u207 : Tryd.prog.underlying 207 = some (.array 8 128) := by kernel_rfl
theorem u128 : Tryd.prog.underlying 128 = some (.int .u32) := by kernel_rfl
theorem c128 : Tryd.prog.cellsOf 128 = 1 := by kernel_rfl
theorem c207 : Tryd.prog.cellsOf 207 = 8 := by kernel_rfl
theorem u22 : Tryd.prog.underlying 22 = some (.slice 5) := by kernel_rfl
theorem u3 : Tryd.prog.underlying 3 = some (.int .i64) := by kernel_rfl
theorem u5 : Tryd.prog.underlying 5 = some (.int .u8) := by kernel_rfl
theorem c5 : Tryd.prog.cellsOf 5 = 1 := by kernel_rfl
theorem b5 : Tryd.prog.bytesOf 5 = 1 := by kernel_rfl
abbrev laidS : List (String × DataW Unit) := [("unicode/utf8.acceptRanges", Rows.laid_unicode_utf8_acceptRanges), ("errors.errorType", Rows.laid_errors_errorType), ("quorum/snap.first", Rows.laid_quorum_snap_first), ("unicode/utf8.first", Rows.laid_unicode_utf8_first)]
abbrev laidP : List (String × DataW Unit) := [("unicode/utf8.acceptRanges", Rows.laid_unicode_utf8_acceptRanges), ("quorum/snap.first", Rows.laid_quorum_snap_first), ("unicode/utf8.first", Rows.laid_unicode_utf8_first)]
/-- The start of the witness: the door's run (it lays the handle), and the plain tables laid by the function. -/
noncomputable def startW (os : Os) : World := (World.doorLaid Tryd.prog 60 os).layVars Tryd.prog laidP
theorem met_plain (os : Os) : laidMet Tryd.prog laidP (startW os) := by
  have e1 : (laidP.filter fun x => (laidP.map (·.1)).contains x.1) = laidP := by kernel_rfl
  have e2 : (laidP.filter fun x => !(laidP.map (·.1)).contains x.1) = [] := by kernel_rfl
  exact laidMet_layVars (w0 := World.doorLaid Tryd.prog 60 os) (laidP.map (·.1)) [] (by rw [e1]; rfl) (by rw [e1]; kernel_rfl) (by rw [e1]; kernel_rfl) (by rw [e2]; exact LaidIn.none)
theorem door_met (os : Os) (args : Array Value) : laidMetH Tryd.prog laidS ((startW os).forCall (fun _ _ => 0) ⟨#[], args, []⟩).memory := by
  refine laidMetH_of_parts3 (fuel := 8) ?_ (by kernel_rfl) (by kernel_rfl)
  rw [show (laidS.filter fun x => x.2.handleName?.isNone) = laidP by kernel_rfl]
  exact (met_plain os).of_heap (by simp [World.memory, World.forCall, Input.heap])
theorem of_laid {W : World} (h : laidMetH Tryd.prog laidS W) : RowAt W ⟨1, 0, none⟩ #[.int .u32 1779033703, .int .u32 3144134277, .int .u32 1013904242, .int .u32 2773480762, .int .u32 1359893119, .int .u32 2600822924, .int .u32 528734635, .int .u32 1541459225] ∧ 1 < W.heap.size := by
  have h1 := laidMetH.filter (fun x => x.1 == "quorum/snap.first") h
  rw [show laidS.filter (fun x => x.1 == "quorum/snap.first") = [("quorum/snap.first", Rows.laid_quorum_snap_first)] by kernel_rfl] at h1
  have := laid_ints (ns := litH) h1 gFirst tFirst u207 u128 c128 c207
  refine ⟨this, ?_⟩
  exact cell_lt (this 0 _ rfl)
set_option maxRecDepth 100000 in
theorem lifted (os : Os) (started : os.Started) (H : Type) (enc : TypeId × Value → H) :
    ReturnsInHanded {} Tryd.checked os 6 .any (fun w args => (Rows.snapPiecesSpec.pre enc Tryd.prog Tryd.f6 [] false w args ∧ laidMetH Tryd.prog laidS w) ∧ sizedMet enc Tryd.prog Tryd.f6 (OpenSpec.ofChange Rows.snapPiecesSpec) false w args)
      (Rows.snapPiecesSpec.post enc Tryd.prog Tryd.f6 false true false false) := by
  refine returnsInHanded_of_change_and (C := Tryd.checked) (X := fun w _ => laidMetH Tryd.prog laidS w) (fun _ _ _ hh h => h.of_heap hh) own started (by kernel_rfl) Tryd.func6
    (ChangeSpec.witness_shaped (enc := enc) (C := Tryd.checked) (os := os) (X := fun w _ => laidMetH Tryd.prog laidS w) false (startW os) #[.slice none 0 0, .int .i64 0, .int .i64 0] 8 (World.layVars_os _ _ _) (World.shaped_of_ZipB (by kernel_rfl) (by kernel_rfl)) (by kernel_rfl) (by kernel_rfl) (by kernel_rfl) (door_met os _)) ?_
  intro W base args ds gs before hval0 hW _ hsz0 hL _
  have hW' := hW
  obtain ⟨p, q, hA0, hV, rfl, hfz, hnd⟩ := hW
  have hA : DataW.TrodAll enc Tryd.prog W 0 (fun _ => true) true Tryd.f6.params.toList args.toList ds p := hA0
  rw [Tryd.params6] at hA
  obtain ⟨v0, v1, v2, d0, d1, d2, p0, p1, p2, rfl, rfl, rfl, h0, h1, h2⟩ := trodAll_three hA
  obtain ⟨rfl, rfl⟩ := trodVars_none hV
  obtain ⟨f0, h0'⟩ := h0
  have h0 : DataW.Trod enc Tryd.prog W 0 (fun _ => true) true 22 v0 d0 p0 := ⟨f0, h0'⟩
  have hlig : (DataW.weightsEach Tryd.prog [22, 3, 3] [d0, d1, d2]).all (· ≤ reachBytes) = true := hsz0
  obtain ⟨B, ys, cb, e1, hs, hcb, _⟩ := open_ints u22 u5 c5 h0' (light_each hlig 0 22 d0 rfl rfl)
  have hval : ∀ (j : Nat) t v, Tryd.f6.params[j]? = some t → #[v0, v1, v2][j]? = some v → Value.okWide Tryd.prog W .any base t v := hval0
  rw [Tryd.params6] at hval
  obtain ⟨A1, l1, c1, rfl⟩ := okWide_slice u22 (hval 0 22 v0 rfl rfl)
  simp only [Value.cells, List.cons.injEq, and_true, Value.slice.injEq] at e1
  obtain ⟨rfl, rfl, rfl⟩ := e1
  obtain ⟨n1, rfl⟩ := okWide_int u3 (hval 1 3 v1 rfl rfl)
  obtain ⟨n2, rfl⟩ := okWide_int u3 (hval 2 3 v2 rfl rfl)
  clear hA0 hval0 hval
  simp only [List.append_nil, List.append_assoc] at hW'
  have hlt : ∀ x ∈ p0 ++ (p1 ++ p2), x.block < W.heap.size := fun x hx => by simpa using hW'.lt x hx
  have hT := pieces_true ys n1 n2
  obtain ⟨hfirst, hsz⟩ := of_laid hL
  refine FQuorumlaw6_SnapPieces_c (Fr := [old W]) (fun w hw => hfirst.below (hw.old 0 rfl) hsz) (fun w hw => hs.below (hw.old 0 rfl) Nat.one_pos) hT (old_start W) (fun z hz _ W' hW'' => ?_)
  subst hz
  have bel : Below W.heap.size W W' := hW''.old 0 rfl
  exact ⟨_, rfl, _, _, _, [], p0 ++ (p1 ++ p2), [], hW', trodAll_mk1 (shut_bool (show Tryd.prog.underlying 4 = some .bool by kernel_rfl) _),
    trodAll_cons_mk (Below.trod laidOk (by kernel_rfl) (of_decide_eq_true (by kernel_rfl)) h0 bel (fun x hx => hlt x (List.mem_append_left _ hx)))
      (trodAll_cons_mk (Below.trod laidOk (by kernel_rfl) (of_decide_eq_true (by kernel_rfl)) h1 bel (fun x hx => hlt x (List.mem_append_right _ (List.mem_append_left _ hx))))
        (trodAll_mk1 (Below.trod laidOk (by kernel_rfl) (of_decide_eq_true (by kernel_rfl)) h2 bel (fun x hx => hlt x (List.mem_append_right _ (List.mem_append_right _ hx)))))), rfl, bel.frame _, fun h => by cases h⟩
theorem over : Rows.snapPiecesRow.holds Tryd.pinned (OpenSpec.ofChange Rows.snapPiecesSpec) :=
  OpenClaim.holds_of_wide 6 Tryd.f6 rfl rfl rfl rfl rfl rfl rfl ⟨rfl, rfl, rfl, rfl, rfl⟩ rfl rfl rfl rfl rfl (by kernel_rfl) Tryd.func6 (by kernel_rfl)
    (of_decide_eq_true (by kernel_rfl)) (by unfold Func.isWrapper; first | (rw [if_pos (by decide +kernel)]; kernel_rfl) | (rw [if_neg (by decide +kernel)]; exact ⟨rfl, rfl⟩))
    (fun os started H enc _ => lifted os started H enc)
end Go.Proofs.YtfmifminaldmhaaDoor.snapPieces
namespace Go.Proofs.YtfmifminaldmhaaDoor
/-- The row with its variable tied to the program's text, for the claim. -/
theorem snapPieces_card : Rows.SnapPiecesCardSaid :=
  Claim7.holds_tied_plain_at .later [] [.data, .handle, .data, .pinned] true (true, "77e1b22831a35bd0d446b0f3c563a4e99d51abf6302884b5c4f6e054ade3e84a") true
    snapPieces.over (fun _ h => by cases h) (by kernel_rfl) (fun _ h => by cases h) snapPieces_row_tie rfl ⟨rfl, rfl⟩ (by kernel_rfl) rfl
    (fun f fn hf hfn => by
      obtain rfl : f = 6 := Option.some.inj ((show Tryd.prog.funcNamed "quorum/quorumlaw6.SnapPieces" = some 6 by kernel_rfl).symm.trans hf) |>.symm
      obtain rfl : fn = Tryd.f6 := (Option.some.inj (Tryd.func6.symm.trans hfn)).symm
      exact ⟨by kernel_rfl, fun j t ht => by
        rw [Tryd.params6] at ht
        have hm : t ∈ [22, 3, 3] := by simpa using Array.mem_of_getElem? ht
        have hall : ([22, 3, 3].all fun u => !Tryd.prog.wantsStandIn u) = true := by kernel_rfl
        exact (show Tryd.prog.wantsStandIn t = false by simpa using List.all_eq_true.1 hall t hm)⟩)
    (by kernel_rfl)
#print axioms snapPieces_card
end Go.Proofs.YtfmifminaldmhaaDoor
