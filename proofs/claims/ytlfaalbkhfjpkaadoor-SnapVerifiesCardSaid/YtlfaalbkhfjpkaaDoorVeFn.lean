/- The plain functions that a program of the prover's own has printed for functions of the program: nothing is proved here. -/
import Derived.Test.YtlfaalbkhfjpkaaDoorLift
set_option linter.unusedVariables false
set_option linter.unusedSimpArgs false
set_option maxRecDepth 100000
namespace Go.Proofs.YtlfaalbkhfjpkaaDoor
open Go.RowKit
-- quorum/quorumlaw6.twin
noncomputable def FQuorumlaw6_twin_L26 (x26 : (List Int) × Int) : Option (((List Int) × Int) ⊕ (List Int)) :=
  (bif decide (x26.2 < 72) then chk (okl ((x26.1 ++ [IntKind.u8.wrap (IntKind.i64.wrap (160 + x26.2))]).length) 1) (some (.inl (x26.1 ++ [IntKind.u8.wrap (IntKind.i64.wrap (160 + x26.2))], IntKind.i64.wrap (x26.2 + 1)))) else some (.inr x26.1))
noncomputable def FQuorumlaw6_twin_L11 (p_b : List Int) (x11 : (List Int) × Int) : Option (((List Int) × Int) ⊕ (List Int)) :=
  (bif decide (x11.2 < ((p_b.length : Nat) : Int)) then chk (inb x11.2 p_b.length) (chk (okl ((x11.1 ++ [el p_b x11.2.toNat]).length) 1) (some (.inl (x11.1 ++ [el p_b x11.2.toNat], IntKind.i64.wrap (x11.2 + 1))))) else some (.inr x11.1))
noncomputable def FQuorumlaw6_twin (p_b : List Int) : Option ((List Int) × Nat) :=
  chk (inc 0 (IntKind.i64.wrap (((p_b.length : Nat) : Int) + 72)) ((IntKind.i64.wrap (((p_b.length : Nat) : Int) + 72)).toNat) && okl ((IntKind.i64.wrap (((p_b.length : Nat) : Int) + 72)).toNat) 1) ((loop (FQuorumlaw6_twin_L11 p_b) (List.replicate 0 0, 0)).bind (fun y12 => (loop FQuorumlaw6_twin_L26 (y12, 0)).bind (fun y27 => chk (inc 0 ((p_b.length : Nat) : Int) y27.length) (some (y27, ((p_b.length : Nat) : Int).toNat)))))

-- quorum/quorumlaw6.twinPath
noncomputable def FQuorumlaw6_twinPath_L14 (p : List (List Int)) (x14 : (List (List Int)) × Int) : Option (((List (List Int)) × Int) ⊕ (List (List Int))) :=
  (bif decide (x14.2 < ((p.length : Nat) : Int)) then chk (inb x14.2 p.length) (chk (okl ((x14.1 ++ [[el (el p x14.2.toNat) 0, el (el p x14.2.toNat) 1, el (el p x14.2.toNat) 2, el (el p x14.2.toNat) 3, el (el p x14.2.toNat) 4, el (el p x14.2.toNat) 5, el (el p x14.2.toNat) 6, el (el p x14.2.toNat) 7, el (el p x14.2.toNat) 8, el (el p x14.2.toNat) 9, el (el p x14.2.toNat) 10, el (el p x14.2.toNat) 11, el (el p x14.2.toNat) 12, el (el p x14.2.toNat) 13, el (el p x14.2.toNat) 14, el (el p x14.2.toNat) 15, el (el p x14.2.toNat) 16, el (el p x14.2.toNat) 17, el (el p x14.2.toNat) 18, el (el p x14.2.toNat) 19, el (el p x14.2.toNat) 20, el (el p x14.2.toNat) 21, el (el p x14.2.toNat) 22, el (el p x14.2.toNat) 23, el (el p x14.2.toNat) 24, el (el p x14.2.toNat) 25, el (el p x14.2.toNat) 26, el (el p x14.2.toNat) 27, el (el p x14.2.toNat) 28, el (el p x14.2.toNat) 29, el (el p x14.2.toNat) 30, el (el p x14.2.toNat) 31]]).length) 32) (bind1 (x14.1 ++ [[el (el p x14.2.toNat) 0, el (el p x14.2.toNat) 1, el (el p x14.2.toNat) 2, el (el p x14.2.toNat) 3, el (el p x14.2.toNat) 4, el (el p x14.2.toNat) 5, el (el p x14.2.toNat) 6, el (el p x14.2.toNat) 7, el (el p x14.2.toNat) 8, el (el p x14.2.toNat) 9, el (el p x14.2.toNat) 10, el (el p x14.2.toNat) 11, el (el p x14.2.toNat) 12, el (el p x14.2.toNat) 13, el (el p x14.2.toNat) 14, el (el p x14.2.toNat) 15, el (el p x14.2.toNat) 16, el (el p x14.2.toNat) 17, el (el p x14.2.toNat) 18, el (el p x14.2.toNat) 19, el (el p x14.2.toNat) 20, el (el p x14.2.toNat) 21, el (el p x14.2.toNat) 22, el (el p x14.2.toNat) 23, el (el p x14.2.toNat) 24, el (el p x14.2.toNat) 25, el (el p x14.2.toNat) 26, el (el p x14.2.toNat) 27, el (el p x14.2.toNat) 28, el (el p x14.2.toNat) 29, el (el p x14.2.toNat) 30, el (el p x14.2.toNat) 31]]) (fun v64 => some (.inl (v64, IntKind.i64.wrap (x14.2 + 1)))))) else some (.inr x14.1))
noncomputable def FQuorumlaw6_twinPath (p : List (List Int)) : Option ((List (List Int)) × Nat) :=
  chk (inc 0 (IntKind.i64.wrap (((p.length : Nat) : Int) + 1)) ((IntKind.i64.wrap (((p.length : Nat) : Int) + 1)).toNat) && okl ((IntKind.i64.wrap (((p.length : Nat) : Int) + 1)).toNat) 32) (bind1 (List.replicate 0 ([0, 0, 0, 0, 0, 0, 0, 0, 0, 0, 0, 0, 0, 0, 0, 0, 0, 0, 0, 0, 0, 0, 0, 0, 0, 0, 0, 0, 0, 0, 0, 0])) (fun v9 => (loop (FQuorumlaw6_twinPath_L14 p) (v9, 0)).bind (fun y15 => chk (okl ((y15 ++ [[7, 7, 0, 0, 0, 0, 0, 0, 0, 0, 0, 0, 0, 0, 0, 0, 0, 0, 0, 0, 0, 0, 0, 0, 0, 0, 0, 0, 0, 0, 0, 0]]).length) 32) (bind1 (y15 ++ [[7, 7, 0, 0, 0, 0, 0, 0, 0, 0, 0, 0, 0, 0, 0, 0, 0, 0, 0, 0, 0, 0, 0, 0, 0, 0, 0, 0, 0, 0, 0, 0]]) (fun v40 => chk (inc 0 ((p.length : Nat) : Int) v40.length) (some (v40, ((p.length : Nat) : Int).toNat)))))))

-- quorum/snap.refuse
noncomputable def FSnap_refuse (p_at : Int) (n : Int) : Option Unit :=
  some ()

-- quorum/snap.Chunks
noncomputable def FSnap_Chunks (p_size : Int) : Option Int :=
  (bif decide (p_size < 0) then some 0 else some (if (IntKind.i64.wrap ((IntKind.i64.wrap (Int.tdiv p_size 1024)) + (if (Int.tmod p_size 1024) < 1 then (Int.tmod p_size 1024) else 1))) > 1 then (IntKind.i64.wrap ((IntKind.i64.wrap (Int.tdiv p_size 1024)) + (if (Int.tmod p_size 1024) < 1 then (Int.tmod p_size 1024) else 1))) else 1))

-- quorum/snap.lies
noncomputable def FSnap_lies (p_size : Int) (p_i : Int) : Option (Int × Int) :=
  some (IntKind.i64.wrap (p_i * 1024), if (IntKind.i64.wrap ((IntKind.i64.wrap (p_i + 1)) * 1024)) < p_size then (IntKind.i64.wrap ((IntKind.i64.wrap (p_i + 1)) * 1024)) else p_size)

-- quorum/snap.half
noncomputable def FSnap_half_L3 (n : Int) (x3 : Int) : Option (Int ⊕ Int) :=
  (bif decide ((IntKind.i64.wrap (2 * x3)) < n) then some (.inl (IntKind.i64.wrap (x3 * 2))) else some (.inr x3))
noncomputable def FSnap_half (n : Int) : Option Int :=
  (loop (FSnap_half_L3 n) 1).bind (fun y4 => some y4)

-- quorum/snap.sides
noncomputable def FSnap_sides_S (rec_ : (Int × Int) → Option (List Bool)) (n : Int) (p_i : Int) : Option (List Bool) :=
  (bif (n == 1) then some ([]) else (FSnap_half n).bind (fun y5 => (bif decide (p_i < y5) then (rec_ (y5, p_i)).bind (fun y15 => chk (okl ((y15 ++ [false]).length) 1) (some (y15 ++ [false]))) else (rec_ (IntKind.i64.wrap (n - y5), IntKind.i64.wrap (p_i - y5))).bind (fun y37 => chk (okl ((y37 ++ [true]).length) 1) (some (y37 ++ [true]))))))
noncomputable def FSnap_sides_U (rec_ : (Int × Int) → Option (List Bool)) (a_ : Int × Int) : Option (List Bool) := FSnap_sides_S rec_ a_.1 a_.2
noncomputable def FSnap_sides (n : Int) (p_i : Int) : Option (List Bool) := itR FSnap_sides_U 1000 (n, p_i)

-- quorum/snap.New
noncomputable def FSnap_New : Option (List Int) :=
  some ([1779033703, 3144134277, 1013904242, 2773480762, 1359893119, 2600822924, 528734635, 1541459225])

-- math/bits.RotateLeft32
noncomputable def FBits_RotateLeft32 (p_x : Int) (k : Int) : Option Int :=
  chk (decide (0 ≤ (bAnd .u64 (IntKind.u64.wrap k) 31))) (chk (decide (0 ≤ (IntKind.u64.wrap (32 - (bAnd .u64 (IntKind.u64.wrap k) 31))))) (some (bOr .u32 (shlV .u32 p_x (bAnd .u64 (IntKind.u64.wrap k) 31)) (shrV .u32 p_x (IntKind.u64.wrap (32 - (bAnd .u64 (IntKind.u64.wrap k) 31)))))))

-- quorum/snap.turn
noncomputable def FSnap_turn (p_x : Int) (n : Int) : Option Int :=
  (FBits_RotateLeft32 p_x (IntKind.i64.wrap (0 - n))).bind (fun y1 => some y1)

-- quorum/snap.rounds
noncomputable def FSnap_rounds : Option (List Int) :=
  some ([1116352408, 1899447441, 3049323471, 3921009573, 961987163, 1508970993, 2453635748, 2870763221, 3624381080, 310598401, 607225278, 1426881987, 1925078388, 2162078206, 2614888103, 3248222580, 3835390401, 4022224774, 264347078, 604807628, 770255983, 1249150122, 1555081692, 1996064986, 2554220882, 2821834349, 2952996808, 3210313671, 3336571891, 3584528711, 113926993, 338241895, 666307205, 773529912, 1294757372, 1396182291, 1695183700, 1986661051, 2177026350, 2456956037, 2730485921, 2820302411, 3259730800, 3345764771, 3516065817, 3600352804, 4094571909, 275423344, 430227734, 506948616, 659060556, 883997877, 958139571, 1322822218, 1537002063, 1747873779, 1955562222, 2024104815, 2227730452, 2361852424, 2428436474, 2756734187, 3204031479, 3329325298])

-- (*quorum/snap.Hasher).block
noncomputable def FSnap_Hasher_block_L47 (y25 : List Int) (z37 : List Int) (x47 : Int × (List Int)) : Option ((Int × (List Int)) ⊕ (List Int)) :=
  (bif decide (x47.1 < 64) then chk (inb x47.1 64 && inb x47.1 z37.length) (chk (inb x47.1 64 && inb x47.1 y25.length) ((FSnap_turn (el x47.2 4) 6).bind (fun y132 => (FSnap_turn (el x47.2 4) 11).bind (fun y140 => (FSnap_turn (el x47.2 4) 25).bind (fun y148 => (FSnap_turn (el x47.2 0) 2).bind (fun y156 => bind1 (IntKind.u32.wrap ((IntKind.u32.wrap ((IntKind.u32.wrap ((IntKind.u32.wrap ((el x47.2 7) + (bXor .u32 (bXor .u32 y132 y140) y148))) + (bXor .u32 (bAnd .u32 (el x47.2 4) (el x47.2 5)) (bAnd .u32 (bXor .u32 4294967295 (el x47.2 4)) (el x47.2 6))))) + (el z37 x47.1.toNat))) + (el y25 x47.1.toNat))) (fun v164 => (FSnap_turn (el x47.2 0) 13).bind (fun y167 => (FSnap_turn (el x47.2 0) 22).bind (fun y175 => some (.inl (IntKind.i64.wrap (x47.1 + 1), [IntKind.u32.wrap (v164 + (IntKind.u32.wrap ((bXor .u32 (bXor .u32 y156 y167) y175) + (bXor .u32 (bXor .u32 (bAnd .u32 (el x47.2 0) (el x47.2 1)) (bAnd .u32 (el x47.2 0) (el x47.2 2))) (bAnd .u32 (el x47.2 1) (el x47.2 2)))))), el x47.2 0, el x47.2 1, el x47.2 2, IntKind.u32.wrap ((el x47.2 3) + v164), el x47.2 4, el x47.2 5, el x47.2 6]))))))))))) else some (.inr x47.2))
noncomputable def FSnap_Hasher_block_L24 (x24 : Int × (List Int)) : Option ((Int × (List Int)) ⊕ (List Int)) :=
  (bif decide (x24.1 < 64) then chk (inb (IntKind.i64.wrap (x24.1 - 15)) 64 && inb (IntKind.i64.wrap (x24.1 - 15)) x24.2.length) (chk (inb (IntKind.i64.wrap (x24.1 - 2)) 64 && inb (IntKind.i64.wrap (x24.1 - 2)) x24.2.length) (chk (inb (IntKind.i64.wrap (x24.1 - 16)) 64 && inb (IntKind.i64.wrap (x24.1 - 16)) x24.2.length) (chk (inb (IntKind.i64.wrap (x24.1 - 7)) 64 && inb (IntKind.i64.wrap (x24.1 - 7)) x24.2.length) ((FSnap_turn (el x24.2 (IntKind.i64.wrap (x24.1 - 15)).toNat) 7).bind (fun y363 => (FSnap_turn (el x24.2 (IntKind.i64.wrap (x24.1 - 15)).toNat) 18).bind (fun y371 => (FSnap_turn (el x24.2 (IntKind.i64.wrap (x24.1 - 2)).toNat) 17).bind (fun y379 => (FSnap_turn (el x24.2 (IntKind.i64.wrap (x24.1 - 2)).toNat) 19).bind (fun y387 => chk (inb x24.1 64 && inb x24.1 x24.2.length) (bind1 (x24.2.set x24.1.toNat (IntKind.u32.wrap ((IntKind.u32.wrap ((IntKind.u32.wrap ((el x24.2 (IntKind.i64.wrap (x24.1 - 16)).toNat) + (bXor .u32 (bXor .u32 y363 y371) (Int.fdiv (el x24.2 (IntKind.i64.wrap (x24.1 - 15)).toNat) 8)))) + (el x24.2 (IntKind.i64.wrap (x24.1 - 7)).toNat))) + (bXor .u32 (bXor .u32 y379 y387) (Int.fdiv (el x24.2 (IntKind.i64.wrap (x24.1 - 2)).toNat) 1024))))) (fun v401 => some (.inl (IntKind.i64.wrap (x24.1 + 1), v401)))))))))))) else some (.inr x24.2))
noncomputable def FSnap_Hasher_block_L9 (p_b : List Int) (x9 : Int × (List Int)) : Option ((Int × (List Int)) ⊕ (List Int)) :=
  (bif decide (x9.1 < 16) then chk (inb (IntKind.i64.wrap (4 * x9.1)) p_b.length) (chk (inb (IntKind.i64.wrap ((IntKind.i64.wrap (4 * x9.1)) + 1)) p_b.length) (chk (inb (IntKind.i64.wrap ((IntKind.i64.wrap (4 * x9.1)) + 2)) p_b.length) (chk (inb (IntKind.i64.wrap ((IntKind.i64.wrap (4 * x9.1)) + 3)) p_b.length) (chk (inb x9.1 64 && inb x9.1 x9.2.length) (bind1 (x9.2.set x9.1.toNat (bOr .u32 (bOr .u32 (bOr .u32 (IntKind.u32.wrap ((IntKind.u32.wrap (el p_b (IntKind.i64.wrap (4 * x9.1)).toNat)) * 16777216)) (IntKind.u32.wrap ((IntKind.u32.wrap (el p_b (IntKind.i64.wrap ((IntKind.i64.wrap (4 * x9.1)) + 1)).toNat)) * 65536))) (IntKind.u32.wrap ((IntKind.u32.wrap (el p_b (IntKind.i64.wrap ((IntKind.i64.wrap (4 * x9.1)) + 2)).toNat)) * 256))) (IntKind.u32.wrap (el p_b (IntKind.i64.wrap ((IntKind.i64.wrap (4 * x9.1)) + 3)).toNat)))) (fun v432 => some (.inl (IntKind.i64.wrap (x9.1 + 1), v432)))))))) else some (.inr x9.2))
noncomputable def FSnap_Hasher_block (p_h_made : Bool) (p_h_state : List Int) (p_h_n : Int) (p_b : List Int) : Option (List Int) :=
  (loop (FSnap_Hasher_block_L9 p_b) (0, List.replicate 64 0)).bind (fun y10 => (loop FSnap_Hasher_block_L24 (16, y10)).bind (fun y25 => (FSnap_rounds).bind (fun y200 => bind1 (fixl y200 64 0) (fun z37 => (loop (FSnap_Hasher_block_L47 y25 z37) (0, p_h_state)).bind (fun y48 => some ([IntKind.u32.wrap ((el p_h_state 0) + (el y48 0)), IntKind.u32.wrap ((el p_h_state 1) + (el y48 1)), IntKind.u32.wrap ((el p_h_state 2) + (el y48 2)), IntKind.u32.wrap ((el p_h_state 3) + (el y48 3)), IntKind.u32.wrap ((el p_h_state 4) + (el y48 4)), IntKind.u32.wrap ((el p_h_state 5) + (el y48 5)), IntKind.u32.wrap ((el p_h_state 6) + (el y48 6)), IntKind.u32.wrap ((el p_h_state 7) + (el y48 7))]))))))

-- (*quorum/snap.Hasher).Write
noncomputable def FSnap_Hasher_Write_L23 (p_h_made : Bool) (v15 : Int) (x23 : (List Int) × (List Int)) : Option (((List Int) × (List Int)) ⊕ ((List Int) × (List Int))) :=
  (bif decide (((x23.2.length : Nat) : Int) ≥ 64) then chk (inc 0 64 x23.2.length) ((FSnap_Hasher_block p_h_made x23.1 v15 (x23.2.take 64)).bind (fun y52 => chk (inc 0 64 x23.2.length) (some (.inl (y52, x23.2.drop 64))))) else some (.inr (x23.1, x23.2)))
noncomputable def FSnap_Hasher_Write (p_h_made : Bool) (p_h_state : List Int) (p_h_rest : List Int) (p_h_n : Int) (p_b : List Int) : Option ((List Int) × (List Int) × Int) :=
  (bif !p_h_made then some (p_h_state, p_h_rest, p_h_n) else chk (okl ((p_h_rest ++ p_b).length) 1) (bind1 (IntKind.u64.wrap (p_h_n + (IntKind.u64.wrap ((p_b.length : Nat) : Int)))) (fun v15 => (loop (FSnap_Hasher_Write_L23 p_h_made v15) (p_h_state, p_h_rest ++ p_b)).bind (fun y24 => chk (okl y24.2.length 1) (some (y24.1, y24.2, v15))))))

-- (*quorum/snap.Hasher).Sum
noncomputable def FSnap_Hasher_Sum_L74 (x74 : (List Int) × (List Int)) : Option (((List Int) × (List Int)) ⊕ (List Int)) :=
  (bif decide (((x74.1.length : Nat) : Int) > 0) then chk (inc 0 64 x74.1.length) ((FSnap_Hasher_block false x74.2 0 (x74.1.take 64)).bind (fun y202 => chk (inc 0 64 x74.1.length) (some (.inl (x74.1.drop 64, y202))))) else some (.inr x74.2))
noncomputable def FSnap_Hasher_Sum_L51 (p_h_n : Int) (x51 : (List Int) × Int) : Option (((List Int) × Int) ⊕ (List Int)) :=
  (bif decide (x51.2 ≥ 0) then chk (decide (0 ≤ (IntKind.u64.wrap x51.2))) (chk (okl ((x51.1 ++ [IntKind.u8.wrap (shrV .u64 (IntKind.u64.wrap (8 * p_h_n)) (IntKind.u64.wrap x51.2))]).length) 1) (bind1 (IntKind.u8.wrap (shrV .u64 (IntKind.u64.wrap (8 * p_h_n)) (IntKind.u64.wrap x51.2))) (fun v231 => bind1 (x51.1 ++ [IntKind.u8.wrap (shrV .u64 (IntKind.u64.wrap (8 * p_h_n)) (IntKind.u64.wrap x51.2))]) (fun v234 => some (.inl (v234, IntKind.i64.wrap (x51.2 - 8))))))) else some (.inr x51.1))
noncomputable def FSnap_Hasher_Sum_L36 (x36 : List Int) : Option ((List Int) ⊕ (List Int)) :=
  (bif ((Int.tmod ((x36.length : Nat) : Int) 64) != 56) then chk (okl ((x36 ++ [0]).length) 1) (some (.inl (x36 ++ [0]))) else some (.inr x36))
noncomputable def FSnap_Hasher_Sum (p_h_made : Bool) (p_h_state : List Int) (p_h_rest : List Int) (p_h_n : Int) : Option (List Int) :=
  (bif !p_h_made then some ([0, 0, 0, 0, 0, 0, 0, 0, 0, 0, 0, 0, 0, 0, 0, 0, 0, 0, 0, 0, 0, 0, 0, 0, 0, 0, 0, 0, 0, 0, 0, 0]) else chk (okl p_h_rest.length 1) (chk (okl ((p_h_rest ++ [128]).length) 1) ((loop FSnap_Hasher_Sum_L36 (p_h_rest ++ [128])).bind (fun y37 => (loop (FSnap_Hasher_Sum_L51 p_h_n) (y37, 56)).bind (fun y52 => (loop FSnap_Hasher_Sum_L74 (y52, p_h_state)).bind (fun y75 => some ([IntKind.u8.wrap (Int.fdiv (el y75 0) 16777216), IntKind.u8.wrap (Int.fdiv (el y75 0) 65536), IntKind.u8.wrap (Int.fdiv (el y75 0) 256), IntKind.u8.wrap (el y75 0), IntKind.u8.wrap (Int.fdiv (el y75 1) 16777216), IntKind.u8.wrap (Int.fdiv (el y75 1) 65536), IntKind.u8.wrap (Int.fdiv (el y75 1) 256), IntKind.u8.wrap (el y75 1), IntKind.u8.wrap (Int.fdiv (el y75 2) 16777216), IntKind.u8.wrap (Int.fdiv (el y75 2) 65536), IntKind.u8.wrap (Int.fdiv (el y75 2) 256), IntKind.u8.wrap (el y75 2), IntKind.u8.wrap (Int.fdiv (el y75 3) 16777216), IntKind.u8.wrap (Int.fdiv (el y75 3) 65536), IntKind.u8.wrap (Int.fdiv (el y75 3) 256), IntKind.u8.wrap (el y75 3), IntKind.u8.wrap (Int.fdiv (el y75 4) 16777216), IntKind.u8.wrap (Int.fdiv (el y75 4) 65536), IntKind.u8.wrap (Int.fdiv (el y75 4) 256), IntKind.u8.wrap (el y75 4), IntKind.u8.wrap (Int.fdiv (el y75 5) 16777216), IntKind.u8.wrap (Int.fdiv (el y75 5) 65536), IntKind.u8.wrap (Int.fdiv (el y75 5) 256), IntKind.u8.wrap (el y75 5), IntKind.u8.wrap (Int.fdiv (el y75 6) 16777216), IntKind.u8.wrap (Int.fdiv (el y75 6) 65536), IntKind.u8.wrap (Int.fdiv (el y75 6) 256), IntKind.u8.wrap (el y75 6), IntKind.u8.wrap (Int.fdiv (el y75 7) 16777216), IntKind.u8.wrap (Int.fdiv (el y75 7) 65536), IntKind.u8.wrap (Int.fdiv (el y75 7) 256), IntKind.u8.wrap (el y75 7)])))))))

-- quorum/snap.joined
noncomputable def FSnap_joined (parts0 : List Int) (parts1 : List Int) : Option (List Int) :=
  (FSnap_New).bind (fun y6 => (FSnap_Hasher_Write true y6 ([]) 0 parts0).bind (fun y17 => (FSnap_Hasher_Write true y17.1 y17.2.1 y17.2.2 parts1).bind (fun y26 => (FSnap_Hasher_Sum true y26.1 y26.2.1 y26.2.2).bind (fun y36 => some y36))))

-- quorum/snap.leaf
noncomputable def FSnap_leaf (chunk : List Int) : Option (List Int) :=
  (FSnap_joined [0] chunk).bind (fun y16 => some y16)

-- quorum/snap.joined
noncomputable def FSnap_joined2 (parts0 : List Int) (parts1 : List Int) (parts2 : List Int) : Option (List Int) :=
  (FSnap_New).bind (fun y6 => (FSnap_Hasher_Write true y6 ([]) 0 parts0).bind (fun y17 => (FSnap_Hasher_Write true y17.1 y17.2.1 y17.2.2 parts1).bind (fun y26 => (FSnap_Hasher_Write true y26.1 y26.2.1 y26.2.2 parts2).bind (fun y35 => (FSnap_Hasher_Sum true y35.1 y35.2.1 y35.2.2).bind (fun y45 => some y45)))))

-- quorum/snap.pair
noncomputable def FSnap_pair (left : List Int) (right : List Int) : Option (List Int) :=
  (FSnap_joined2 [1] [el left 0, el left 1, el left 2, el left 3, el left 4, el left 5, el left 6, el left 7, el left 8, el left 9, el left 10, el left 11, el left 12, el left 13, el left 14, el left 15, el left 16, el left 17, el left 18, el left 19, el left 20, el left 21, el left 22, el left 23, el left 24, el left 25, el left 26, el left 27, el left 28, el left 29, el left 30, el left 31] [el right 0, el right 1, el right 2, el right 3, el right 4, el right 5, el right 6, el right 7, el right 8, el right 9, el right 10, el right 11, el right 12, el right 13, el right 14, el right 15, el right 16, el right 17, el right 18, el right 19, el right 20, el right 21, el right 22, el right 23, el right 24, el right 25, el right 26, el right 27, el right 28, el right 29, el right 30, el right 31]).bind (fun y29 => some y29)

-- quorum/snap.Verify
noncomputable def FSnap_Verify_L114 (path : List (List Int)) (y77 : List Bool) (x114 : Int × (List Int)) : Option ((Int × (List Int)) ⊕ (List Int)) :=
  (bif decide (x114.1 < ((y77.length : Nat) : Int)) then chk (inb x114.1 y77.length) (((bif el y77 x114.1.toNat then chk (inb x114.1 path.length) ((FSnap_pair (el path x114.1.toNat) x114.2).bind (fun y165 => some y165)) else chk (inb x114.1 path.length) ((FSnap_pair x114.2 (el path x114.1.toNat)).bind (fun y184 => some y184)))).bind (fun y144 => some (.inl (IntKind.i64.wrap (x114.1 + 1), y144)))) else some (.inr x114.2))
noncomputable def FSnap_Verify (root : List Int) (p_size : Int) (p_i : Int) (chunk : List Int) (path : List (List Int)) : Option ((Int × Int) ⊕ Unit) :=
  (bif decide (p_size < 0) then (FSnap_refuse 0 124).bind (fun y8 => some (.inl (0, 124))) else (bif decide (p_size > 40000) then (FSnap_refuse 0 124).bind (fun y19 => some (.inl (0, 124))) else (FSnap_Chunks p_size).bind (fun y28 => (bif decide (p_i < 0) then (FSnap_refuse p_i 123).bind (fun y38 => some (.inl (p_i, 123))) else (bif decide (p_i ≥ y28) then (FSnap_refuse p_i 123).bind (fun y49 => some (.inl (p_i, 123))) else (FSnap_lies p_size p_i).bind (fun y58 => (bif (((chunk.length : Nat) : Int) != (IntKind.i64.wrap (y58.2 - y58.1))) then (FSnap_refuse 1 124).bind (fun y68 => some (.inl (1, 124))) else (FSnap_sides y28 p_i).bind (fun y77 => (bif (((path.length : Nat) : Int) != ((y77.length : Nat) : Int)) then (FSnap_refuse ((path.length : Nat) : Int) 125).bind (fun y87 => some (.inl (((path.length : Nat) : Int), 125))) else (FSnap_leaf chunk).bind (fun y96 => (loop (FSnap_Verify_L114 path y77) (0, y96)).bind (fun y115 => (bif !(eqA 32 0 y115 root) then (FSnap_refuse 0 126).bind (fun y129 => some (.inl (0, 126))) else some (.inr ())))))))))))))

-- quorum/quorumref0.New
noncomputable def FQuorumref0_New (layer : ByteArray) (p_at : Int) (code : Int) : Option (List (ByteArray × Int)) :=
  some ([(layer, p_at)])

-- quorum/quorumref6.Chunks
noncomputable def FQuorumref6_Chunks (p_size : Int) : Option Int :=
  (bif decide (p_size < 0) then some 0 else (bif (p_size == 0) then some 1 else ((bif ((Int.tmod p_size 1024) != 0) then some (IntKind.i64.wrap ((IntKind.i64.wrap (Int.tdiv p_size 1024)) + 1)) else some (IntKind.i64.wrap (Int.tdiv p_size 1024)))).bind (fun y7 => some y7)))

-- quorum/quorumref6.length
noncomputable def FQuorumref6_length (p_size : Int) (p_i : Int) : Option Int :=
  (bif decide ((IntKind.i64.wrap (p_size - (IntKind.i64.wrap (p_i * 1024)))) > 1024) then some 1024 else some (IntKind.i64.wrap (p_size - (IntKind.i64.wrap (p_i * 1024)))))

-- quorum/quorumref6.Half
noncomputable def FQuorumref6_Half_L3 (n : Int) (x3 : Int) : Option (Int ⊕ Int) :=
  (bif decide ((IntKind.i64.wrap (2 * x3)) < n) then some (.inl (IntKind.i64.wrap (2 * x3))) else some (.inr x3))
noncomputable def FQuorumref6_Half (n : Int) : Option Int :=
  (loop (FQuorumref6_Half_L3 n) 1).bind (fun y4 => some y4)

-- quorum/quorumref6.Depth
noncomputable def FQuorumref6_Depth_L3 (x3 : Int × Int × Int) : Option ((Int × Int × Int) ⊕ Int) :=
  (bif decide (x3.2.1 > 1) then (FQuorumref6_Half x3.2.1).bind (fun y18 => ((bif decide (x3.1 < y18) then some (x3.1, y18) else some (IntKind.i64.wrap (x3.1 - y18), IntKind.i64.wrap (x3.2.1 - y18)))).bind (fun y26 => some (.inl (y26.1, y26.2, IntKind.i64.wrap (x3.2.2 + 1))))) else some (.inr x3.2.2))
noncomputable def FQuorumref6_Depth (p_i : Int) (n : Int) : Option Int :=
  (loop FQuorumref6_Depth_L3 (p_i, n, 0)).bind (fun y4 => some y4)

-- quorum/quorumref6.prime
noncomputable def FQuorumref6_prime_L3 (p : Int) (x3 : Int) : Option (Int ⊕ (Unit ⊕ Bool)) :=
  (bif decide (x3 < p) then chk (x3 != 0) ((bif ((Int.tmod p x3) == 0) then some (.inr (.inr false)) else some (.inl (IntKind.u64.wrap (x3 + 1))))) else some (.inr (.inl ())))
noncomputable def FQuorumref6_prime (p : Int) : Option Bool :=
  (loop (FQuorumref6_prime_L3 p) 2).bind (Sum.elim (fun z8 => some true) (fun r17 => some r17))

-- quorum/quorumref3.Product
noncomputable def FQuorumref3_Product (a : Int) (p_b : Int) : Option (Int × Int) :=
  some (IntKind.u64.wrap ((IntKind.u64.wrap ((IntKind.u64.wrap ((Int.fdiv a 4294967296) * (Int.fdiv p_b 4294967296))) + (Int.fdiv (IntKind.u64.wrap ((IntKind.u64.wrap ((Int.fdiv a 4294967296) * (bAnd .u64 p_b 4294967295))) + (Int.fdiv (IntKind.u64.wrap ((bAnd .u64 a 4294967295) * (bAnd .u64 p_b 4294967295))) 4294967296))) 4294967296))) + (Int.fdiv (IntKind.u64.wrap ((IntKind.u64.wrap ((bAnd .u64 a 4294967295) * (Int.fdiv p_b 4294967296))) + (bAnd .u64 (IntKind.u64.wrap ((IntKind.u64.wrap ((Int.fdiv a 4294967296) * (bAnd .u64 p_b 4294967295))) + (Int.fdiv (IntKind.u64.wrap ((bAnd .u64 a 4294967295) * (bAnd .u64 p_b 4294967295))) 4294967296))) 4294967295))) 4294967296)), bOr .u64 (IntKind.u64.wrap ((IntKind.u64.wrap ((IntKind.u64.wrap ((bAnd .u64 a 4294967295) * (Int.fdiv p_b 4294967296))) + (bAnd .u64 (IntKind.u64.wrap ((IntKind.u64.wrap ((Int.fdiv a 4294967296) * (bAnd .u64 p_b 4294967295))) + (Int.fdiv (IntKind.u64.wrap ((bAnd .u64 a 4294967295) * (bAnd .u64 p_b 4294967295))) 4294967296))) 4294967295))) * 4294967296)) (bAnd .u64 (IntKind.u64.wrap ((bAnd .u64 a 4294967295) * (bAnd .u64 p_b 4294967295))) 4294967295))

-- quorum/quorumref6.root2
noncomputable def FQuorumref6_root2_L3 (p : Int) (x3 : Int × Int) : Option ((Int × Int) ⊕ Int) :=
  (bif decide (x3.2 ≥ 0) then chk (decide (0 ≤ (IntKind.u64.wrap x3.2))) ((FQuorumref3_Product (IntKind.u64.wrap (x3.1 + (shlV .u64 1 (IntKind.u64.wrap x3.2)))) (IntKind.u64.wrap (x3.1 + (shlV .u64 1 (IntKind.u64.wrap x3.2))))).bind (fun y20 => (bif decide (y20.1 < p) then some (.inl (IntKind.u64.wrap (x3.1 + (shlV .u64 1 (IntKind.u64.wrap x3.2))), IntKind.i64.wrap (x3.2 - 1))) else (bif (y20.1 == p) then ((bif (y20.2 == 0) then some (IntKind.u64.wrap (x3.1 + (shlV .u64 1 (IntKind.u64.wrap x3.2)))) else some x3.1)).bind (fun y33 => some (.inl (y33, IntKind.i64.wrap (x3.2 - 1)))) else some (.inl (x3.1, IntKind.i64.wrap (x3.2 - 1))))))) else some (.inr x3.1))
noncomputable def FQuorumref6_root2 (p : Int) : Option Int :=
  (loop (FQuorumref6_root2_L3 p) (0, 34)).bind (fun y4 => some (IntKind.u32.wrap y4))

-- quorum/quorumref6.root3
noncomputable def FQuorumref6_root3_L3 (p : Int) (x3 : Int × Int) : Option ((Int × Int) ⊕ Int) :=
  (bif decide (x3.2 ≥ 0) then chk (decide (0 ≤ (IntKind.u64.wrap x3.2))) ((FQuorumref3_Product (IntKind.u64.wrap (x3.1 + (shlV .u64 1 (IntKind.u64.wrap x3.2)))) (IntKind.u64.wrap (x3.1 + (shlV .u64 1 (IntKind.u64.wrap x3.2))))).bind (fun y20 => (FQuorumref3_Product y20.2 (IntKind.u64.wrap (x3.1 + (shlV .u64 1 (IntKind.u64.wrap x3.2))))).bind (fun y28 => (bif decide ((IntKind.u64.wrap (y28.1 + (IntKind.u64.wrap (y20.1 * (IntKind.u64.wrap (x3.1 + (shlV .u64 1 (IntKind.u64.wrap x3.2)))))))) < (IntKind.u64.wrap (p * 4294967296))) then some (.inl (IntKind.u64.wrap (x3.1 + (shlV .u64 1 (IntKind.u64.wrap x3.2))), IntKind.i64.wrap (x3.2 - 1))) else (bif ((IntKind.u64.wrap (y28.1 + (IntKind.u64.wrap (y20.1 * (IntKind.u64.wrap (x3.1 + (shlV .u64 1 (IntKind.u64.wrap x3.2)))))))) == (IntKind.u64.wrap (p * 4294967296))) then ((bif (y28.2 == 0) then some (IntKind.u64.wrap (x3.1 + (shlV .u64 1 (IntKind.u64.wrap x3.2)))) else some x3.1)).bind (fun y41 => some (.inl (y41, IntKind.i64.wrap (x3.2 - 1)))) else some (.inl (x3.1, IntKind.i64.wrap (x3.2 - 1)))))))) else some (.inr x3.1))
noncomputable def FQuorumref6_root3 (p : Int) : Option Int :=
  (loop (FQuorumref6_root3_L3 p) (0, 34)).bind (fun y4 => some (IntKind.u32.wrap y4))

-- quorum/quorumref6.words
noncomputable def FQuorumref6_words_L9 (x9 : Int × Int × (List Int)) : Option ((Int × Int × (List Int)) ⊕ (List Int)) :=
  (bif decide (x9.1 < 64) then (FQuorumref6_prime x9.2.1).bind (fun y24 => ((bif y24 then ((bif decide (x9.1 < 8) then (FQuorumref6_root2 x9.2.1).bind (fun y80 => chk (inb x9.1 8 && inb x9.1 x9.2.2.length) (some (x9.2.2.set x9.1.toNat y80))) else some x9.2.2)).bind (fun y46 => (FQuorumref6_root3 x9.2.1).bind (fun y61 => chk (inb x9.1 64 && inb x9.1 ((y46.drop 8).length)) (some (IntKind.i64.wrap (x9.1 + 1), y46.set (8 + x9.1.toNat) y61)))) else some (x9.1, x9.2.2))).bind (fun y32 => some (.inl (y32.1, IntKind.u64.wrap (x9.2.1 + 1), y32.2)))) else some (.inr x9.2.2))
noncomputable def FQuorumref6_words : Option (List Int) :=
  (loop FQuorumref6_words_L9 (0, 2, List.replicate 72 0)).bind (fun y10 => some y10)

-- quorum/quorumref6.LeafBytes
noncomputable def FQuorumref6_LeafBytes_L8 (chunk : List Int) (x8 : (List Int) × Int) : Option (((List Int) × Int) ⊕ (List Int)) :=
  (bif decide (x8.2 < ((chunk.length : Nat) : Int)) then chk (inb x8.2 chunk.length) (chk (okl ((x8.1 ++ [el chunk x8.2.toNat]).length) 1) (some (.inl (x8.1 ++ [el chunk x8.2.toNat], IntKind.i64.wrap (x8.2 + 1))))) else some (.inr x8.1))
noncomputable def FQuorumref6_LeafBytes (chunk : List Int) : Option (List Int) :=
  (loop (FQuorumref6_LeafBytes_L8 chunk) ([0], 0)).bind (fun y9 => some y9)

-- quorum/quorumref6.padded
noncomputable def FQuorumref6_padded_L46 (p_b : List Int) (x46 : (List Int) × Int) : Option (((List Int) × Int) ⊕ (List Int)) :=
  (bif decide (x46.2 ≥ 0) then chk (decide (0 ≤ (IntKind.u64.wrap (IntKind.i64.wrap (8 * x46.2))))) (chk (okl ((x46.1 ++ [IntKind.u8.wrap (shrV .u64 (IntKind.u64.wrap (8 * (IntKind.u64.wrap ((p_b.length : Nat) : Int)))) (IntKind.u64.wrap (IntKind.i64.wrap (8 * x46.2))))]).length) 1) (bind1 (IntKind.u8.wrap (shrV .u64 (IntKind.u64.wrap (8 * (IntKind.u64.wrap ((p_b.length : Nat) : Int)))) (IntKind.u64.wrap (IntKind.i64.wrap (8 * x46.2))))) (fun v76 => bind1 (x46.1 ++ [IntKind.u8.wrap (shrV .u64 (IntKind.u64.wrap (8 * (IntKind.u64.wrap ((p_b.length : Nat) : Int)))) (IntKind.u64.wrap (IntKind.i64.wrap (8 * x46.2))))]) (fun v79 => some (.inl (v79, IntKind.i64.wrap (x46.2 - 1))))))) else some (.inr x46.1))
noncomputable def FQuorumref6_padded_L31 (x31 : List Int) : Option ((List Int) ⊕ (List Int)) :=
  (bif ((Int.tmod ((x31.length : Nat) : Int) 64) != 56) then chk (okl ((x31 ++ [0]).length) 1) (some (.inl (x31 ++ [0]))) else some (.inr x31))
noncomputable def FQuorumref6_padded_L3 (p_b : List Int) (x3 : (List Int) × Int) : Option (((List Int) × Int) ⊕ (List Int)) :=
  (bif decide (x3.2 < ((p_b.length : Nat) : Int)) then chk (inb x3.2 p_b.length) (chk (okl ((x3.1 ++ [el p_b x3.2.toNat]).length) 1) (some (.inl (x3.1 ++ [el p_b x3.2.toNat], IntKind.i64.wrap (x3.2 + 1))))) else some (.inr x3.1))
noncomputable def FQuorumref6_padded (p_b : List Int) : Option (List Int) :=
  (loop (FQuorumref6_padded_L3 p_b) ([], 0)).bind (fun y4 => chk (okl ((y4 ++ [128]).length) 1) ((loop FQuorumref6_padded_L31 (y4 ++ [128])).bind (fun y32 => (loop (FQuorumref6_padded_L46 p_b) (y32, 7)).bind (fun y47 => some y47))))

-- quorum/quorumref6.word
noncomputable def FQuorumref6_word (p_b : List Int) (p_i : Int) : Option Int :=
  chk (inb p_i p_b.length) (chk (inb (IntKind.i64.wrap (p_i + 1)) p_b.length) (chk (inb (IntKind.i64.wrap (p_i + 2)) p_b.length) (chk (inb (IntKind.i64.wrap (p_i + 3)) p_b.length) (some (bOr .u32 (bOr .u32 (bOr .u32 (IntKind.u32.wrap ((IntKind.u32.wrap (el p_b p_i.toNat)) * 16777216)) (IntKind.u32.wrap ((IntKind.u32.wrap (el p_b (IntKind.i64.wrap (p_i + 1)).toNat)) * 65536))) (IntKind.u32.wrap ((IntKind.u32.wrap (el p_b (IntKind.i64.wrap (p_i + 2)).toNat)) * 256))) (IntKind.u32.wrap (el p_b (IntKind.i64.wrap (p_i + 3)).toNat)))))))

-- quorum/quorumref6.rot
noncomputable def FQuorumref6_rot (p_x : Int) (n : Int) : Option Int :=
  chk (decide (0 ≤ n)) (chk (decide (0 ≤ (IntKind.u64.wrap (32 - n)))) (some (bOr .u32 (shrV .u32 p_x n) (shlV .u32 p_x (IntKind.u64.wrap (32 - n))))))

-- (*quorum/quorumref6.Words).block
noncomputable def FQuorumref6_Words_block_L57 (p_w : List Int) (y35 : List Int) (x57 : Int × (List Int)) : Option ((Int × (List Int)) ⊕ (List Int)) :=
  (bif decide (x57.1 < 64) then chk (inb x57.1 64 && inb x57.1 ((p_w.drop 8).length)) (chk (inb x57.1 64 && inb x57.1 y35.length) ((FQuorumref6_rot (el x57.2 4) 6).bind (fun y146 => (FQuorumref6_rot (el x57.2 4) 11).bind (fun y154 => (FQuorumref6_rot (el x57.2 4) 25).bind (fun y162 => (FQuorumref6_rot (el x57.2 0) 2).bind (fun y173 => (FQuorumref6_rot (el x57.2 0) 13).bind (fun y181 => (FQuorumref6_rot (el x57.2 0) 22).bind (fun y189 => some (.inl (IntKind.i64.wrap (x57.1 + 1), [IntKind.u32.wrap ((IntKind.u32.wrap ((IntKind.u32.wrap ((IntKind.u32.wrap ((IntKind.u32.wrap ((el x57.2 7) + (bXor .u32 (bXor .u32 y146 y154) y162))) + (bXor .u32 (bAnd .u32 (el x57.2 4) (el x57.2 5)) (bAnd .u32 (bXor .u32 4294967295 (el x57.2 4)) (el x57.2 6))))) + (el (p_w.drop 8) x57.1.toNat))) + (el y35 x57.1.toNat))) + (IntKind.u32.wrap ((bXor .u32 (bXor .u32 y173 y181) y189) + (bXor .u32 (bXor .u32 (bAnd .u32 (el x57.2 0) (el x57.2 1)) (bAnd .u32 (el x57.2 0) (el x57.2 2))) (bAnd .u32 (el x57.2 1) (el x57.2 2)))))), el x57.2 0, el x57.2 1, el x57.2 2, IntKind.u32.wrap ((el x57.2 3) + (IntKind.u32.wrap ((IntKind.u32.wrap ((IntKind.u32.wrap ((IntKind.u32.wrap ((el x57.2 7) + (bXor .u32 (bXor .u32 y146 y154) y162))) + (bXor .u32 (bAnd .u32 (el x57.2 4) (el x57.2 5)) (bAnd .u32 (bXor .u32 4294967295 (el x57.2 4)) (el x57.2 6))))) + (el (p_w.drop 8) x57.1.toNat))) + (el y35 x57.1.toNat)))), el x57.2 4, el x57.2 5, el x57.2 6])))))))))) else some (.inr x57.2))
noncomputable def FQuorumref6_Words_block_L34 (x34 : Int × (List Int)) : Option ((Int × (List Int)) ⊕ (List Int)) :=
  (bif decide (x34.1 < 64) then chk (inb (IntKind.i64.wrap (x34.1 - 15)) 64 && inb (IntKind.i64.wrap (x34.1 - 15)) x34.2.length) (chk (inb (IntKind.i64.wrap (x34.1 - 2)) 64 && inb (IntKind.i64.wrap (x34.1 - 2)) x34.2.length) (chk (inb (IntKind.i64.wrap (x34.1 - 16)) 64 && inb (IntKind.i64.wrap (x34.1 - 16)) x34.2.length) (chk (inb (IntKind.i64.wrap (x34.1 - 7)) 64 && inb (IntKind.i64.wrap (x34.1 - 7)) x34.2.length) ((FQuorumref6_rot (el x34.2 (IntKind.i64.wrap (x34.1 - 15)).toNat) 7).bind (fun y218 => (FQuorumref6_rot (el x34.2 (IntKind.i64.wrap (x34.1 - 15)).toNat) 18).bind (fun y226 => (FQuorumref6_rot (el x34.2 (IntKind.i64.wrap (x34.1 - 2)).toNat) 17).bind (fun y234 => (FQuorumref6_rot (el x34.2 (IntKind.i64.wrap (x34.1 - 2)).toNat) 19).bind (fun y242 => chk (inb x34.1 64 && inb x34.1 x34.2.length) (bind1 (x34.2.set x34.1.toNat (IntKind.u32.wrap ((IntKind.u32.wrap ((IntKind.u32.wrap ((el x34.2 (IntKind.i64.wrap (x34.1 - 16)).toNat) + (bXor .u32 (bXor .u32 y218 y226) (Int.fdiv (el x34.2 (IntKind.i64.wrap (x34.1 - 15)).toNat) 8)))) + (el x34.2 (IntKind.i64.wrap (x34.1 - 7)).toNat))) + (bXor .u32 (bXor .u32 y234 y242) (Int.fdiv (el x34.2 (IntKind.i64.wrap (x34.1 - 2)).toNat) 1024))))) (fun v256 => some (.inl (IntKind.i64.wrap (x34.1 + 1), v256)))))))))))) else some (.inr x34.2))
noncomputable def FQuorumref6_Words_block_L19 (p_b : List Int) (x19 : Int × (List Int)) : Option ((Int × (List Int)) ⊕ (List Int)) :=
  (bif decide (x19.1 < 16) then (FQuorumref6_word p_b (IntKind.i64.wrap (4 * x19.1))).bind (fun y262 => chk (inb x19.1 64 && inb x19.1 x19.2.length) (some (.inl (IntKind.i64.wrap (x19.1 + 1), x19.2.set x19.1.toNat y262)))) else some (.inr x19.2))
noncomputable def FQuorumref6_Words_block (p_w : List Int) (p_h : List Int) (p_b : List Int) : Option (List Int) :=
  (loop (FQuorumref6_Words_block_L19 p_b) (0, List.replicate 64 0)).bind (fun y20 => (loop FQuorumref6_Words_block_L34 (16, y20)).bind (fun y35 => (loop (FQuorumref6_Words_block_L57 p_w y35) (0, p_h)).bind (fun y58 => some ([IntKind.u32.wrap ((el p_h 0) + (el y58 0)), IntKind.u32.wrap ((el p_h 1) + (el y58 1)), IntKind.u32.wrap ((el p_h 2) + (el y58 2)), IntKind.u32.wrap ((el p_h 3) + (el y58 3)), IntKind.u32.wrap ((el p_h 4) + (el y58 4)), IntKind.u32.wrap ((el p_h 5) + (el y58 5)), IntKind.u32.wrap ((el p_h 6) + (el y58 6)), IntKind.u32.wrap ((el p_h 7) + (el y58 7))]))))

-- (*quorum/quorumref6.Words).sum
noncomputable def FQuorumref6_Words_sum_L51 (y31 : List Int) (x51 : Int × (List Int)) : Option ((Int × (List Int)) ⊕ (List Int)) :=
  (bif decide (x51.1 < 32) then chk (inb (IntKind.i64.wrap (Int.tdiv x51.1 4)) 8 && inb (IntKind.i64.wrap (Int.tdiv x51.1 4)) y31.length) (chk (decide (0 ≤ (IntKind.u64.wrap (IntKind.i64.wrap (24 - (IntKind.i64.wrap (8 * (Int.tmod x51.1 4)))))))) (chk (inb x51.1 32 && inb x51.1 x51.2.length) (bind1 (x51.2.set x51.1.toNat (IntKind.u8.wrap (shrV .u32 (el y31 (IntKind.i64.wrap (Int.tdiv x51.1 4)).toNat) (IntKind.u64.wrap (IntKind.i64.wrap (24 - (IntKind.i64.wrap (8 * (Int.tmod x51.1 4))))))))) (fun v84 => some (.inl (IntKind.i64.wrap (x51.1 + 1), v84)))))) else some (.inr x51.2))
noncomputable def FQuorumref6_Words_sum_L30 (p_w : List Int) (y7 : List Int) (x30 : Int × (List Int)) : Option ((Int × (List Int)) ⊕ (List Int)) :=
  (bif decide ((IntKind.i64.wrap (x30.1 + 64)) ≤ ((y7.length : Nat) : Int)) then chk (Nat.ble 8 x30.2.length) (chk (inc x30.1 (IntKind.i64.wrap (x30.1 + 64)) y7.length) ((FQuorumref6_Words_block p_w x30.2 ((y7.drop x30.1.toNat).take ((IntKind.i64.wrap (x30.1 + 64)).toNat - x30.1.toNat))).bind (fun y97 => chk (x30.2.length == (fixl y97 8 0).length) (some (.inl (IntKind.i64.wrap (x30.1 + 64), fixl y97 8 0)))))) else some (.inr x30.2))
noncomputable def FQuorumref6_Words_sum (p_w : List Int) (p_b : List Int) : Option (List Int) :=
  (FQuorumref6_padded p_b).bind (fun y7 => chk (Nat.ble 8 p_w.length) ((loop (FQuorumref6_Words_sum_L30 p_w y7) (0, fixl p_w 8 0)).bind (fun y31 => (loop (FQuorumref6_Words_sum_L51 y31) (0, List.replicate 32 0)).bind (fun y52 => chk (Nat.ble 32 y52.length) (some y52)))))

-- quorum/quorumref6.RowBytes
noncomputable def FQuorumref6_RowBytes_L35 (p_b : List Int) (x35 : (List Int) × Int) : Option (((List Int) × Int) ⊕ (List Int)) :=
  (bif decide (x35.2 < 32) then chk (inb x35.2 32 && inb x35.2 ((fixl p_b 32 0).length)) (chk (okl ((x35.1 ++ [el (fixl p_b 32 0) x35.2.toNat]).length) 1) (some (.inl (x35.1 ++ [el (fixl p_b 32 0) x35.2.toNat], IntKind.i64.wrap (x35.2 + 1))))) else some (.inr x35.1))
noncomputable def FQuorumref6_RowBytes_L20 (a : List Int) (x20 : (List Int) × Int) : Option (((List Int) × Int) ⊕ (List Int)) :=
  (bif decide (x20.2 < 32) then chk (inb x20.2 32 && inb x20.2 ((fixl a 32 0).length)) (chk (okl ((x20.1 ++ [el (fixl a 32 0) x20.2.toNat]).length) 1) (some (.inl (x20.1 ++ [el (fixl a 32 0) x20.2.toNat], IntKind.i64.wrap (x20.2 + 1))))) else some (.inr x20.1))
noncomputable def FQuorumref6_RowBytes (a : List Int) (p_b : List Int) : Option (List Int) :=
  (loop (FQuorumref6_RowBytes_L20 a) ([1], 0)).bind (fun y21 => (loop (FQuorumref6_RowBytes_L35 p_b) (y21, 0)).bind (fun y36 => some y36))

-- (*quorum/quorumref6.Words).lead
noncomputable def FQuorumref6_Words_lead_S (rec_ : ((List Int) × (List Int) × Int × Int × (List (List Int))) → Option (List Int)) (p_w : List Int) (leaf : List Int) (p_i : Int) (n : Int) (path : List (List Int)) : Option (List Int) :=
  (bif (n == 1) then some leaf else (FQuorumref6_Half n).bind (fun y17 => chk (inb (IntKind.i64.wrap (((path.length : Nat) : Int) - 1)) path.length) (chk (inc 0 (IntKind.i64.wrap (((path.length : Nat) : Int) - 1)) path.length) ((bif decide (p_i < y17) then (rec_ (p_w, leaf, p_i, y17, path.take (IntKind.i64.wrap (((path.length : Nat) : Int) - 1)).toNat)).bind (fun y41 => bind1 (el path (IntKind.i64.wrap (((path.length : Nat) : Int) - 1)).toNat) (fun v49 => (FQuorumref6_RowBytes y41 v49).bind (fun y60 => (FQuorumref6_Words_sum p_w y60).bind (fun y68 => some y68)))) else (rec_ (p_w, leaf, IntKind.i64.wrap (p_i - y17), IntKind.i64.wrap (n - y17), path.take (IntKind.i64.wrap (((path.length : Nat) : Int) - 1)).toNat)).bind (fun y80 => bind1 (el path (IntKind.i64.wrap (((path.length : Nat) : Int) - 1)).toNat) (fun v88 => (FQuorumref6_RowBytes v88 y80).bind (fun y99 => (FQuorumref6_Words_sum p_w y99).bind (fun y107 => some y107)))))))))
noncomputable def FQuorumref6_Words_lead_U (rec_ : ((List Int) × (List Int) × Int × Int × (List (List Int))) → Option (List Int)) (a_ : (List Int) × (List Int) × Int × Int × (List (List Int))) : Option (List Int) := FQuorumref6_Words_lead_S rec_ a_.1 a_.2.1 a_.2.2.1 a_.2.2.2.1 a_.2.2.2.2
noncomputable def FQuorumref6_Words_lead (p_w : List Int) (leaf : List Int) (p_i : Int) (n : Int) (path : List (List Int)) : Option (List Int) := itR FQuorumref6_Words_lead_U 1000 (p_w, leaf, p_i, n, path)

-- quorum/quorumref0.None
noncomputable def FQuorumref0_None : Option Unit :=
  some ()

-- quorum/quorumref6.Verify
noncomputable def FQuorumref6_Verify (root : List Int) (p_size : Int) (p_i : Int) (chunk : List Int) (path : List (List Int)) : Option ((List (ByteArray × Int)) × Int) :=
  (bif decide (p_size < 0) then (FQuorumref0_New (⟨#[115, 110, 97, 112]⟩) 0 124).bind (fun y13 => some (y13, 124)) else (bif decide (p_size > 40000) then (FQuorumref0_New (⟨#[115, 110, 97, 112]⟩) 0 124).bind (fun y27 => some (y27, 124)) else (FQuorumref6_Chunks p_size).bind (fun y39 => (bif decide (p_i < 0) then (FQuorumref0_New (⟨#[115, 110, 97, 112]⟩) p_i 123).bind (fun y49 => some (y49, 123)) else (bif decide (p_i ≥ y39) then (FQuorumref0_New (⟨#[115, 110, 97, 112]⟩) p_i 123).bind (fun y63 => some (y63, 123)) else (FQuorumref6_length p_size p_i).bind (fun y75 => (bif (((chunk.length : Nat) : Int) != y75) then (FQuorumref0_New (⟨#[115, 110, 97, 112]⟩) 1 124).bind (fun y85 => some (y85, 124)) else (FQuorumref6_Depth p_i y39).bind (fun y97 => (bif (((path.length : Nat) : Int) != y97) then (FQuorumref0_New (⟨#[115, 110, 97, 112]⟩) ((path.length : Nat) : Int) 125).bind (fun y107 => some (y107, 125)) else (FQuorumref6_words).bind (fun y119 => (FQuorumref6_LeafBytes chunk).bind (fun y130 => (FQuorumref6_Words_sum y119 y130).bind (fun y138 => (FQuorumref6_Words_lead y119 y138 p_i y39 path).bind (fun y146 => (bif !(eqA 32 0 y146 root) then (FQuorumref0_New (⟨#[115, 110, 97, 112]⟩) 0 126).bind (fun y156 => some (y156, 126)) else (FQuorumref0_None).bind (fun y168 => some ([], 0))))))))))))))))

-- quorum/quorumlaw0.Told
noncomputable def FQuorumlaw0_Told (err_Layer : ByteArray) (err_At : Int) (err_Err : Int) : Option ((List (ByteArray × Int)) × Bool) :=
  some ([(err_Layer, err_At)], (err_Err != 0))

-- quorum/quorumref0.Same
noncomputable def FQuorumref0_Same_L19 (a_Links : List (ByteArray × Int)) (b_Links : List (ByteArray × Int)) (x19 : Int) : Option (Int ⊕ (Unit ⊕ Bool)) :=
  (bif decide (x19 < ((a_Links.length : Nat) : Int)) then chk (inb x19 a_Links.length) (chk (inb x19 b_Links.length) ((bif !(((el a_Links x19.toNat).1).toList == ((el b_Links x19.toNat).1).toList) then bind1 true (fun z36 => (bif z36 then some (.inr (.inr false)) else some (.inl (IntKind.i64.wrap (x19 + 1))))) else chk (inb x19 a_Links.length) (chk (inb x19 b_Links.length) (bind1 (((el a_Links x19.toNat).2) != ((el b_Links x19.toNat).2)) (fun z36 => (bif z36 then some (.inr (.inr false)) else some (.inl (IntKind.i64.wrap (x19 + 1)))))))))) else some (.inr (.inl ())))
noncomputable def FQuorumref0_Same (a_Links : List (ByteArray × Int)) (a_Code : Int) (b_Links : List (ByteArray × Int)) (b_Code : Int) : Option Bool :=
  (bif (a_Code != b_Code) then some false else (bif (((a_Links.length : Nat) : Int) != ((b_Links.length : Nat) : Int)) then some false else (loop (FQuorumref0_Same_L19 a_Links b_Links) 0).bind (Sum.elim (fun z24 => some true) (fun r33 => some r33))))

-- quorum/quorumlaw0.Is
noncomputable def FQuorumlaw0_Is (err_Layer : ByteArray) (err_At : Int) (err_Err : Int) (f_Links : List (ByteArray × Int)) (f_Code : Int) : Option Bool :=
  (FQuorumlaw0_Told err_Layer err_At err_Err).bind (fun y6 => (bif y6.2 then (FQuorumref0_Same f_Links f_Code y6.1 err_Err).bind (fun y24 => some y24) else some false))

-- quorum/quorumlaw6.sameBytes
noncomputable def FQuorumlaw6_sameBytes_L6 (a : List Int) (p_b : List Int) (x6 : Int) : Option (Int ⊕ (Unit ⊕ Bool)) :=
  (bif decide (x6 < ((a.length : Nat) : Int)) then chk (inb x6 a.length) (chk (inb x6 p_b.length) ((bif ((el a x6.toNat) != (el p_b x6.toNat)) then some (.inr (.inr false)) else some (.inl (IntKind.i64.wrap (x6 + 1)))))) else some (.inr (.inl ())))
noncomputable def FQuorumlaw6_sameBytes (a : List Int) (p_b : List Int) : Option Bool :=
  (bif (((a.length : Nat) : Int) != ((p_b.length : Nat) : Int)) then some false else (loop (FQuorumlaw6_sameBytes_L6 a p_b) 0).bind (Sum.elim (fun z11 => some true) (fun r20 => some r20)))

-- quorum/quorumlaw6.kept
noncomputable def FQuorumlaw6_kept_L16 (l : List Int) (p_b : List Int) (x16 : Int) : Option (Int ⊕ (Unit ⊕ Bool)) :=
  (bif decide (x16 < 72) then chk (inb (IntKind.i64.wrap (((p_b.length : Nat) : Int) + x16)) ((l.take (IntKind.i64.wrap (((p_b.length : Nat) : Int) + 72)).toNat).length)) ((bif ((el (l.take (IntKind.i64.wrap (((p_b.length : Nat) : Int) + 72)).toNat) (IntKind.i64.wrap (((p_b.length : Nat) : Int) + x16)).toNat) != (IntKind.u8.wrap (IntKind.i64.wrap (160 + x16)))) then some (.inr (.inr false)) else some (.inl (IntKind.i64.wrap (x16 + 1))))) else some (.inr (.inl ())))
noncomputable def FQuorumlaw6_kept (l : List Int) (p_n_l : Nat) (p_b : List Int) : Option Bool :=
  (FQuorumlaw6_sameBytes (l.take p_n_l) p_b).bind (fun y1 => (bif !y1 then some false else chk (inc 0 (IntKind.i64.wrap (((p_b.length : Nat) : Int) + 72)) l.length) ((loop (FQuorumlaw6_kept_L16 l p_b) 0).bind (Sum.elim (fun z21 => some true) (fun r30 => some r30)))))

-- quorum/quorumlaw6.sameHashes
noncomputable def FQuorumlaw6_sameHashes_L6 (a : List (List Int)) (p_b : List (List Int)) (x6 : Int) : Option (Int ⊕ (Unit ⊕ Bool)) :=
  (bif decide (x6 < ((a.length : Nat) : Int)) then chk (inb x6 a.length) (chk (inb x6 p_b.length) ((bif !(eqA 32 0 (el a x6.toNat) (el p_b x6.toNat)) then some (.inr (.inr false)) else some (.inl (IntKind.i64.wrap (x6 + 1)))))) else some (.inr (.inl ())))
noncomputable def FQuorumlaw6_sameHashes (a : List (List Int)) (p_b : List (List Int)) : Option Bool :=
  (bif (((a.length : Nat) : Int) != ((p_b.length : Nat) : Int)) then some false else (loop (FQuorumlaw6_sameHashes_L6 a p_b) 0).bind (Sum.elim (fun z11 => some true) (fun r20 => some r20)))

-- quorum/quorumlaw6.keptPath
noncomputable def FQuorumlaw6_keptPath (l : List (List Int)) (p_n_l : Nat) (p : List (List Int)) : Option Bool :=
  chk (inc 0 (IntKind.i64.wrap (((p.length : Nat) : Int) + 1)) l.length) ((FQuorumlaw6_sameHashes (l.take p_n_l) p).bind (fun y3 => (bif y3 then chk (inb ((p.length : Nat) : Int) ((l.take (IntKind.i64.wrap (((p.length : Nat) : Int) + 1)).toNat).length)) (some (eqA 32 0 (el (l.take (IntKind.i64.wrap (((p.length : Nat) : Int) + 1)).toNat) ((p.length : Nat) : Int).toNat) ([7, 7, 0, 0, 0, 0, 0, 0, 0, 0, 0, 0, 0, 0, 0, 0, 0, 0, 0, 0, 0, 0, 0, 0, 0, 0, 0, 0, 0, 0, 0, 0]))) else some false)))

-- quorum/quorumlaw0.Told
noncomputable def FQuorumlaw0_Told2_L16 (x16 : Unit) : Option (Unit ⊕ Unit) :=
  some (.inr ())
noncomputable def FQuorumlaw0_Told2 : Option Unit :=
  (loop FQuorumlaw0_Told2_L16 ()).bind (fun r21 => some r21)

-- quorum/quorumlaw0.Is
noncomputable def FQuorumlaw0_Is2 (f_Links : List (ByteArray × Int)) (f_Code : Int) : Option Bool :=
  (FQuorumlaw0_Told2).bind (fun y6 => (FQuorumref0_Same f_Links f_Code ([]) 0).bind (fun y22 => some y22))

-- quorum/quorumlaw6.SnapVerifies
noncomputable def FQuorumlaw6_SnapVerifies (root : List Int) (p_size : Int) (p_i : Int) (chunk : List Int) (path : List (List Int)) : Option Bool :=
  (bif decide (((chunk.length : Nat) : Int) > 48000) then some true else (bif decide (((path.length : Nat) : Int) > 100) then some true else (FQuorumlaw6_twin chunk).bind (fun y12 => (FQuorumlaw6_twinPath path).bind (fun y20 => (FSnap_Verify root p_size p_i (y12.1.take y12.2) (y20.1.take y20.2)).bind (Sum.elim (fun z31 => (FQuorumref6_Verify root p_size p_i chunk path).bind (fun y38 => (FQuorumlaw0_Is (⟨#[115, 110, 97, 112]⟩) z31.1 z31.2 y38.1 y38.2).bind (fun y54 => (bif y54 then (FQuorumlaw6_kept y12.1 y12.2 chunk).bind (fun y64 => (bif y64 then (FQuorumlaw6_keptPath y20.1 y20.2 path).bind (fun y74 => some y74) else some false)) else some false)))) (fun z84 => (FQuorumref6_Verify root p_size p_i chunk path).bind (fun y91 => (FQuorumlaw0_Is2 y91.1 y91.2).bind (fun y107 => (bif y107 then (FQuorumlaw6_kept y12.1 y12.2 chunk).bind (fun y117 => (bif y117 then (FQuorumlaw6_keptPath y20.1 y20.2 path).bind (fun y127 => some y127) else some false)) else some false)))))))))
end Go.Proofs.YtlfaalbkhfjpkaaDoor
