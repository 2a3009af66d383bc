/- The plain functions that a program of the prover's own has printed for functions of the program: nothing is proved here. -/
import Derived.Test.YtlfaalbkhfjpkaaDoorLift
set_option linter.unusedVariables false
set_option linter.unusedSimpArgs false
set_option maxRecDepth 100000
namespace Go.Proofs.YtlfaalbkhfjpkaaDoor
open Go.RowKit
-- quorum/quorumlaw6.twin
noncomputable def FQuorumlaw6_twin_L26 (x26 : (List Int) × Int) : Option (((List Int) × Int) ⊕ (List Int)) :=
  (bif decide (x26.2 < 72) then chk (okl ((x26.1 ++ [IntKind.u8.wrap (IntKind.i64.wrap (160 + x26.2))]).length) 1) (some (.inl (x26.1 ++ [IntKind.u8.wrap (IntKind.i64.wrap (160 + x26.2))], IntKind.i64.wrap (x26.2 + 1)))) else some (.inr x26.1))
noncomputable def FQuorumlaw6_twin_L11 (p_b : List Int) (x11 : (List Int) × Int) : Option (((List Int) × Int) ⊕ (List Int)) :=
  (bif decide (x11.2 < ((p_b.length : Nat) : Int)) then chk (inb x11.2 p_b.length) (chk (okl ((x11.1 ++ [el p_b x11.2.toNat]).length) 1) (some (.inl (x11.1 ++ [el p_b x11.2.toNat], IntKind.i64.wrap (x11.2 + 1))))) else some (.inr x11.1))
noncomputable def FQuorumlaw6_twin (p_b : List Int) : Option ((List Int) × Nat) :=
  chk (inc 0 (IntKind.i64.wrap (((p_b.length : Nat) : Int) + 72)) ((IntKind.i64.wrap (((p_b.length : Nat) : Int) + 72)).toNat) && okl ((IntKind.i64.wrap (((p_b.length : Nat) : Int) + 72)).toNat) 1) ((loop (FQuorumlaw6_twin_L11 p_b) (List.replicate 0 0, 0)).bind (fun y12 => (loop FQuorumlaw6_twin_L26 (y12, 0)).bind (fun y27 => chk (inc 0 ((p_b.length : Nat) : Int) y27.length) (some (y27, ((p_b.length : Nat) : Int).toNat)))))

-- quorum/snap.Chunks
noncomputable def FSnap_Chunks (p_size : Int) : Option Int :=
  (bif decide (p_size < 0) then some 0 else some (if (IntKind.i64.wrap ((IntKind.i64.wrap (Int.tdiv p_size 1024)) + (if (Int.tmod p_size 1024) < 1 then (Int.tmod p_size 1024) else 1))) > 1 then (IntKind.i64.wrap ((IntKind.i64.wrap (Int.tdiv p_size 1024)) + (if (Int.tmod p_size 1024) < 1 then (Int.tmod p_size 1024) else 1))) else 1))

-- quorum/quorumref6.Chunks
noncomputable def FQuorumref6_Chunks (p_size : Int) : Option Int :=
  (bif decide (p_size < 0) then some 0 else (bif (p_size == 0) then some 1 else ((bif ((Int.tmod p_size 1024) != 0) then some (IntKind.i64.wrap ((IntKind.i64.wrap (Int.tdiv p_size 1024)) + 1)) else some (IntKind.i64.wrap (Int.tdiv p_size 1024)))).bind (fun y7 => some y7)))

-- quorum/snap.refuse
noncomputable def FSnap_refuse (p_at : Int) (n : Int) : Option Unit :=
  some ()

-- quorum/snap.lies
noncomputable def FSnap_lies (p_size : Int) (p_i : Int) : Option (Int × Int) :=
  some (IntKind.i64.wrap (p_i * 1024), if (IntKind.i64.wrap ((IntKind.i64.wrap (p_i + 1)) * 1024)) < p_size then (IntKind.i64.wrap ((IntKind.i64.wrap (p_i + 1)) * 1024)) else p_size)

-- quorum/snap.Chunk
noncomputable def FSnap_Chunk (data : List Int) (p_n_data : Nat) (p_i : Int) : Option (Unit ⊕ (List Int)) :=
  (bif decide (p_i < 0) then (FSnap_refuse p_i 123).bind (fun y3 => some (.inl ())) else (FSnap_Chunks (((data.take p_n_data).length : Nat) : Int)).bind (fun y12 => (bif decide (p_i ≥ y12) then (FSnap_refuse p_i 123).bind (fun y22 => some (.inl ())) else (FSnap_lies (((data.take p_n_data).length : Nat) : Int) p_i).bind (fun y31 => chk (inc y31.1 y31.2 data.length) (chk (okl (((data.drop y31.1.toNat).take (y31.2.toNat - y31.1.toNat)).length) 1) (some (.inr ((data.drop y31.1.toNat).take (y31.2.toNat - y31.1.toNat)))))))))

-- quorum/quorumref0.New
noncomputable def FQuorumref0_New (layer : ByteArray) (p_at : Int) (code : Int) : Option (List (ByteArray × Int)) :=
  some ([(layer, p_at)])

-- quorum/quorumref6.length
noncomputable def FQuorumref6_length (p_size : Int) (p_i : Int) : Option Int :=
  (bif decide ((IntKind.i64.wrap (p_size - (IntKind.i64.wrap (p_i * 1024)))) > 1024) then some 1024 else some (IntKind.i64.wrap (p_size - (IntKind.i64.wrap (p_i * 1024)))))

-- quorum/quorumref6.piece
noncomputable def FQuorumref6_piece_L11 (data : List Int) (p_i : Int) (y1 : Int) (x11 : (List Int) × Int) : Option (((List Int) × Int) ⊕ (List Int)) :=
  (bif decide (x11.2 < y1) then chk (inb (IntKind.i64.wrap ((IntKind.i64.wrap (p_i * 1024)) + x11.2)) data.length) (chk (okl ((x11.1 ++ [el data (IntKind.i64.wrap ((IntKind.i64.wrap (p_i * 1024)) + x11.2)).toNat]).length) 1) (bind1 (el data (IntKind.i64.wrap ((IntKind.i64.wrap (p_i * 1024)) + x11.2)).toNat) (fun v44 => bind1 (x11.1 ++ [el data (IntKind.i64.wrap ((IntKind.i64.wrap (p_i * 1024)) + x11.2)).toNat]) (fun v47 => some (.inl (v47, IntKind.i64.wrap (x11.2 + 1))))))) else some (.inr x11.1))
noncomputable def FQuorumref6_piece (data : List Int) (p_i : Int) : Option (List Int) :=
  (FQuorumref6_length ((data.length : Nat) : Int) p_i).bind (fun y1 => (loop (FQuorumref6_piece_L11 data p_i y1) ([], 0)).bind (fun y12 => some y12))

-- quorum/quorumref0.None
noncomputable def FQuorumref0_None : Option Unit :=
  some ()

-- quorum/quorumref6.Chunk
noncomputable def FQuorumref6_Chunk (data : List Int) (p_i : Int) : Option ((List Int) × (List (ByteArray × Int)) × Int) :=
  (bif decide (p_i < 0) then (FQuorumref0_New (⟨#[115, 110, 97, 112]⟩) p_i 123).bind (fun y8 => some ([], y8, 123)) else (FQuorumref6_Chunks ((data.length : Nat) : Int)).bind (fun y21 => (bif decide (p_i ≥ y21) then (FQuorumref0_New (⟨#[115, 110, 97, 112]⟩) p_i 123).bind (fun y31 => some ([], y31, 123)) else (FQuorumref6_piece data p_i).bind (fun y44 => (FQuorumref0_None).bind (fun y52 => some (y44, [], 0))))))

-- quorum/quorumlaw0.Told
noncomputable def FQuorumlaw0_Told (err_Layer : ByteArray) (err_At : Int) (err_Err : Int) : Option ((List (ByteArray × Int)) × Bool) :=
  some ([(err_Layer, err_At)], (err_Err != 0))

-- quorum/quorumref0.Same
noncomputable def FQuorumref0_Same_L19 (a_Links : List (ByteArray × Int)) (b_Links : List (ByteArray × Int)) (x19 : Int) : Option (Int ⊕ (Unit ⊕ Bool)) :=
  (bif decide (x19 < ((a_Links.length : Nat) : Int)) then chk (inb x19 a_Links.length) (chk (inb x19 b_Links.length) ((bif !(((el a_Links x19.toNat).1).toList == ((el b_Links x19.toNat).1).toList) then bind1 true (fun z36 => (bif z36 then some (.inr (.inr false)) else some (.inl (IntKind.i64.wrap (x19 + 1))))) else chk (inb x19 a_Links.length) (chk (inb x19 b_Links.length) (bind1 (((el a_Links x19.toNat).2) != ((el b_Links x19.toNat).2)) (fun z36 => (bif z36 then some (.inr (.inr false)) else some (.inl (IntKind.i64.wrap (x19 + 1)))))))))) else some (.inr (.inl ())))
noncomputable def FQuorumref0_Same (a_Links : List (ByteArray × Int)) (a_Code : Int) (b_Links : List (ByteArray × Int)) (b_Code : Int) : Option Bool :=
  (bif (a_Code != b_Code) then some false else (bif (((a_Links.length : Nat) : Int) != ((b_Links.length : Nat) : Int)) then some false else (loop (FQuorumref0_Same_L19 a_Links b_Links) 0).bind (Sum.elim (fun z24 => some true) (fun r33 => some r33))))

-- quorum/quorumlaw0.Is
noncomputable def FQuorumlaw0_Is (err_Layer : ByteArray) (err_At : Int) (err_Err : Int) (f_Links : List (ByteArray × Int)) (f_Code : Int) : Option Bool :=
  (FQuorumlaw0_Told err_Layer err_At err_Err).bind (fun y6 => (bif y6.2 then (FQuorumref0_Same f_Links f_Code y6.1 err_Err).bind (fun y24 => some y24) else some false))

-- quorum/quorumlaw6.sameBytes
noncomputable def FQuorumlaw6_sameBytes_L6 (a : List Int) (p_b : List Int) (x6 : Int) : Option (Int ⊕ (Unit ⊕ Bool)) :=
  (bif decide (x6 < ((a.length : Nat) : Int)) then chk (inb x6 a.length) (chk (inb x6 p_b.length) ((bif ((el a x6.toNat) != (el p_b x6.toNat)) then some (.inr (.inr false)) else some (.inl (IntKind.i64.wrap (x6 + 1)))))) else some (.inr (.inl ())))
noncomputable def FQuorumlaw6_sameBytes (a : List Int) (p_b : List Int) : Option Bool :=
  (bif (((a.length : Nat) : Int) != ((p_b.length : Nat) : Int)) then some false else (loop (FQuorumlaw6_sameBytes_L6 a p_b) 0).bind (Sum.elim (fun z11 => some true) (fun r20 => some r20)))

-- quorum/quorumlaw0.Told
noncomputable def FQuorumlaw0_Told2_L16 (x16 : Unit) : Option (Unit ⊕ Unit) :=
  some (.inr ())
noncomputable def FQuorumlaw0_Told2 : Option Unit :=
  (loop FQuorumlaw0_Told2_L16 ()).bind (fun r21 => some r21)

-- quorum/quorumlaw0.Is
noncomputable def FQuorumlaw0_Is2 (f_Links : List (ByteArray × Int)) (f_Code : Int) : Option Bool :=
  (FQuorumlaw0_Told2).bind (fun y6 => (FQuorumref0_Same f_Links f_Code ([]) 0).bind (fun y22 => some y22))

-- quorum/snap.half
noncomputable def FSnap_half_L3 (n : Int) (x3 : Int) : Option (Int ⊕ Int) :=
  (bif decide ((IntKind.i64.wrap (2 * x3)) < n) then some (.inl (IntKind.i64.wrap (x3 * 2))) else some (.inr x3))
noncomputable def FSnap_half (n : Int) : Option Int :=
  (loop (FSnap_half_L3 n) 1).bind (fun y4 => some y4)

-- quorum/snap.New
noncomputable def FSnap_New : Option (List Int) :=
  some ([1779033703, 3144134277, 1013904242, 2773480762, 1359893119, 2600822924, 528734635, 1541459225])

-- math/bits.RotateLeft32
noncomputable def FBits_RotateLeft32 (p_x : Int) (k : Int) : Option Int :=
  chk (decide (0 ≤ (bAnd .u64 (IntKind.u64.wrap k) 31))) (chk (decide (0 ≤ (IntKind.u64.wrap (32 - (bAnd .u64 (IntKind.u64.wrap k) 31))))) (some (bOr .u32 (shlV .u32 p_x (bAnd .u64 (IntKind.u64.wrap k) 31)) (shrV .u32 p_x (IntKind.u64.wrap (32 - (bAnd .u64 (IntKind.u64.wrap k) 31)))))))

-- quorum/snap.turn
noncomputable def FSnap_turn (p_x : Int) (n : Int) : Option Int :=
  (FBits_RotateLeft32 p_x (IntKind.i64.wrap (0 - n))).bind (fun y1 => some y1)

-- quorum/snap.rounds
noncomputable def FSnap_rounds : Option (List Int) :=
  some ([1116352408, 1899447441, 3049323471, 3921009573, 961987163, 1508970993, 2453635748, 2870763221, 3624381080, 310598401, 607225278, 1426881987, 1925078388, 2162078206, 2614888103, 3248222580, 3835390401, 4022224774, 264347078, 604807628, 770255983, 1249150122, 1555081692, 1996064986, 2554220882, 2821834349, 2952996808, 3210313671, 3336571891, 3584528711, 113926993, 338241895, 666307205, 773529912, 1294757372, 1396182291, 1695183700, 1986661051, 2177026350, 2456956037, 2730485921, 2820302411, 3259730800, 3345764771, 3516065817, 3600352804, 4094571909, 275423344, 430227734, 506948616, 659060556, 883997877, 958139571, 1322822218, 1537002063, 1747873779, 1955562222, 2024104815, 2227730452, 2361852424, 2428436474, 2756734187, 3204031479, 3329325298])

-- (*quorum/snap.Hasher).block
noncomputable def FSnap_Hasher_block_L47 (y25 : List Int) (z37 : List Int) (x47 : Int × (List Int)) : Option ((Int × (List Int)) ⊕ (List Int)) :=
  (bif decide (x47.1 < 64) then chk (inb x47.1 64 && inb x47.1 z37.length) (chk (inb x47.1 64 && inb x47.1 y25.length) ((FSnap_turn (el x47.2 4) 6).bind (fun y132 => (FSnap_turn (el x47.2 4) 11).bind (fun y140 => (FSnap_turn (el x47.2 4) 25).bind (fun y148 => (FSnap_turn (el x47.2 0) 2).bind (fun y156 => bind1 (IntKind.u32.wrap ((IntKind.u32.wrap ((IntKind.u32.wrap ((IntKind.u32.wrap ((el x47.2 7) + (bXor .u32 (bXor .u32 y132 y140) y148))) + (bXor .u32 (bAnd .u32 (el x47.2 4) (el x47.2 5)) (bAnd .u32 (bXor .u32 4294967295 (el x47.2 4)) (el x47.2 6))))) + (el z37 x47.1.toNat))) + (el y25 x47.1.toNat))) (fun v164 => (FSnap_turn (el x47.2 0) 13).bind (fun y167 => (FSnap_turn (el x47.2 0) 22).bind (fun y175 => some (.inl (IntKind.i64.wrap (x47.1 + 1), [IntKind.u32.wrap (v164 + (IntKind.u32.wrap ((bXor .u32 (bXor .u32 y156 y167) y175) + (bXor .u32 (bXor .u32 (bAnd .u32 (el x47.2 0) (el x47.2 1)) (bAnd .u32 (el x47.2 0) (el x47.2 2))) (bAnd .u32 (el x47.2 1) (el x47.2 2)))))), el x47.2 0, el x47.2 1, el x47.2 2, IntKind.u32.wrap ((el x47.2 3) + v164), el x47.2 4, el x47.2 5, el x47.2 6]))))))))))) else some (.inr x47.2))
noncomputable def FSnap_Hasher_block_L24 (x24 : Int × (List Int)) : Option ((Int × (List Int)) ⊕ (List Int)) :=
  (bif decide (x24.1 < 64) then chk (inb (IntKind.i64.wrap (x24.1 - 15)) 64 && inb (IntKind.i64.wrap (x24.1 - 15)) x24.2.length) (chk (inb (IntKind.i64.wrap (x24.1 - 2)) 64 && inb (IntKind.i64.wrap (x24.1 - 2)) x24.2.length) (chk (inb (IntKind.i64.wrap (x24.1 - 16)) 64 && inb (IntKind.i64.wrap (x24.1 - 16)) x24.2.length) (chk (inb (IntKind.i64.wrap (x24.1 - 7)) 64 && inb (IntKind.i64.wrap (x24.1 - 7)) x24.2.length) ((FSnap_turn (el x24.2 (IntKind.i64.wrap (x24.1 - 15)).toNat) 7).bind (fun y363 => (FSnap_turn (el x24.2 (IntKind.i64.wrap (x24.1 - 15)).toNat) 18).bind (fun y371 => (FSnap_turn (el x24.2 (IntKind.i64.wrap (x24.1 - 2)).toNat) 17).bind (fun y379 => (FSnap_turn (el x24.2 (IntKind.i64.wrap (x24.1 - 2)).toNat) 19).bind (fun y387 => chk (inb x24.1 64 && inb x24.1 x24.2.length) (bind1 (x24.2.set x24.1.toNat (IntKind.u32.wrap ((IntKind.u32.wrap ((IntKind.u32.wrap ((el x24.2 (IntKind.i64.wrap (x24.1 - 16)).toNat) + (bXor .u32 (bXor .u32 y363 y371) (Int.fdiv (el x24.2 (IntKind.i64.wrap (x24.1 - 15)).toNat) 8)))) + (el x24.2 (IntKind.i64.wrap (x24.1 - 7)).toNat))) + (bXor .u32 (bXor .u32 y379 y387) (Int.fdiv (el x24.2 (IntKind.i64.wrap (x24.1 - 2)).toNat) 1024))))) (fun v401 => some (.inl (IntKind.i64.wrap (x24.1 + 1), v401)))))))))))) else some (.inr x24.2))
noncomputable def FSnap_Hasher_block_L9 (p_b : List Int) (x9 : Int × (List Int)) : Option ((Int × (List Int)) ⊕ (List Int)) :=
  (bif decide (x9.1 < 16) then chk (inb (IntKind.i64.wrap (4 * x9.1)) p_b.length) (chk (inb (IntKind.i64.wrap ((IntKind.i64.wrap (4 * x9.1)) + 1)) p_b.length) (chk (inb (IntKind.i64.wrap ((IntKind.i64.wrap (4 * x9.1)) + 2)) p_b.length) (chk (inb (IntKind.i64.wrap ((IntKind.i64.wrap (4 * x9.1)) + 3)) p_b.length) (chk (inb x9.1 64 && inb x9.1 x9.2.length) (bind1 (x9.2.set x9.1.toNat (bOr .u32 (bOr .u32 (bOr .u32 (IntKind.u32.wrap ((IntKind.u32.wrap (el p_b (IntKind.i64.wrap (4 * x9.1)).toNat)) * 16777216)) (IntKind.u32.wrap ((IntKind.u32.wrap (el p_b (IntKind.i64.wrap ((IntKind.i64.wrap (4 * x9.1)) + 1)).toNat)) * 65536))) (IntKind.u32.wrap ((IntKind.u32.wrap (el p_b (IntKind.i64.wrap ((IntKind.i64.wrap (4 * x9.1)) + 2)).toNat)) * 256))) (IntKind.u32.wrap (el p_b (IntKind.i64.wrap ((IntKind.i64.wrap (4 * x9.1)) + 3)).toNat)))) (fun v432 => some (.inl (IntKind.i64.wrap (x9.1 + 1), v432)))))))) else some (.inr x9.2))
noncomputable def FSnap_Hasher_block (p_h_made : Bool) (p_h_state : List Int) (p_h_n : Int) (p_b : List Int) : Option (List Int) :=
  (loop (FSnap_Hasher_block_L9 p_b) (0, List.replicate 64 0)).bind (fun y10 => (loop FSnap_Hasher_block_L24 (16, y10)).bind (fun y25 => (FSnap_rounds).bind (fun y200 => bind1 (fixl y200 64 0) (fun z37 => (loop (FSnap_Hasher_block_L47 y25 z37) (0, p_h_state)).bind (fun y48 => some ([IntKind.u32.wrap ((el p_h_state 0) + (el y48 0)), IntKind.u32.wrap ((el p_h_state 1) + (el y48 1)), IntKind.u32.wrap ((el p_h_state 2) + (el y48 2)), IntKind.u32.wrap ((el p_h_state 3) + (el y48 3)), IntKind.u32.wrap ((el p_h_state 4) + (el y48 4)), IntKind.u32.wrap ((el p_h_state 5) + (el y48 5)), IntKind.u32.wrap ((el p_h_state 6) + (el y48 6)), IntKind.u32.wrap ((el p_h_state 7) + (el y48 7))]))))))

-- (*quorum/snap.Hasher).Write
noncomputable def FSnap_Hasher_Write_L23 (p_h_made : Bool) (v15 : Int) (x23 : (List Int) × (List Int)) : Option (((List Int) × (List Int)) ⊕ ((List Int) × (List Int))) :=
  (bif decide (((x23.2.length : Nat) : Int) ≥ 64) then chk (inc 0 64 x23.2.length) ((FSnap_Hasher_block p_h_made x23.1 v15 (x23.2.take 64)).bind (fun y52 => chk (inc 0 64 x23.2.length) (some (.inl (y52, x23.2.drop 64))))) else some (.inr (x23.1, x23.2)))
noncomputable def FSnap_Hasher_Write (p_h_made : Bool) (p_h_state : List Int) (p_h_rest : List Int) (p_h_n : Int) (p_b : List Int) : Option ((List Int) × (List Int) × Int) :=
  (bif !p_h_made then some (p_h_state, p_h_rest, p_h_n) else chk (okl ((p_h_rest ++ p_b).length) 1) (bind1 (IntKind.u64.wrap (p_h_n + (IntKind.u64.wrap ((p_b.length : Nat) : Int)))) (fun v15 => (loop (FSnap_Hasher_Write_L23 p_h_made v15) (p_h_state, p_h_rest ++ p_b)).bind (fun y24 => chk (okl y24.2.length 1) (some (y24.1, y24.2, v15))))))

-- (*quorum/snap.Hasher).Sum
noncomputable def FSnap_Hasher_Sum_L74 (x74 : (List Int) × (List Int)) : Option (((List Int) × (List Int)) ⊕ (List Int)) :=
  (bif decide (((x74.1.length : Nat) : Int) > 0) then chk (inc 0 64 x74.1.length) ((FSnap_Hasher_block false x74.2 0 (x74.1.take 64)).bind (fun y202 => chk (inc 0 64 x74.1.length) (some (.inl (x74.1.drop 64, y202))))) else some (.inr x74.2))
noncomputable def FSnap_Hasher_Sum_L51 (p_h_n : Int) (x51 : (List Int) × Int) : Option (((List Int) × Int) ⊕ (List Int)) :=
  (bif decide (x51.2 ≥ 0) then chk (decide (0 ≤ (IntKind.u64.wrap x51.2))) (chk (okl ((x51.1 ++ [IntKind.u8.wrap (shrV .u64 (IntKind.u64.wrap (8 * p_h_n)) (IntKind.u64.wrap x51.2))]).length) 1) (bind1 (IntKind.u8.wrap (shrV .u64 (IntKind.u64.wrap (8 * p_h_n)) (IntKind.u64.wrap x51.2))) (fun v231 => bind1 (x51.1 ++ [IntKind.u8.wrap (shrV .u64 (IntKind.u64.wrap (8 * p_h_n)) (IntKind.u64.wrap x51.2))]) (fun v234 => some (.inl (v234, IntKind.i64.wrap (x51.2 - 8))))))) else some (.inr x51.1))
noncomputable def FSnap_Hasher_Sum_L36 (x36 : List Int) : Option ((List Int) ⊕ (List Int)) :=
  (bif ((Int.tmod ((x36.length : Nat) : Int) 64) != 56) then chk (okl ((x36 ++ [0]).length) 1) (some (.inl (x36 ++ [0]))) else some (.inr x36))
noncomputable def FSnap_Hasher_Sum (p_h_made : Bool) (p_h_state : List Int) (p_h_rest : List Int) (p_h_n : Int) : Option (List Int) :=
  (bif !p_h_made then some ([0, 0, 0, 0, 0, 0, 0, 0, 0, 0, 0, 0, 0, 0, 0, 0, 0, 0, 0, 0, 0, 0, 0, 0, 0, 0, 0, 0, 0, 0, 0, 0]) else chk (okl p_h_rest.length 1) (chk (okl ((p_h_rest ++ [128]).length) 1) ((loop FSnap_Hasher_Sum_L36 (p_h_rest ++ [128])).bind (fun y37 => (loop (FSnap_Hasher_Sum_L51 p_h_n) (y37, 56)).bind (fun y52 => (loop FSnap_Hasher_Sum_L74 (y52, p_h_state)).bind (fun y75 => some ([IntKind.u8.wrap (Int.fdiv (el y75 0) 16777216), IntKind.u8.wrap (Int.fdiv (el y75 0) 65536), IntKind.u8.wrap (Int.fdiv (el y75 0) 256), IntKind.u8.wrap (el y75 0), IntKind.u8.wrap (Int.fdiv (el y75 1) 16777216), IntKind.u8.wrap (Int.fdiv (el y75 1) 65536), IntKind.u8.wrap (Int.fdiv (el y75 1) 256), IntKind.u8.wrap (el y75 1), IntKind.u8.wrap (Int.fdiv (el y75 2) 16777216), IntKind.u8.wrap (Int.fdiv (el y75 2) 65536), IntKind.u8.wrap (Int.fdiv (el y75 2) 256), IntKind.u8.wrap (el y75 2), IntKind.u8.wrap (Int.fdiv (el y75 3) 16777216), IntKind.u8.wrap (Int.fdiv (el y75 3) 65536), IntKind.u8.wrap (Int.fdiv (el y75 3) 256), IntKind.u8.wrap (el y75 3), IntKind.u8.wrap (Int.fdiv (el y75 4) 16777216), IntKind.u8.wrap (Int.fdiv (el y75 4) 65536), IntKind.u8.wrap (Int.fdiv (el y75 4) 256), IntKind.u8.wrap (el y75 4), IntKind.u8.wrap (Int.fdiv (el y75 5) 16777216), IntKind.u8.wrap (Int.fdiv (el y75 5) 65536), IntKind.u8.wrap (Int.fdiv (el y75 5) 256), IntKind.u8.wrap (el y75 5), IntKind.u8.wrap (Int.fdiv (el y75 6) 16777216), IntKind.u8.wrap (Int.fdiv (el y75 6) 65536), IntKind.u8.wrap (Int.fdiv (el y75 6) 256), IntKind.u8.wrap (el y75 6), IntKind.u8.wrap (Int.fdiv (el y75 7) 16777216), IntKind.u8.wrap (Int.fdiv (el y75 7) 65536), IntKind.u8.wrap (Int.fdiv (el y75 7) 256), IntKind.u8.wrap (el y75 7)])))))))

-- quorum/snap.joined
noncomputable def FSnap_joined (parts0 : List Int) (parts1 : List Int) : Option (List Int) :=
  (FSnap_New).bind (fun y6 => (FSnap_Hasher_Write true y6 ([]) 0 parts0).bind (fun y17 => (FSnap_Hasher_Write true y17.1 y17.2.1 y17.2.2 parts1).bind (fun y26 => (FSnap_Hasher_Sum true y26.1 y26.2.1 y26.2.2).bind (fun y36 => some y36))))

-- quorum/snap.leaf
noncomputable def FSnap_leaf (chunk : List Int) : Option (List Int) :=
  (FSnap_joined [0] chunk).bind (fun y16 => some y16)

-- quorum/snap.joined
noncomputable def FSnap_joined2 (parts0 : List Int) (parts1 : List Int) (parts2 : List Int) : Option (List Int) :=
  (FSnap_New).bind (fun y6 => (FSnap_Hasher_Write true y6 ([]) 0 parts0).bind (fun y17 => (FSnap_Hasher_Write true y17.1 y17.2.1 y17.2.2 parts1).bind (fun y26 => (FSnap_Hasher_Write true y26.1 y26.2.1 y26.2.2 parts2).bind (fun y35 => (FSnap_Hasher_Sum true y35.1 y35.2.1 y35.2.2).bind (fun y45 => some y45)))))

-- quorum/snap.pair
noncomputable def FSnap_pair (left : List Int) (right : List Int) : Option (List Int) :=
  (FSnap_joined2 [1] [el left 0, el left 1, el left 2, el left 3, el left 4, el left 5, el left 6, el left 7, el left 8, el left 9, el left 10, el left 11, el left 12, el left 13, el left 14, el left 15, el left 16, el left 17, el left 18, el left 19, el left 20, el left 21, el left 22, el left 23, el left 24, el left 25, el left 26, el left 27, el left 28, el left 29, el left 30, el left 31] [el right 0, el right 1, el right 2, el right 3, el right 4, el right 5, el right 6, el right 7, el right 8, el right 9, el right 10, el right 11, el right 12, el right 13, el right 14, el right 15, el right 16, el right 17, el right 18, el right 19, el right 20, el right 21, el right 22, el right 23, el right 24, el right 25, el right 26, el right 27, el right 28, el right 29, el right 30, el right 31]).bind (fun y29 => some y29)

-- quorum/snap.row
noncomputable def FSnap_row_S (rec_ : ((List Int) × Int × Int) → Option (List Int)) (data : List Int) (lo : Int) (n : Int) : Option (List Int) :=
  (bif (n == 1) then (FSnap_lies ((data.length : Nat) : Int) lo).bind (fun y8 => chk (inc y8.1 y8.2 data.length) ((FSnap_leaf ((data.drop y8.1.toNat).take (y8.2.toNat - y8.1.toNat))).bind (fun y18 => some y18))) else (FSnap_half n).bind (fun y30 => (rec_ (data, lo, y30)).bind (fun y38 => (rec_ (data, IntKind.i64.wrap (lo + y30), IntKind.i64.wrap (n - y30))).bind (fun y46 => (FSnap_pair y38 y46).bind (fun y54 => some y54)))))
noncomputable def FSnap_row_U (rec_ : ((List Int) × Int × Int) → Option (List Int)) (a_ : (List Int) × Int × Int) : Option (List Int) := FSnap_row_S rec_ a_.1 a_.2.1 a_.2.2
noncomputable def FSnap_row (data : List Int) (lo : Int) (n : Int) : Option (List Int) := itR FSnap_row_U 1000 (data, lo, n)

-- quorum/snap.beside
noncomputable def FSnap_beside_S (rec_ : ((List Int) × Int × Int × Int) → Option (List (List Int))) (data : List Int) (lo : Int) (n : Int) (p_i : Int) : Option (List (List Int)) :=
  (bif (n == 1) then some ([]) else (FSnap_half n).bind (fun y5 => (bif decide (p_i < (IntKind.i64.wrap (lo + y5))) then (rec_ (data, lo, y5, p_i)).bind (fun y15 => (FSnap_row data (IntKind.i64.wrap (lo + y5)) (IntKind.i64.wrap (n - y5))).bind (fun y23 => chk (okl ((y15 ++ [[el y23 0, el y23 1, el y23 2, el y23 3, el y23 4, el y23 5, el y23 6, el y23 7, el y23 8, el y23 9, el y23 10, el y23 11, el y23 12, el y23 13, el y23 14, el y23 15, el y23 16, el y23 17, el y23 18, el y23 19, el y23 20, el y23 21, el y23 22, el y23 23, el y23 24, el y23 25, el y23 26, el y23 27, el y23 28, el y23 29, el y23 30, el y23 31]]).length) 32) (bind1 (y15 ++ [[el y23 0, el y23 1, el y23 2, el y23 3, el y23 4, el y23 5, el y23 6, el y23 7, el y23 8, el y23 9, el y23 10, el y23 11, el y23 12, el y23 13, el y23 14, el y23 15, el y23 16, el y23 17, el y23 18, el y23 19, el y23 20, el y23 21, el y23 22, el y23 23, el y23 24, el y23 25, el y23 26, el y23 27, el y23 28, el y23 29, el y23 30, el y23 31]]) (fun v44 => some v44)))) else (rec_ (data, IntKind.i64.wrap (lo + y5), IntKind.i64.wrap (n - y5), p_i)).bind (fun y48 => (FSnap_row data lo y5).bind (fun y56 => chk (okl ((y48 ++ [[el y56 0, el y56 1, el y56 2, el y56 3, el y56 4, el y56 5, el y56 6, el y56 7, el y56 8, el y56 9, el y56 10, el y56 11, el y56 12, el y56 13, el y56 14, el y56 15, el y56 16, el y56 17, el y56 18, el y56 19, el y56 20, el y56 21, el y56 22, el y56 23, el y56 24, el y56 25, el y56 26, el y56 27, el y56 28, el y56 29, el y56 30, el y56 31]]).length) 32) (bind1 (y48 ++ [[el y56 0, el y56 1, el y56 2, el y56 3, el y56 4, el y56 5, el y56 6, el y56 7, el y56 8, el y56 9, el y56 10, el y56 11, el y56 12, el y56 13, el y56 14, el y56 15, el y56 16, el y56 17, el y56 18, el y56 19, el y56 20, el y56 21, el y56 22, el y56 23, el y56 24, el y56 25, el y56 26, el y56 27, el y56 28, el y56 29, el y56 30, el y56 31]]) (fun v77 => some v77)))))))
noncomputable def FSnap_beside_U (rec_ : ((List Int) × Int × Int × Int) → Option (List (List Int))) (a_ : (List Int) × Int × Int × Int) : Option (List (List Int)) := FSnap_beside_S rec_ a_.1 a_.2.1 a_.2.2.1 a_.2.2.2
noncomputable def FSnap_beside (data : List Int) (lo : Int) (n : Int) (p_i : Int) : Option (List (List Int)) := itR FSnap_beside_U 1000 (data, lo, n, p_i)

-- quorum/snap.Path
noncomputable def FSnap_Path (data : List Int) (p_i : Int) : Option (Unit ⊕ (List (List Int))) :=
  (FSnap_Chunks ((data.length : Nat) : Int)).bind (fun y1 => (bif decide (p_i < 0) then (FSnap_refuse p_i 123).bind (fun y11 => some (.inl ())) else (bif decide (p_i ≥ y1) then (FSnap_refuse p_i 123).bind (fun y22 => some (.inl ())) else (FSnap_beside data 0 y1 p_i).bind (fun y31 => some (.inr y31)))))

-- quorum/quorumref6.prime
noncomputable def FQuorumref6_prime_L3 (p : Int) (x3 : Int) : Option (Int ⊕ (Unit ⊕ Bool)) :=
  (bif decide (x3 < p) then chk (x3 != 0) ((bif ((Int.tmod p x3) == 0) then some (.inr (.inr false)) else some (.inl (IntKind.u64.wrap (x3 + 1))))) else some (.inr (.inl ())))
noncomputable def FQuorumref6_prime (p : Int) : Option Bool :=
  (loop (FQuorumref6_prime_L3 p) 2).bind (Sum.elim (fun z8 => some true) (fun r17 => some r17))

-- quorum/quorumref3.Product
noncomputable def FQuorumref3_Product (a : Int) (p_b : Int) : Option (Int × Int) :=
  some (IntKind.u64.wrap ((IntKind.u64.wrap ((IntKind.u64.wrap ((Int.fdiv a 4294967296) * (Int.fdiv p_b 4294967296))) + (Int.fdiv (IntKind.u64.wrap ((IntKind.u64.wrap ((Int.fdiv a 4294967296) * (bAnd .u64 p_b 4294967295))) + (Int.fdiv (IntKind.u64.wrap ((bAnd .u64 a 4294967295) * (bAnd .u64 p_b 4294967295))) 4294967296))) 4294967296))) + (Int.fdiv (IntKind.u64.wrap ((IntKind.u64.wrap ((bAnd .u64 a 4294967295) * (Int.fdiv p_b 4294967296))) + (bAnd .u64 (IntKind.u64.wrap ((IntKind.u64.wrap ((Int.fdiv a 4294967296) * (bAnd .u64 p_b 4294967295))) + (Int.fdiv (IntKind.u64.wrap ((bAnd .u64 a 4294967295) * (bAnd .u64 p_b 4294967295))) 4294967296))) 4294967295))) 4294967296)), bOr .u64 (IntKind.u64.wrap ((IntKind.u64.wrap ((IntKind.u64.wrap ((bAnd .u64 a 4294967295) * (Int.fdiv p_b 4294967296))) + (bAnd .u64 (IntKind.u64.wrap ((IntKind.u64.wrap ((Int.fdiv a 4294967296) * (bAnd .u64 p_b 4294967295))) + (Int.fdiv (IntKind.u64.wrap ((bAnd .u64 a 4294967295) * (bAnd .u64 p_b 4294967295))) 4294967296))) 4294967295))) * 4294967296)) (bAnd .u64 (IntKind.u64.wrap ((bAnd .u64 a 4294967295) * (bAnd .u64 p_b 4294967295))) 4294967295))

-- quorum/quorumref6.root2
noncomputable def FQuorumref6_root2_L3 (p : Int) (x3 : Int × Int) : Option ((Int × Int) ⊕ Int) :=
  (bif decide (x3.2 ≥ 0) then chk (decide (0 ≤ (IntKind.u64.wrap x3.2))) ((FQuorumref3_Product (IntKind.u64.wrap (x3.1 + (shlV .u64 1 (IntKind.u64.wrap x3.2)))) (IntKind.u64.wrap (x3.1 + (shlV .u64 1 (IntKind.u64.wrap x3.2))))).bind (fun y20 => (bif decide (y20.1 < p) then some (.inl (IntKind.u64.wrap (x3.1 + (shlV .u64 1 (IntKind.u64.wrap x3.2))), IntKind.i64.wrap (x3.2 - 1))) else (bif (y20.1 == p) then ((bif (y20.2 == 0) then some (IntKind.u64.wrap (x3.1 + (shlV .u64 1 (IntKind.u64.wrap x3.2)))) else some x3.1)).bind (fun y33 => some (.inl (y33, IntKind.i64.wrap (x3.2 - 1)))) else some (.inl (x3.1, IntKind.i64.wrap (x3.2 - 1))))))) else some (.inr x3.1))
noncomputable def FQuorumref6_root2 (p : Int) : Option Int :=
  (loop (FQuorumref6_root2_L3 p) (0, 34)).bind (fun y4 => some (IntKind.u32.wrap y4))

-- quorum/quorumref6.root3
noncomputable def FQuorumref6_root3_L3 (p : Int) (x3 : Int × Int) : Option ((Int × Int) ⊕ Int) :=
  (bif decide (x3.2 ≥ 0) then chk (decide (0 ≤ (IntKind.u64.wrap x3.2))) ((FQuorumref3_Product (IntKind.u64.wrap (x3.1 + (shlV .u64 1 (IntKind.u64.wrap x3.2)))) (IntKind.u64.wrap (x3.1 + (shlV .u64 1 (IntKind.u64.wrap x3.2))))).bind (fun y20 => (FQuorumref3_Product y20.2 (IntKind.u64.wrap (x3.1 + (shlV .u64 1 (IntKind.u64.wrap x3.2))))).bind (fun y28 => (bif decide ((IntKind.u64.wrap (y28.1 + (IntKind.u64.wrap (y20.1 * (IntKind.u64.wrap (x3.1 + (shlV .u64 1 (IntKind.u64.wrap x3.2)))))))) < (IntKind.u64.wrap (p * 4294967296))) then some (.inl (IntKind.u64.wrap (x3.1 + (shlV .u64 1 (IntKind.u64.wrap x3.2))), IntKind.i64.wrap (x3.2 - 1))) else (bif ((IntKind.u64.wrap (y28.1 + (IntKind.u64.wrap (y20.1 * (IntKind.u64.wrap (x3.1 + (shlV .u64 1 (IntKind.u64.wrap x3.2)))))))) == (IntKind.u64.wrap (p * 4294967296))) then ((bif (y28.2 == 0) then some (IntKind.u64.wrap (x3.1 + (shlV .u64 1 (IntKind.u64.wrap x3.2)))) else some x3.1)).bind (fun y41 => some (.inl (y41, IntKind.i64.wrap (x3.2 - 1)))) else some (.inl (x3.1, IntKind.i64.wrap (x3.2 - 1)))))))) else some (.inr x3.1))
noncomputable def FQuorumref6_root3 (p : Int) : Option Int :=
  (loop (FQuorumref6_root3_L3 p) (0, 34)).bind (fun y4 => some (IntKind.u32.wrap y4))

-- quorum/quorumref6.words
noncomputable def FQuorumref6_words_L9 (x9 : Int × Int × (List Int)) : Option ((Int × Int × (List Int)) ⊕ (List Int)) :=
  (bif decide (x9.1 < 64) then (FQuorumref6_prime x9.2.1).bind (fun y24 => ((bif y24 then ((bif decide (x9.1 < 8) then (FQuorumref6_root2 x9.2.1).bind (fun y80 => chk (inb x9.1 8 && inb x9.1 x9.2.2.length) (some (x9.2.2.set x9.1.toNat y80))) else some x9.2.2)).bind (fun y46 => (FQuorumref6_root3 x9.2.1).bind (fun y61 => chk (inb x9.1 64 && inb x9.1 ((y46.drop 8).length)) (some (IntKind.i64.wrap (x9.1 + 1), y46.set (8 + x9.1.toNat) y61)))) else some (x9.1, x9.2.2))).bind (fun y32 => some (.inl (y32.1, IntKind.u64.wrap (x9.2.1 + 1), y32.2)))) else some (.inr x9.2.2))
noncomputable def FQuorumref6_words : Option (List Int) :=
  (loop FQuorumref6_words_L9 (0, 2, List.replicate 72 0)).bind (fun y10 => some y10)

-- quorum/quorumref6.Half
noncomputable def FQuorumref6_Half_L3 (n : Int) (x3 : Int) : Option (Int ⊕ Int) :=
  (bif decide ((IntKind.i64.wrap (2 * x3)) < n) then some (.inl (IntKind.i64.wrap (2 * x3))) else some (.inr x3))
noncomputable def FQuorumref6_Half (n : Int) : Option Int :=
  (loop (FQuorumref6_Half_L3 n) 1).bind (fun y4 => some y4)

-- quorum/quorumref6.LeafBytes
noncomputable def FQuorumref6_LeafBytes_L8 (chunk : List Int) (x8 : (List Int) × Int) : Option (((List Int) × Int) ⊕ (List Int)) :=
  (bif decide (x8.2 < ((chunk.length : Nat) : Int)) then chk (inb x8.2 chunk.length) (chk (okl ((x8.1 ++ [el chunk x8.2.toNat]).length) 1) (some (.inl (x8.1 ++ [el chunk x8.2.toNat], IntKind.i64.wrap (x8.2 + 1))))) else some (.inr x8.1))
noncomputable def FQuorumref6_LeafBytes (chunk : List Int) : Option (List Int) :=
  (loop (FQuorumref6_LeafBytes_L8 chunk) ([0], 0)).bind (fun y9 => some y9)

-- quorum/quorumref6.padded
noncomputable def FQuorumref6_padded_L46 (p_b : List Int) (x46 : (List Int) × Int) : Option (((List Int) × Int) ⊕ (List Int)) :=
  (bif decide (x46.2 ≥ 0) then chk (decide (0 ≤ (IntKind.u64.wrap (IntKind.i64.wrap (8 * x46.2))))) (chk (okl ((x46.1 ++ [IntKind.u8.wrap (shrV .u64 (IntKind.u64.wrap (8 * (IntKind.u64.wrap ((p_b.length : Nat) : Int)))) (IntKind.u64.wrap (IntKind.i64.wrap (8 * x46.2))))]).length) 1) (bind1 (IntKind.u8.wrap (shrV .u64 (IntKind.u64.wrap (8 * (IntKind.u64.wrap ((p_b.length : Nat) : Int)))) (IntKind.u64.wrap (IntKind.i64.wrap (8 * x46.2))))) (fun v76 => bind1 (x46.1 ++ [IntKind.u8.wrap (shrV .u64 (IntKind.u64.wrap (8 * (IntKind.u64.wrap ((p_b.length : Nat) : Int)))) (IntKind.u64.wrap (IntKind.i64.wrap (8 * x46.2))))]) (fun v79 => some (.inl (v79, IntKind.i64.wrap (x46.2 - 1))))))) else some (.inr x46.1))
noncomputable def FQuorumref6_padded_L31 (x31 : List Int) : Option ((List Int) ⊕ (List Int)) :=
  (bif ((Int.tmod ((x31.length : Nat) : Int) 64) != 56) then chk (okl ((x31 ++ [0]).length) 1) (some (.inl (x31 ++ [0]))) else some (.inr x31))
noncomputable def FQuorumref6_padded_L3 (p_b : List Int) (x3 : (List Int) × Int) : Option (((List Int) × Int) ⊕ (List Int)) :=
  (bif decide (x3.2 < ((p_b.length : Nat) : Int)) then chk (inb x3.2 p_b.length) (chk (okl ((x3.1 ++ [el p_b x3.2.toNat]).length) 1) (some (.inl (x3.1 ++ [el p_b x3.2.toNat], IntKind.i64.wrap (x3.2 + 1))))) else some (.inr x3.1))
noncomputable def FQuorumref6_padded (p_b : List Int) : Option (List Int) :=
  (loop (FQuorumref6_padded_L3 p_b) ([], 0)).bind (fun y4 => chk (okl ((y4 ++ [128]).length) 1) ((loop FQuorumref6_padded_L31 (y4 ++ [128])).bind (fun y32 => (loop (FQuorumref6_padded_L46 p_b) (y32, 7)).bind (fun y47 => some y47))))

-- quorum/quorumref6.word
noncomputable def FQuorumref6_word (p_b : List Int) (p_i : Int) : Option Int :=
  chk (inb p_i p_b.length) (chk (inb (IntKind.i64.wrap (p_i + 1)) p_b.length) (chk (inb (IntKind.i64.wrap (p_i + 2)) p_b.length) (chk (inb (IntKind.i64.wrap (p_i + 3)) p_b.length) (some (bOr .u32 (bOr .u32 (bOr .u32 (IntKind.u32.wrap ((IntKind.u32.wrap (el p_b p_i.toNat)) * 16777216)) (IntKind.u32.wrap ((IntKind.u32.wrap (el p_b (IntKind.i64.wrap (p_i + 1)).toNat)) * 65536))) (IntKind.u32.wrap ((IntKind.u32.wrap (el p_b (IntKind.i64.wrap (p_i + 2)).toNat)) * 256))) (IntKind.u32.wrap (el p_b (IntKind.i64.wrap (p_i + 3)).toNat)))))))

-- quorum/quorumref6.rot
noncomputable def FQuorumref6_rot (p_x : Int) (n : Int) : Option Int :=
  chk (decide (0 ≤ n)) (chk (decide (0 ≤ (IntKind.u64.wrap (32 - n)))) (some (bOr .u32 (shrV .u32 p_x n) (shlV .u32 p_x (IntKind.u64.wrap (32 - n))))))

-- (*quorum/quorumref6.Words).block
noncomputable def FQuorumref6_Words_block_L57 (p_w : List Int) (y35 : List Int) (x57 : Int × (List Int)) : Option ((Int × (List Int)) ⊕ (List Int)) :=
  (bif decide (x57.1 < 64) then chk (inb x57.1 64 && inb x57.1 ((p_w.drop 8).length)) (chk (inb x57.1 64 && inb x57.1 y35.length) ((FQuorumref6_rot (el x57.2 4) 6).bind (fun y146 => (FQuorumref6_rot (el x57.2 4) 11).bind (fun y154 => (FQuorumref6_rot (el x57.2 4) 25).bind (fun y162 => (FQuorumref6_rot (el x57.2 0) 2).bind (fun y173 => (FQuorumref6_rot (el x57.2 0) 13).bind (fun y181 => (FQuorumref6_rot (el x57.2 0) 22).bind (fun y189 => some (.inl (IntKind.i64.wrap (x57.1 + 1), [IntKind.u32.wrap ((IntKind.u32.wrap ((IntKind.u32.wrap ((IntKind.u32.wrap ((IntKind.u32.wrap ((el x57.2 7) + (bXor .u32 (bXor .u32 y146 y154) y162))) + (bXor .u32 (bAnd .u32 (el x57.2 4) (el x57.2 5)) (bAnd .u32 (bXor .u32 4294967295 (el x57.2 4)) (el x57.2 6))))) + (el (p_w.drop 8) x57.1.toNat))) + (el y35 x57.1.toNat))) + (IntKind.u32.wrap ((bXor .u32 (bXor .u32 y173 y181) y189) + (bXor .u32 (bXor .u32 (bAnd .u32 (el x57.2 0) (el x57.2 1)) (bAnd .u32 (el x57.2 0) (el x57.2 2))) (bAnd .u32 (el x57.2 1) (el x57.2 2)))))), el x57.2 0, el x57.2 1, el x57.2 2, IntKind.u32.wrap ((el x57.2 3) + (IntKind.u32.wrap ((IntKind.u32.wrap ((IntKind.u32.wrap ((IntKind.u32.wrap ((el x57.2 7) + (bXor .u32 (bXor .u32 y146 y154) y162))) + (bXor .u32 (bAnd .u32 (el x57.2 4) (el x57.2 5)) (bAnd .u32 (bXor .u32 4294967295 (el x57.2 4)) (el x57.2 6))))) + (el (p_w.drop 8) x57.1.toNat))) + (el y35 x57.1.toNat)))), el x57.2 4, el x57.2 5, el x57.2 6])))))))))) else some (.inr x57.2))
noncomputable def FQuorumref6_Words_block_L34 (x34 : Int × (List Int)) : Option ((Int × (List Int)) ⊕ (List Int)) :=
  (bif decide (x34.1 < 64) then chk (inb (IntKind.i64.wrap (x34.1 - 15)) 64 && inb (IntKind.i64.wrap (x34.1 - 15)) x34.2.length) (chk (inb (IntKind.i64.wrap (x34.1 - 2)) 64 && inb (IntKind.i64.wrap (x34.1 - 2)) x34.2.length) (chk (inb (IntKind.i64.wrap (x34.1 - 16)) 64 && inb (IntKind.i64.wrap (x34.1 - 16)) x34.2.length) (chk (inb (IntKind.i64.wrap (x34.1 - 7)) 64 && inb (IntKind.i64.wrap (x34.1 - 7)) x34.2.length) ((FQuorumref6_rot (el x34.2 (IntKind.i64.wrap (x34.1 - 15)).toNat) 7).bind (fun y218 => (FQuorumref6_rot (el x34.2 (IntKind.i64.wrap (x34.1 - 15)).toNat) 18).bind (fun y226 => (FQuorumref6_rot (el x34.2 (IntKind.i64.wrap (x34.1 - 2)).toNat) 17).bind (fun y234 => (FQuorumref6_rot (el x34.2 (IntKind.i64.wrap (x34.1 - 2)).toNat) 19).bind (fun y242 => chk (inb x34.1 64 && inb x34.1 x34.2.length) (bind1 (x34.2.set x34.1.toNat (IntKind.u32.wrap ((IntKind.u32.wrap ((IntKind.u32.wrap ((el x34.2 (IntKind.i64.wrap (x34.1 - 16)).toNat) + (bXor .u32 (bXor .u32 y218 y226) (Int.fdiv (el x34.2 (IntKind.i64.wrap (x34.1 - 15)).toNat) 8)))) + (el x34.2 (IntKind.i64.wrap (x34.1 - 7)).toNat))) + (bXor .u32 (bXor .u32 y234 y242) (Int.fdiv (el x34.2 (IntKind.i64.wrap (x34.1 - 2)).toNat) 1024))))) (fun v256 => some (.inl (IntKind.i64.wrap (x34.1 + 1), v256)))))))))))) else some (.inr x34.2))
noncomputable def FQuorumref6_Words_block_L19 (p_b : List Int) (x19 : Int × (List Int)) : Option ((Int × (List Int)) ⊕ (List Int)) :=
  (bif decide (x19.1 < 16) then (FQuorumref6_word p_b (IntKind.i64.wrap (4 * x19.1))).bind (fun y262 => chk (inb x19.1 64 && inb x19.1 x19.2.length) (some (.inl (IntKind.i64.wrap (x19.1 + 1), x19.2.set x19.1.toNat y262)))) else some (.inr x19.2))
noncomputable def FQuorumref6_Words_block (p_w : List Int) (p_h : List Int) (p_b : List Int) : Option (List Int) :=
  (loop (FQuorumref6_Words_block_L19 p_b) (0, List.replicate 64 0)).bind (fun y20 => (loop FQuorumref6_Words_block_L34 (16, y20)).bind (fun y35 => (loop (FQuorumref6_Words_block_L57 p_w y35) (0, p_h)).bind (fun y58 => some ([IntKind.u32.wrap ((el p_h 0) + (el y58 0)), IntKind.u32.wrap ((el p_h 1) + (el y58 1)), IntKind.u32.wrap ((el p_h 2) + (el y58 2)), IntKind.u32.wrap ((el p_h 3) + (el y58 3)), IntKind.u32.wrap ((el p_h 4) + (el y58 4)), IntKind.u32.wrap ((el p_h 5) + (el y58 5)), IntKind.u32.wrap ((el p_h 6) + (el y58 6)), IntKind.u32.wrap ((el p_h 7) + (el y58 7))]))))

-- (*quorum/quorumref6.Words).sum
noncomputable def FQuorumref6_Words_sum_L51 (y31 : List Int) (x51 : Int × (List Int)) : Option ((Int × (List Int)) ⊕ (List Int)) :=
  (bif decide (x51.1 < 32) then chk (inb (IntKind.i64.wrap (Int.tdiv x51.1 4)) 8 && inb (IntKind.i64.wrap (Int.tdiv x51.1 4)) y31.length) (chk (decide (0 ≤ (IntKind.u64.wrap (IntKind.i64.wrap (24 - (IntKind.i64.wrap (8 * (Int.tmod x51.1 4)))))))) (chk (inb x51.1 32 && inb x51.1 x51.2.length) (bind1 (x51.2.set x51.1.toNat (IntKind.u8.wrap (shrV .u32 (el y31 (IntKind.i64.wrap (Int.tdiv x51.1 4)).toNat) (IntKind.u64.wrap (IntKind.i64.wrap (24 - (IntKind.i64.wrap (8 * (Int.tmod x51.1 4))))))))) (fun v84 => some (.inl (IntKind.i64.wrap (x51.1 + 1), v84)))))) else some (.inr x51.2))
noncomputable def FQuorumref6_Words_sum_L30 (p_w : List Int) (y7 : List Int) (x30 : Int × (List Int)) : Option ((Int × (List Int)) ⊕ (List Int)) :=
  (bif decide ((IntKind.i64.wrap (x30.1 + 64)) ≤ ((y7.length : Nat) : Int)) then chk (Nat.ble 8 x30.2.length) (chk (inc x30.1 (IntKind.i64.wrap (x30.1 + 64)) y7.length) ((FQuorumref6_Words_block p_w x30.2 ((y7.drop x30.1.toNat).take ((IntKind.i64.wrap (x30.1 + 64)).toNat - x30.1.toNat))).bind (fun y97 => chk (x30.2.length == (fixl y97 8 0).length) (some (.inl (IntKind.i64.wrap (x30.1 + 64), fixl y97 8 0)))))) else some (.inr x30.2))
noncomputable def FQuorumref6_Words_sum (p_w : List Int) (p_b : List Int) : Option (List Int) :=
  (FQuorumref6_padded p_b).bind (fun y7 => chk (Nat.ble 8 p_w.length) ((loop (FQuorumref6_Words_sum_L30 p_w y7) (0, fixl p_w 8 0)).bind (fun y31 => (loop (FQuorumref6_Words_sum_L51 y31) (0, List.replicate 32 0)).bind (fun y52 => chk (Nat.ble 32 y52.length) (some y52)))))

-- quorum/quorumref6.RowBytes
noncomputable def FQuorumref6_RowBytes_L35 (p_b : List Int) (x35 : (List Int) × Int) : Option (((List Int) × Int) ⊕ (List Int)) :=
  (bif decide (x35.2 < 32) then chk (inb x35.2 32 && inb x35.2 ((fixl p_b 32 0).length)) (chk (okl ((x35.1 ++ [el (fixl p_b 32 0) x35.2.toNat]).length) 1) (some (.inl (x35.1 ++ [el (fixl p_b 32 0) x35.2.toNat], IntKind.i64.wrap (x35.2 + 1))))) else some (.inr x35.1))
noncomputable def FQuorumref6_RowBytes_L20 (a : List Int) (x20 : (List Int) × Int) : Option (((List Int) × Int) ⊕ (List Int)) :=
  (bif decide (x20.2 < 32) then chk (inb x20.2 32 && inb x20.2 ((fixl a 32 0).length)) (chk (okl ((x20.1 ++ [el (fixl a 32 0) x20.2.toNat]).length) 1) (some (.inl (x20.1 ++ [el (fixl a 32 0) x20.2.toNat], IntKind.i64.wrap (x20.2 + 1))))) else some (.inr x20.1))
noncomputable def FQuorumref6_RowBytes (a : List Int) (p_b : List Int) : Option (List Int) :=
  (loop (FQuorumref6_RowBytes_L20 a) ([1], 0)).bind (fun y21 => (loop (FQuorumref6_RowBytes_L35 p_b) (y21, 0)).bind (fun y36 => some y36))

-- (*quorum/quorumref6.Words).row
noncomputable def FQuorumref6_Words_row_S (rec_ : ((List Int) × (List Int) × Int × Int) → Option (List Int)) (p_w : List Int) (data : List Int) (p_i : Int) (n : Int) : Option (List Int) :=
  (bif (n == 1) then (FQuorumref6_piece data p_i).bind (fun y8 => (FQuorumref6_LeafBytes y8).bind (fun y16 => (FQuorumref6_Words_sum p_w y16).bind (fun y24 => some y24))) else (FQuorumref6_Half n).bind (fun y36 => (rec_ (p_w, data, p_i, y36)).bind (fun y44 => (rec_ (p_w, data, IntKind.i64.wrap (p_i + y36), IntKind.i64.wrap (n - y36))).bind (fun y60 => (FQuorumref6_RowBytes y44 y60).bind (fun y76 => (FQuorumref6_Words_sum p_w y76).bind (fun y84 => some y84))))))
noncomputable def FQuorumref6_Words_row_U (rec_ : ((List Int) × (List Int) × Int × Int) → Option (List Int)) (a_ : (List Int) × (List Int) × Int × Int) : Option (List Int) := FQuorumref6_Words_row_S rec_ a_.1 a_.2.1 a_.2.2.1 a_.2.2.2
noncomputable def FQuorumref6_Words_row (p_w : List Int) (data : List Int) (p_i : Int) (n : Int) : Option (List Int) := itR FQuorumref6_Words_row_U 1000 (p_w, data, p_i, n)

-- (*quorum/quorumref6.Words).path
noncomputable def FQuorumref6_Words_path_S (rec_ : ((List Int) × (List Int) × Int × Int × Int) → Option (List (List Int))) (p_w : List Int) (data : List Int) (p_at : Int) (p_i : Int) (n : Int) : Option (List (List Int)) :=
  (bif (n == 1) then some ([]) else (FQuorumref6_Half n).bind (fun y5 => (bif decide (p_at < (IntKind.i64.wrap (p_i + y5))) then (rec_ (p_w, data, p_at, p_i, y5)).bind (fun y15 => (FQuorumref6_Words_row p_w data (IntKind.i64.wrap (p_i + y5)) (IntKind.i64.wrap (n - y5))).bind (fun y23 => chk (okl ((y15 ++ [[el y23 0, el y23 1, el y23 2, el y23 3, el y23 4, el y23 5, el y23 6, el y23 7, el y23 8, el y23 9, el y23 10, el y23 11, el y23 12, el y23 13, el y23 14, el y23 15, el y23 16, el y23 17, el y23 18, el y23 19, el y23 20, el y23 21, el y23 22, el y23 23, el y23 24, el y23 25, el y23 26, el y23 27, el y23 28, el y23 29, el y23 30, el y23 31]]).length) 32) (bind1 (y15 ++ [[el y23 0, el y23 1, el y23 2, el y23 3, el y23 4, el y23 5, el y23 6, el y23 7, el y23 8, el y23 9, el y23 10, el y23 11, el y23 12, el y23 13, el y23 14, el y23 15, el y23 16, el y23 17, el y23 18, el y23 19, el y23 20, el y23 21, el y23 22, el y23 23, el y23 24, el y23 25, el y23 26, el y23 27, el y23 28, el y23 29, el y23 30, el y23 31]]) (fun v44 => some v44)))) else (rec_ (p_w, data, p_at, IntKind.i64.wrap (p_i + y5), IntKind.i64.wrap (n - y5))).bind (fun y48 => (FQuorumref6_Words_row p_w data p_i y5).bind (fun y56 => chk (okl ((y48 ++ [[el y56 0, el y56 1, el y56 2, el y56 3, el y56 4, el y56 5, el y56 6, el y56 7, el y56 8, el y56 9, el y56 10, el y56 11, el y56 12, el y56 13, el y56 14, el y56 15, el y56 16, el y56 17, el y56 18, el y56 19, el y56 20, el y56 21, el y56 22, el y56 23, el y56 24, el y56 25, el y56 26, el y56 27, el y56 28, el y56 29, el y56 30, el y56 31]]).length) 32) (bind1 (y48 ++ [[el y56 0, el y56 1, el y56 2, el y56 3, el y56 4, el y56 5, el y56 6, el y56 7, el y56 8, el y56 9, el y56 10, el y56 11, el y56 12, el y56 13, el y56 14, el y56 15, el y56 16, el y56 17, el y56 18, el y56 19, el y56 20, el y56 21, el y56 22, el y56 23, el y56 24, el y56 25, el y56 26, el y56 27, el y56 28, el y56 29, el y56 30, el y56 31]]) (fun v77 => some v77)))))))
noncomputable def FQuorumref6_Words_path_U (rec_ : ((List Int) × (List Int) × Int × Int × Int) → Option (List (List Int))) (a_ : (List Int) × (List Int) × Int × Int × Int) : Option (List (List Int)) := FQuorumref6_Words_path_S rec_ a_.1 a_.2.1 a_.2.2.1 a_.2.2.2.1 a_.2.2.2.2
noncomputable def FQuorumref6_Words_path (p_w : List Int) (data : List Int) (p_at : Int) (p_i : Int) (n : Int) : Option (List (List Int)) := itR FQuorumref6_Words_path_U 1000 (p_w, data, p_at, p_i, n)

-- quorum/quorumref6.Path
noncomputable def FQuorumref6_Path (data : List Int) (p_i : Int) : Option ((List (List Int)) × (List (ByteArray × Int)) × Int) :=
  (FQuorumref6_Chunks ((data.length : Nat) : Int)).bind (fun y6 => (bif decide (p_i < 0) then (FQuorumref0_New (⟨#[115, 110, 97, 112]⟩) p_i 123).bind (fun y16 => some ([], y16, 123)) else (bif decide (p_i ≥ y6) then (FQuorumref0_New (⟨#[115, 110, 97, 112]⟩) p_i 123).bind (fun y31 => some ([], y31, 123)) else (FQuorumref6_words).bind (fun y44 => (FQuorumref6_Words_path y44 data p_i 0 y6).bind (fun y52 => (FQuorumref0_None).bind (fun y60 => some (y52, [], 0)))))))

-- quorum/quorumlaw6.sameHashes
noncomputable def FQuorumlaw6_sameHashes_L6 (a : List (List Int)) (p_b : List (List Int)) (x6 : Int) : Option (Int ⊕ (Unit ⊕ Bool)) :=
  (bif decide (x6 < ((a.length : Nat) : Int)) then chk (inb x6 a.length) (chk (inb x6 p_b.length) ((bif !(eqA 32 0 (el a x6.toNat) (el p_b x6.toNat)) then some (.inr (.inr false)) else some (.inl (IntKind.i64.wrap (x6 + 1)))))) else some (.inr (.inl ())))
noncomputable def FQuorumlaw6_sameHashes (a : List (List Int)) (p_b : List (List Int)) : Option Bool :=
  (bif (((a.length : Nat) : Int) != ((p_b.length : Nat) : Int)) then some false else (loop (FQuorumlaw6_sameHashes_L6 a p_b) 0).bind (Sum.elim (fun z11 => some true) (fun r20 => some r20)))

-- quorum/snap.Root
noncomputable def FSnap_Root (data : List Int) : Option (List Int) :=
  (FSnap_Chunks ((data.length : Nat) : Int)).bind (fun y6 => (FSnap_row data 0 y6).bind (fun y14 => some y14))

-- quorum/quorumref6.Root
noncomputable def FQuorumref6_Root (data : List Int) : Option (List Int) :=
  (FQuorumref6_words).bind (fun y6 => (FQuorumref6_Chunks ((data.length : Nat) : Int)).bind (fun y13 => (FQuorumref6_Words_row y6 data 0 y13).bind (fun y21 => some y21)))

-- quorum/quorumlaw6.kept
noncomputable def FQuorumlaw6_kept_L16 (l : List Int) (p_b : List Int) (x16 : Int) : Option (Int ⊕ (Unit ⊕ Bool)) :=
  (bif decide (x16 < 72) then chk (inb (IntKind.i64.wrap (((p_b.length : Nat) : Int) + x16)) ((l.take (IntKind.i64.wrap (((p_b.length : Nat) : Int) + 72)).toNat).length)) ((bif ((el (l.take (IntKind.i64.wrap (((p_b.length : Nat) : Int) + 72)).toNat) (IntKind.i64.wrap (((p_b.length : Nat) : Int) + x16)).toNat) != (IntKind.u8.wrap (IntKind.i64.wrap (160 + x16)))) then some (.inr (.inr false)) else some (.inl (IntKind.i64.wrap (x16 + 1))))) else some (.inr (.inl ())))
noncomputable def FQuorumlaw6_kept (l : List Int) (p_n_l : Nat) (p_b : List Int) : Option Bool :=
  (FQuorumlaw6_sameBytes (l.take p_n_l) p_b).bind (fun y1 => (bif !y1 then some false else chk (inc 0 (IntKind.i64.wrap (((p_b.length : Nat) : Int) + 72)) l.length) ((loop (FQuorumlaw6_kept_L16 l p_b) 0).bind (Sum.elim (fun z21 => some true) (fun r30 => some r30)))))

-- quorum/quorumlaw6.SnapTrees
noncomputable def FQuorumlaw6_SnapTrees_L116 (x116 : (List (List Int)) × Int) : Option (((List (List Int)) × Int) ⊕ Unit) :=
  (bif decide (x116.2 < ((x116.1.length : Nat) : Int)) then chk (inb x116.2 x116.1.length) (some (.inl (x116.1.set x116.2.toNat [9, 0, 0, 0, 0, 0, 0, 0, 0, 0, 0, 0, 0, 0, 0, 0, 0, 0, 0, 0, 0, 0, 0, 0, 0, 0, 0, 0, 0, 0, 0, 0], IntKind.i64.wrap (x116.2 + 1)))) else some (.inr ()))
noncomputable def FQuorumlaw6_SnapTrees_L77 (x77 : (List Int) × Int) : Option (((List Int) × Int) ⊕ Unit) :=
  (bif decide (x77.2 < ((x77.1.length : Nat) : Int)) then chk (inb x77.2 x77.1.length) (chk (inb x77.2 x77.1.length) (some (.inl (x77.1.set x77.2.toNat (bXor .u8 (el x77.1 x77.2.toNat) 255), IntKind.i64.wrap (x77.2 + 1))))) else some (.inr ()))
noncomputable def FQuorumlaw6_SnapTrees (data : List Int) (p_i : Int) (p_size : Int) : Option Bool :=
  (bif decide (((data.length : Nat) : Int) > 48000) then some true else (FQuorumlaw6_twin data).bind (fun y4 => (FSnap_Chunks p_size).bind (fun y12 => (FQuorumref6_Chunks p_size).bind (fun y20 => (bif (y12 != y20) then some false else (FSnap_Chunks ((data.length : Nat) : Int)).bind (fun y31 => (FQuorumref6_Chunks ((data.length : Nat) : Int)).bind (fun y39 => (bif (y31 != y39) then some false else ((FSnap_Chunk y4.1 y4.2 p_i).bind (Sum.elim (fun z405 => (FQuorumref6_Chunk data p_i).bind (fun y412 => (FQuorumlaw0_Is (⟨#[115, 110, 97, 112]⟩) p_i 123 y412.2.1 y412.2.2).bind (fun y428 => (bif !y428 then some (.inr false) else (FQuorumlaw6_sameBytes ([]) y412.1).bind (fun y439 => (bif !y439 then some (.inr false) else some (.inl ([], y412.1, y412.2.1, y412.2.2)))))))) (fun z451 => (FQuorumref6_Chunk data p_i).bind (fun y458 => (FQuorumlaw0_Is2 y458.2.1 y458.2.2).bind (fun y474 => (bif !y474 then some (.inr false) else (FQuorumlaw6_sameBytes z451 y458.1).bind (fun y485 => (bif !y485 then some (.inr false) else some (.inl (z451, y458.1, y458.2.1, y458.2.2)))))))))).bind (Sum.elim (fun z54 => ((FSnap_Chunk y4.1 y4.2 p_i).bind (Sum.elim (fun z386 => some ([])) (fun z394 => some z394))).bind (fun y63 => (loop FQuorumlaw6_SnapTrees_L77 (z54.1, 0)).bind (fun y78 => (FQuorumlaw6_sameBytes y63 z54.2.1).bind (fun y90 => (bif !y90 then some false else ((FSnap_Path (y4.1.take y4.2) p_i).bind (Sum.elim (fun z183 => (FSnap_Path (y4.1.take y4.2) p_i).bind (Sum.elim (fun z193 => (FQuorumref6_Path data p_i).bind (fun y200 => (FQuorumlaw0_Is (⟨#[115, 110, 97, 112]⟩) p_i 123 y200.2.1 y200.2.2).bind (fun y211 => (bif !y211 then some (.inr false) else (FQuorumlaw6_sameHashes ([]) y200.1).bind (fun y222 => (bif !y222 then some (.inr false) else some (.inl ([], [], y200.1)))))))) (fun z235 => (FQuorumref6_Path data p_i).bind (fun y242 => (FQuorumlaw0_Is (⟨#[115, 110, 97, 112]⟩) p_i 123 y242.2.1 y242.2.2).bind (fun y253 => (bif !y253 then some (.inr false) else (FQuorumlaw6_sameHashes ([]) y242.1).bind (fun y264 => (bif !y264 then some (.inr false) else some (.inl ([], z235, y242.1)))))))))) (fun z276 => (FSnap_Path (y4.1.take y4.2) p_i).bind (Sum.elim (fun z286 => (FQuorumref6_Path data p_i).bind (fun y293 => (FQuorumlaw0_Is2 y293.2.1 y293.2.2).bind (fun y304 => (bif !y304 then some (.inr false) else (FQuorumlaw6_sameHashes z276 y293.1).bind (fun y315 => (bif !y315 then some (.inr false) else some (.inl (z276, [], y293.1)))))))) (fun z327 => (FQuorumref6_Path data p_i).bind (fun y334 => (FQuorumlaw0_Is2 y334.2.1 y334.2.2).bind (fun y345 => (bif !y345 then some (.inr false) else (FQuorumlaw6_sameHashes z276 y334.1).bind (fun y356 => (bif !y356 then some (.inr false) else some (.inl (z276, z327, y334.1)))))))))))).bind (Sum.elim (fun z105 => (loop FQuorumlaw6_SnapTrees_L116 (z105.1, 0)).bind (fun y117 => (FQuorumlaw6_sameHashes z105.2.1 z105.2.2).bind (fun y129 => (bif y129 then (FSnap_Root (y4.1.take y4.2)).bind (fun y139 => (FQuorumref6_Root data).bind (fun y147 => (bif eqA 32 0 y139 y147 then (FQuorumlaw6_kept y4.1 y4.2 data).bind (fun y157 => some y157) else some false))) else some false)))) (fun r179 => some r179))))))) (fun r401 => some r401))))))))))
end Go.Proofs.YtlfaalbkhfjpkaaDoor
