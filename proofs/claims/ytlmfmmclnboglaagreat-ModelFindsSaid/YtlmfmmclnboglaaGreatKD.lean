/-
  What a law of this seat is handed, taken apart: the cells of each struct, one by one (written by wip/tools/mkdec.py).
-/
import Derived.Test.YtlmfmmclnboglaaGreatKB
import Derived.Test.YtlmfmmclnboglaaGreatProg
import Derived.ProofKit
namespace Go.Proofs.YtlmfmmclnboglaaGreat
open Go Go.RowKit Go.Proofs.YtlmfmmclnboglaaGreat.Abs
set_option linter.all false
set_option maxRecDepth 100000
set_option maxHeartbeats 0

theorem lenS {α : Type _} {l : List α} {n : Nat} (h : l.length = n + 1) : ∃ a r, l = a :: r ∧ r.length = n := by
  cases l with
  | nil => simp at h
  | cons a r => exact ⟨a, r, rfl, by simpa using h⟩
def okTypes : List TypeId := [26, 9, 22, 69, 67, 3, 23, 42, 34, 92, 84, 159, 90, 88, 85, 86, 35, 95, 93, 36, 97, 37, 38, 79, 76, 103, 77, 181, 175, 179, 176, 177, 4, 39, 105, 40, 57, 55, 54, 24, 49]
theorem ok_types : okSet Tryz.prog okTypes = true := by kernel_rfl
theorem dec_api_Model {cs : List AV} (h : Of Tryz.prog 26 cs) : ∃ (zName : List UInt8) (zParams : List (List AV)) (zSites : List (List AV)) (zLinks : List (List AV)), cs = [.str zName, .lst 3 zParams, .lst 13 zSites, .lst 3 zLinks] ∧ zName.length ≤ 140737488351232 ∧ (zParams.length * Tryz.prog.bytesOf 69 ≤ 140737488351232 ∧ ∀ r ∈ zParams, Of Tryz.prog 69 r) ∧ (zSites.length * Tryz.prog.bytesOf 42 ≤ 140737488351232 ∧ ∀ r ∈ zSites, Of Tryz.prog 42 r) ∧ (zLinks.length * Tryz.prog.bytesOf 49 ≤ 140737488351232 ∧ ∀ r ∈ zLinks, Of Tryz.prog 49 r) := by
  obtain ⟨hl, hf⟩ := h.toStruct Tryz.underlying26
  rw [show Tryz.prog.cellsOf 26 = 4 from by kernel_rfl] at hl
  obtain ⟨c0, r0, rfl, hl0⟩ := lenS hl
  obtain ⟨c1, r1, rfl, hl1⟩ := lenS hl0
  obtain ⟨c2, r2, rfl, hl2⟩ := lenS hl1
  obtain ⟨c3, r3, rfl, hl3⟩ := lenS hl2
  obtain rfl := List.eq_nil_of_length_eq_zero hl3
  have f0 : Of Tryz.prog 9 ((([c0, c1, c2, c3] : List AV).drop 0).take (Tryz.prog.cellsOf 9)) := hf 0 _ rfl
  rw [show Tryz.prog.cellsOf 9 = 1 from by kernel_rfl] at f0
  replace f0 : Of Tryz.prog 9 [c0] := f0
  obtain ⟨zName, q0, b0⟩ := f0.toStr Tryz.underlying9
  have e0 := (List.cons.inj q0).1
  have f1 : Of Tryz.prog 22 ((([c0, c1, c2, c3] : List AV).drop 1).take (Tryz.prog.cellsOf 22)) := hf 1 _ rfl
  rw [show Tryz.prog.cellsOf 22 = 1 from by kernel_rfl] at f1
  replace f1 : Of Tryz.prog 22 [c1] := f1
  obtain ⟨zParams, q1, b1⟩ := f1.toSlice Tryz.underlying22
  rw [show Tryz.prog.cellsOf 69 = 3 from by kernel_rfl] at q1
  have e1 := (List.cons.inj q1).1
  have f2 : Of Tryz.prog 23 ((([c0, c1, c2, c3] : List AV).drop 2).take (Tryz.prog.cellsOf 23)) := hf 2 _ rfl
  rw [show Tryz.prog.cellsOf 23 = 1 from by kernel_rfl] at f2
  replace f2 : Of Tryz.prog 23 [c2] := f2
  obtain ⟨zSites, q2, b2⟩ := f2.toSlice Tryz.underlying23
  rw [show Tryz.prog.cellsOf 42 = 13 from by kernel_rfl] at q2
  have e2 := (List.cons.inj q2).1
  have f3 : Of Tryz.prog 24 ((([c0, c1, c2, c3] : List AV).drop 3).take (Tryz.prog.cellsOf 24)) := hf 3 _ rfl
  rw [show Tryz.prog.cellsOf 24 = 1 from by kernel_rfl] at f3
  replace f3 : Of Tryz.prog 24 [c3] := f3
  obtain ⟨zLinks, q3, b3⟩ := f3.toSlice Tryz.underlying24
  rw [show Tryz.prog.cellsOf 49 = 3 from by kernel_rfl] at q3
  have e3 := (List.cons.inj q3).1
  subst e0 e1 e2 e3
  exact ⟨zName, zParams, zSites, zLinks, rfl, b0, b1, b2, b3⟩
theorem dec_api_Value {cs : List AV} (h : Of Tryz.prog 69 cs) : ∃ (zName : List UInt8) (zType : Int) (zN : Int), cs = [.str zName, .int .i64 zType, .int .i64 zN] ∧ zName.length ≤ 140737488351232 ∧ (-9223372036854775808 ≤ zType ∧ zType ≤ 9223372036854775807) ∧ (-9223372036854775808 ≤ zN ∧ zN ≤ 9223372036854775807) := by
  obtain ⟨hl, hf⟩ := h.toStruct Tryz.underlying69
  rw [show Tryz.prog.cellsOf 69 = 3 from by kernel_rfl] at hl
  obtain ⟨c0, r0, rfl, hl0⟩ := lenS hl
  obtain ⟨c1, r1, rfl, hl1⟩ := lenS hl0
  obtain ⟨c2, r2, rfl, hl2⟩ := lenS hl1
  obtain rfl := List.eq_nil_of_length_eq_zero hl2
  have f0 : Of Tryz.prog 9 ((([c0, c1, c2] : List AV).drop 0).take (Tryz.prog.cellsOf 9)) := hf 0 _ rfl
  rw [show Tryz.prog.cellsOf 9 = 1 from by kernel_rfl] at f0
  replace f0 : Of Tryz.prog 9 [c0] := f0
  obtain ⟨zName, q0, b0⟩ := f0.toStr Tryz.underlying9
  have e0 := (List.cons.inj q0).1
  have f1 : Of Tryz.prog 67 ((([c0, c1, c2] : List AV).drop 1).take (Tryz.prog.cellsOf 67)) := hf 1 _ rfl
  rw [show Tryz.prog.cellsOf 67 = 1 from by kernel_rfl] at f1
  replace f1 : Of Tryz.prog 67 [c1] := f1
  obtain ⟨zType, q1, b1⟩ := f1.toI64 Tryz.underlying67
  have e1 := (List.cons.inj q1).1
  have f2 : Of Tryz.prog 3 ((([c0, c1, c2] : List AV).drop 2).take (Tryz.prog.cellsOf 3)) := hf 2 _ rfl
  rw [show Tryz.prog.cellsOf 3 = 1 from by kernel_rfl] at f2
  replace f2 : Of Tryz.prog 3 [c2] := f2
  obtain ⟨zN, q2, b2⟩ := f2.toI64 Tryz.underlying3
  have e2 := (List.cons.inj q2).1
  subst e0 e1 e2
  exact ⟨zName, zType, zN, rfl, b0, b1, b2⟩
theorem dec_api_SiteDecl {cs : List AV} (h : Of Tryz.prog 42 cs) : ∃ (zName : List UInt8) (zVars : List (List AV)) (zResources : List (List AV)) (zStores : List (List AV)) (zBelts : List (List AV)) (zQueues : List (List AV)) (zStreams : List (List AV)) (zTallies : List (List AV)) (zLevels : List (List AV)) (zCounts : List (List AV)) (zRoutines : List (List AV)) (zStarts : List (List AV)) (zLaws : List (List AV)), cs = [.str zName, .lst 3 zVars, .lst 17 zResources, .lst 3 zStores, .lst 3 zBelts, .lst 1 zQueues, .lst 1 zStreams, .lst 1 zTallies, .lst 1 zLevels, .lst 1 zCounts, .lst 4 zRoutines, .lst 5 zStarts, .lst 3 zLaws] ∧ zName.length ≤ 140737488351232 ∧ (zVars.length * Tryz.prog.bytesOf 69 ≤ 140737488351232 ∧ ∀ r ∈ zVars, Of Tryz.prog 69 r) ∧ (zResources.length * Tryz.prog.bytesOf 92 ≤ 140737488351232 ∧ ∀ r ∈ zResources, Of Tryz.prog 92 r) ∧ (zStores.length * Tryz.prog.bytesOf 95 ≤ 140737488351232 ∧ ∀ r ∈ zStores, Of Tryz.prog 95 r) ∧ (zBelts.length * Tryz.prog.bytesOf 97 ≤ 140737488351232 ∧ ∀ r ∈ zBelts, Of Tryz.prog 97 r) ∧ (zQueues.length * Tryz.prog.bytesOf 9 ≤ 140737488351232 ∧ ∀ r ∈ zQueues, Of Tryz.prog 9 r) ∧ (zStreams.length * Tryz.prog.bytesOf 9 ≤ 140737488351232 ∧ ∀ r ∈ zStreams, Of Tryz.prog 9 r) ∧ (zTallies.length * Tryz.prog.bytesOf 9 ≤ 140737488351232 ∧ ∀ r ∈ zTallies, Of Tryz.prog 9 r) ∧ (zLevels.length * Tryz.prog.bytesOf 9 ≤ 140737488351232 ∧ ∀ r ∈ zLevels, Of Tryz.prog 9 r) ∧ (zCounts.length * Tryz.prog.bytesOf 9 ≤ 140737488351232 ∧ ∀ r ∈ zCounts, Of Tryz.prog 9 r) ∧ (zRoutines.length * Tryz.prog.bytesOf 79 ≤ 140737488351232 ∧ ∀ r ∈ zRoutines, Of Tryz.prog 79 r) ∧ (zStarts.length * Tryz.prog.bytesOf 105 ≤ 140737488351232 ∧ ∀ r ∈ zStarts, Of Tryz.prog 105 r) ∧ (zLaws.length * Tryz.prog.bytesOf 57 ≤ 140737488351232 ∧ ∀ r ∈ zLaws, Of Tryz.prog 57 r) := by
  obtain ⟨hl, hf⟩ := h.toStruct Tryz.underlying42
  rw [show Tryz.prog.cellsOf 42 = 13 from by kernel_rfl] at hl
  obtain ⟨c0, r0, rfl, hl0⟩ := lenS hl
  obtain ⟨c1, r1, rfl, hl1⟩ := lenS hl0
  obtain ⟨c2, r2, rfl, hl2⟩ := lenS hl1
  obtain ⟨c3, r3, rfl, hl3⟩ := lenS hl2
  obtain ⟨c4, r4, rfl, hl4⟩ := lenS hl3
  obtain ⟨c5, r5, rfl, hl5⟩ := lenS hl4
  obtain ⟨c6, r6, rfl, hl6⟩ := lenS hl5
  obtain ⟨c7, r7, rfl, hl7⟩ := lenS hl6
  obtain ⟨c8, r8, rfl, hl8⟩ := lenS hl7
  obtain ⟨c9, r9, rfl, hl9⟩ := lenS hl8
  obtain ⟨c10, r10, rfl, hl10⟩ := lenS hl9
  obtain ⟨c11, r11, rfl, hl11⟩ := lenS hl10
  obtain ⟨c12, r12, rfl, hl12⟩ := lenS hl11
  obtain rfl := List.eq_nil_of_length_eq_zero hl12
  have f0 : Of Tryz.prog 9 ((([c0, c1, c2, c3, c4, c5, c6, c7, c8, c9, c10, c11, c12] : List AV).drop 0).take (Tryz.prog.cellsOf 9)) := hf 0 _ rfl
  rw [show Tryz.prog.cellsOf 9 = 1 from by kernel_rfl] at f0
  replace f0 : Of Tryz.prog 9 [c0] := f0
  obtain ⟨zName, q0, b0⟩ := f0.toStr Tryz.underlying9
  have e0 := (List.cons.inj q0).1
  have f1 : Of Tryz.prog 22 ((([c0, c1, c2, c3, c4, c5, c6, c7, c8, c9, c10, c11, c12] : List AV).drop 1).take (Tryz.prog.cellsOf 22)) := hf 1 _ rfl
  rw [show Tryz.prog.cellsOf 22 = 1 from by kernel_rfl] at f1
  replace f1 : Of Tryz.prog 22 [c1] := f1
  obtain ⟨zVars, q1, b1⟩ := f1.toSlice Tryz.underlying22
  rw [show Tryz.prog.cellsOf 69 = 3 from by kernel_rfl] at q1
  have e1 := (List.cons.inj q1).1
  have f2 : Of Tryz.prog 34 ((([c0, c1, c2, c3, c4, c5, c6, c7, c8, c9, c10, c11, c12] : List AV).drop 2).take (Tryz.prog.cellsOf 34)) := hf 2 _ rfl
  rw [show Tryz.prog.cellsOf 34 = 1 from by kernel_rfl] at f2
  replace f2 : Of Tryz.prog 34 [c2] := f2
  obtain ⟨zResources, q2, b2⟩ := f2.toSlice Tryz.underlying34
  rw [show Tryz.prog.cellsOf 92 = 17 from by kernel_rfl] at q2
  have e2 := (List.cons.inj q2).1
  have f3 : Of Tryz.prog 35 ((([c0, c1, c2, c3, c4, c5, c6, c7, c8, c9, c10, c11, c12] : List AV).drop 3).take (Tryz.prog.cellsOf 35)) := hf 3 _ rfl
  rw [show Tryz.prog.cellsOf 35 = 1 from by kernel_rfl] at f3
  replace f3 : Of Tryz.prog 35 [c3] := f3
  obtain ⟨zStores, q3, b3⟩ := f3.toSlice Tryz.underlying35
  rw [show Tryz.prog.cellsOf 95 = 3 from by kernel_rfl] at q3
  have e3 := (List.cons.inj q3).1
  have f4 : Of Tryz.prog 36 ((([c0, c1, c2, c3, c4, c5, c6, c7, c8, c9, c10, c11, c12] : List AV).drop 4).take (Tryz.prog.cellsOf 36)) := hf 4 _ rfl
  rw [show Tryz.prog.cellsOf 36 = 1 from by kernel_rfl] at f4
  replace f4 : Of Tryz.prog 36 [c4] := f4
  obtain ⟨zBelts, q4, b4⟩ := f4.toSlice Tryz.underlying36
  rw [show Tryz.prog.cellsOf 97 = 3 from by kernel_rfl] at q4
  have e4 := (List.cons.inj q4).1
  have f5 : Of Tryz.prog 37 ((([c0, c1, c2, c3, c4, c5, c6, c7, c8, c9, c10, c11, c12] : List AV).drop 5).take (Tryz.prog.cellsOf 37)) := hf 5 _ rfl
  rw [show Tryz.prog.cellsOf 37 = 1 from by kernel_rfl] at f5
  replace f5 : Of Tryz.prog 37 [c5] := f5
  obtain ⟨zQueues, q5, b5⟩ := f5.toSlice Tryz.underlying37
  rw [show Tryz.prog.cellsOf 9 = 1 from by kernel_rfl] at q5
  have e5 := (List.cons.inj q5).1
  have f6 : Of Tryz.prog 37 ((([c0, c1, c2, c3, c4, c5, c6, c7, c8, c9, c10, c11, c12] : List AV).drop 6).take (Tryz.prog.cellsOf 37)) := hf 6 _ rfl
  rw [show Tryz.prog.cellsOf 37 = 1 from by kernel_rfl] at f6
  replace f6 : Of Tryz.prog 37 [c6] := f6
  obtain ⟨zStreams, q6, b6⟩ := f6.toSlice Tryz.underlying37
  rw [show Tryz.prog.cellsOf 9 = 1 from by kernel_rfl] at q6
  have e6 := (List.cons.inj q6).1
  have f7 : Of Tryz.prog 37 ((([c0, c1, c2, c3, c4, c5, c6, c7, c8, c9, c10, c11, c12] : List AV).drop 7).take (Tryz.prog.cellsOf 37)) := hf 7 _ rfl
  rw [show Tryz.prog.cellsOf 37 = 1 from by kernel_rfl] at f7
  replace f7 : Of Tryz.prog 37 [c7] := f7
  obtain ⟨zTallies, q7, b7⟩ := f7.toSlice Tryz.underlying37
  rw [show Tryz.prog.cellsOf 9 = 1 from by kernel_rfl] at q7
  have e7 := (List.cons.inj q7).1
  have f8 : Of Tryz.prog 37 ((([c0, c1, c2, c3, c4, c5, c6, c7, c8, c9, c10, c11, c12] : List AV).drop 8).take (Tryz.prog.cellsOf 37)) := hf 8 _ rfl
  rw [show Tryz.prog.cellsOf 37 = 1 from by kernel_rfl] at f8
  replace f8 : Of Tryz.prog 37 [c8] := f8
  obtain ⟨zLevels, q8, b8⟩ := f8.toSlice Tryz.underlying37
  rw [show Tryz.prog.cellsOf 9 = 1 from by kernel_rfl] at q8
  have e8 := (List.cons.inj q8).1
  have f9 : Of Tryz.prog 37 ((([c0, c1, c2, c3, c4, c5, c6, c7, c8, c9, c10, c11, c12] : List AV).drop 9).take (Tryz.prog.cellsOf 37)) := hf 9 _ rfl
  rw [show Tryz.prog.cellsOf 37 = 1 from by kernel_rfl] at f9
  replace f9 : Of Tryz.prog 37 [c9] := f9
  obtain ⟨zCounts, q9, b9⟩ := f9.toSlice Tryz.underlying37
  rw [show Tryz.prog.cellsOf 9 = 1 from by kernel_rfl] at q9
  have e9 := (List.cons.inj q9).1
  have f10 : Of Tryz.prog 38 ((([c0, c1, c2, c3, c4, c5, c6, c7, c8, c9, c10, c11, c12] : List AV).drop 10).take (Tryz.prog.cellsOf 38)) := hf 10 _ rfl
  rw [show Tryz.prog.cellsOf 38 = 1 from by kernel_rfl] at f10
  replace f10 : Of Tryz.prog 38 [c10] := f10
  obtain ⟨zRoutines, q10, b10⟩ := f10.toSlice Tryz.underlying38
  rw [show Tryz.prog.cellsOf 79 = 4 from by kernel_rfl] at q10
  have e10 := (List.cons.inj q10).1
  have f11 : Of Tryz.prog 39 ((([c0, c1, c2, c3, c4, c5, c6, c7, c8, c9, c10, c11, c12] : List AV).drop 11).take (Tryz.prog.cellsOf 39)) := hf 11 _ rfl
  rw [show Tryz.prog.cellsOf 39 = 1 from by kernel_rfl] at f11
  replace f11 : Of Tryz.prog 39 [c11] := f11
  obtain ⟨zStarts, q11, b11⟩ := f11.toSlice Tryz.underlying39
  rw [show Tryz.prog.cellsOf 105 = 5 from by kernel_rfl] at q11
  have e11 := (List.cons.inj q11).1
  have f12 : Of Tryz.prog 40 ((([c0, c1, c2, c3, c4, c5, c6, c7, c8, c9, c10, c11, c12] : List AV).drop 12).take (Tryz.prog.cellsOf 40)) := hf 12 _ rfl
  rw [show Tryz.prog.cellsOf 40 = 1 from by kernel_rfl] at f12
  replace f12 : Of Tryz.prog 40 [c12] := f12
  obtain ⟨zLaws, q12, b12⟩ := f12.toSlice Tryz.underlying40
  rw [show Tryz.prog.cellsOf 57 = 3 from by kernel_rfl] at q12
  have e12 := (List.cons.inj q12).1
  subst e0 e1 e2 e3 e4 e5 e6 e7 e8 e9 e10 e11 e12
  exact ⟨zName, zVars, zResources, zStores, zBelts, zQueues, zStreams, zTallies, zLevels, zCounts, zRoutines, zStarts, zLaws, rfl, b0, b1, b2, b3, b4, b5, b6, b7, b8, b9, b10, b11, b12⟩
theorem dec_api_Dist {cs : List AV} (h : Of Tryz.prog 88 cs) : ∃ (zOp : Int) (zA : Int) (zB : Int) (zN : Int) (zValues : List (List AV)) (zWeights : List (List AV)), cs = [.int .i64 zOp, .int .i64 zA, .int .i64 zB, .int .i64 zN, .lst 1 zValues, .lst 1 zWeights] ∧ (-9223372036854775808 ≤ zOp ∧ zOp ≤ 9223372036854775807) ∧ (-9223372036854775808 ≤ zA ∧ zA ≤ 9223372036854775807) ∧ (-9223372036854775808 ≤ zB ∧ zB ≤ 9223372036854775807) ∧ (-9223372036854775808 ≤ zN ∧ zN ≤ 9223372036854775807) ∧ (zValues.length * Tryz.prog.bytesOf 3 ≤ 140737488351232 ∧ ∀ r ∈ zValues, Of Tryz.prog 3 r) ∧ (zWeights.length * Tryz.prog.bytesOf 3 ≤ 140737488351232 ∧ ∀ r ∈ zWeights, Of Tryz.prog 3 r) := by
  obtain ⟨hl, hf⟩ := h.toStruct Tryz.underlying88
  rw [show Tryz.prog.cellsOf 88 = 6 from by kernel_rfl] at hl
  obtain ⟨c0, r0, rfl, hl0⟩ := lenS hl
  obtain ⟨c1, r1, rfl, hl1⟩ := lenS hl0
  obtain ⟨c2, r2, rfl, hl2⟩ := lenS hl1
  obtain ⟨c3, r3, rfl, hl3⟩ := lenS hl2
  obtain ⟨c4, r4, rfl, hl4⟩ := lenS hl3
  obtain ⟨c5, r5, rfl, hl5⟩ := lenS hl4
  obtain rfl := List.eq_nil_of_length_eq_zero hl5
  have f0 : Of Tryz.prog 85 ((([c0, c1, c2, c3, c4, c5] : List AV).drop 0).take (Tryz.prog.cellsOf 85)) := hf 0 _ rfl
  rw [show Tryz.prog.cellsOf 85 = 1 from by kernel_rfl] at f0
  replace f0 : Of Tryz.prog 85 [c0] := f0
  obtain ⟨zOp, q0, b0⟩ := f0.toI64 Tryz.underlying85
  have e0 := (List.cons.inj q0).1
  have f1 : Of Tryz.prog 3 ((([c0, c1, c2, c3, c4, c5] : List AV).drop 1).take (Tryz.prog.cellsOf 3)) := hf 1 _ rfl
  rw [show Tryz.prog.cellsOf 3 = 1 from by kernel_rfl] at f1
  replace f1 : Of Tryz.prog 3 [c1] := f1
  obtain ⟨zA, q1, b1⟩ := f1.toI64 Tryz.underlying3
  have e1 := (List.cons.inj q1).1
  have f2 : Of Tryz.prog 3 ((([c0, c1, c2, c3, c4, c5] : List AV).drop 2).take (Tryz.prog.cellsOf 3)) := hf 2 _ rfl
  rw [show Tryz.prog.cellsOf 3 = 1 from by kernel_rfl] at f2
  replace f2 : Of Tryz.prog 3 [c2] := f2
  obtain ⟨zB, q2, b2⟩ := f2.toI64 Tryz.underlying3
  have e2 := (List.cons.inj q2).1
  have f3 : Of Tryz.prog 3 ((([c0, c1, c2, c3, c4, c5] : List AV).drop 3).take (Tryz.prog.cellsOf 3)) := hf 3 _ rfl
  rw [show Tryz.prog.cellsOf 3 = 1 from by kernel_rfl] at f3
  replace f3 : Of Tryz.prog 3 [c3] := f3
  obtain ⟨zN, q3, b3⟩ := f3.toI64 Tryz.underlying3
  have e3 := (List.cons.inj q3).1
  have f4 : Of Tryz.prog 86 ((([c0, c1, c2, c3, c4, c5] : List AV).drop 4).take (Tryz.prog.cellsOf 86)) := hf 4 _ rfl
  rw [show Tryz.prog.cellsOf 86 = 1 from by kernel_rfl] at f4
  replace f4 : Of Tryz.prog 86 [c4] := f4
  obtain ⟨zValues, q4, b4⟩ := f4.toSlice Tryz.underlying86
  rw [show Tryz.prog.cellsOf 3 = 1 from by kernel_rfl] at q4
  have e4 := (List.cons.inj q4).1
  have f5 : Of Tryz.prog 86 ((([c0, c1, c2, c3, c4, c5] : List AV).drop 5).take (Tryz.prog.cellsOf 86)) := hf 5 _ rfl
  rw [show Tryz.prog.cellsOf 86 = 1 from by kernel_rfl] at f5
  replace f5 : Of Tryz.prog 86 [c5] := f5
  obtain ⟨zWeights, q5, b5⟩ := f5.toSlice Tryz.underlying86
  rw [show Tryz.prog.cellsOf 3 = 1 from by kernel_rfl] at q5
  have e5 := (List.cons.inj q5).1
  subst e0 e1 e2 e3 e4 e5
  exact ⟨zOp, zA, zB, zN, zValues, zWeights, rfl, b0, b1, b2, b3, b4, b5⟩
theorem dec_api_Fault {cs : List AV} (h : Of Tryz.prog 90 cs) : ∃ (zStream : List UInt8) (zUpOp : Int) (zUpA : Int) (zUpB : Int) (zUpN : Int) (zUpValues : List (List AV)) (zUpWeights : List (List AV)) (zDownOp : Int) (zDownA : Int) (zDownB : Int) (zDownN : Int) (zDownValues : List (List AV)) (zDownWeights : List (List AV)), cs = [.str zStream, .int .i64 zUpOp, .int .i64 zUpA, .int .i64 zUpB, .int .i64 zUpN, .lst 1 zUpValues, .lst 1 zUpWeights, .int .i64 zDownOp, .int .i64 zDownA, .int .i64 zDownB, .int .i64 zDownN, .lst 1 zDownValues, .lst 1 zDownWeights] ∧ zStream.length ≤ 140737488351232 ∧ (-9223372036854775808 ≤ zUpOp ∧ zUpOp ≤ 9223372036854775807) ∧ (-9223372036854775808 ≤ zUpA ∧ zUpA ≤ 9223372036854775807) ∧ (-9223372036854775808 ≤ zUpB ∧ zUpB ≤ 9223372036854775807) ∧ (-9223372036854775808 ≤ zUpN ∧ zUpN ≤ 9223372036854775807) ∧ (zUpValues.length * Tryz.prog.bytesOf 3 ≤ 140737488351232 ∧ ∀ r ∈ zUpValues, Of Tryz.prog 3 r) ∧ (zUpWeights.length * Tryz.prog.bytesOf 3 ≤ 140737488351232 ∧ ∀ r ∈ zUpWeights, Of Tryz.prog 3 r) ∧ (-9223372036854775808 ≤ zDownOp ∧ zDownOp ≤ 9223372036854775807) ∧ (-9223372036854775808 ≤ zDownA ∧ zDownA ≤ 9223372036854775807) ∧ (-9223372036854775808 ≤ zDownB ∧ zDownB ≤ 9223372036854775807) ∧ (-9223372036854775808 ≤ zDownN ∧ zDownN ≤ 9223372036854775807) ∧ (zDownValues.length * Tryz.prog.bytesOf 3 ≤ 140737488351232 ∧ ∀ r ∈ zDownValues, Of Tryz.prog 3 r) ∧ (zDownWeights.length * Tryz.prog.bytesOf 3 ≤ 140737488351232 ∧ ∀ r ∈ zDownWeights, Of Tryz.prog 3 r) := by
  obtain ⟨hl, hf⟩ := h.toStruct Tryz.underlying90
  rw [show Tryz.prog.cellsOf 90 = 13 from by kernel_rfl] at hl
  obtain ⟨c0, r0, rfl, hl0⟩ := lenS hl
  obtain ⟨c1, r1, rfl, hl1⟩ := lenS hl0
  obtain ⟨c2, r2, rfl, hl2⟩ := lenS hl1
  obtain ⟨c3, r3, rfl, hl3⟩ := lenS hl2
  obtain ⟨c4, r4, rfl, hl4⟩ := lenS hl3
  obtain ⟨c5, r5, rfl, hl5⟩ := lenS hl4
  obtain ⟨c6, r6, rfl, hl6⟩ := lenS hl5
  obtain ⟨c7, r7, rfl, hl7⟩ := lenS hl6
  obtain ⟨c8, r8, rfl, hl8⟩ := lenS hl7
  obtain ⟨c9, r9, rfl, hl9⟩ := lenS hl8
  obtain ⟨c10, r10, rfl, hl10⟩ := lenS hl9
  obtain ⟨c11, r11, rfl, hl11⟩ := lenS hl10
  obtain ⟨c12, r12, rfl, hl12⟩ := lenS hl11
  obtain rfl := List.eq_nil_of_length_eq_zero hl12
  have f0 : Of Tryz.prog 9 ((([c0, c1, c2, c3, c4, c5, c6, c7, c8, c9, c10, c11, c12] : List AV).drop 0).take (Tryz.prog.cellsOf 9)) := hf 0 _ rfl
  rw [show Tryz.prog.cellsOf 9 = 1 from by kernel_rfl] at f0
  replace f0 : Of Tryz.prog 9 [c0] := f0
  obtain ⟨zStream, q0, b0⟩ := f0.toStr Tryz.underlying9
  have e0 := (List.cons.inj q0).1
  have f1 : Of Tryz.prog 88 ((([c0, c1, c2, c3, c4, c5, c6, c7, c8, c9, c10, c11, c12] : List AV).drop 1).take (Tryz.prog.cellsOf 88)) := hf 1 _ rfl
  rw [show Tryz.prog.cellsOf 88 = 6 from by kernel_rfl] at f1
  replace f1 : Of Tryz.prog 88 [c1, c2, c3, c4, c5, c6] := f1
  obtain ⟨zUpOp, zUpA, zUpB, zUpN, zUpValues, zUpWeights, q1, b1⟩ := dec_api_Dist f1
  simp only [List.cons.injEq, and_true] at q1
  obtain ⟨e1, e2, e3, e4, e5, e6⟩ := q1
  obtain ⟨b1_0, b1_1, b1_2, b1_3, b1_4, b1_5⟩ := b1
  have f2 : Of Tryz.prog 88 ((([c0, c1, c2, c3, c4, c5, c6, c7, c8, c9, c10, c11, c12] : List AV).drop 7).take (Tryz.prog.cellsOf 88)) := hf 2 _ rfl
  rw [show Tryz.prog.cellsOf 88 = 6 from by kernel_rfl] at f2
  replace f2 : Of Tryz.prog 88 [c7, c8, c9, c10, c11, c12] := f2
  obtain ⟨zDownOp, zDownA, zDownB, zDownN, zDownValues, zDownWeights, q2, b2⟩ := dec_api_Dist f2
  simp only [List.cons.injEq, and_true] at q2
  obtain ⟨e7, e8, e9, e10, e11, e12⟩ := q2
  obtain ⟨b2_0, b2_1, b2_2, b2_3, b2_4, b2_5⟩ := b2
  subst e0 e1 e2 e3 e4 e5 e6 e7 e8 e9 e10 e11 e12
  exact ⟨zStream, zUpOp, zUpA, zUpB, zUpN, zUpValues, zUpWeights, zDownOp, zDownA, zDownB, zDownN, zDownValues, zDownWeights, rfl, b0, b1_0, b1_1, b1_2, b1_3, b1_4, b1_5, b2_0, b2_1, b2_2, b2_3, b2_4, b2_5⟩
theorem dec_api_ResourceDecl {cs : List AV} (h : Of Tryz.prog 92 cs) : ∃ (zName : List UInt8) (zUnits : Int) (zShift : List (List AV)) (zCycle : Int) (zFaultStream : List UInt8) (zFaultUpOp : Int) (zFaultUpA : Int) (zFaultUpB : Int) (zFaultUpN : Int) (zFaultUpValues : List (List AV)) (zFaultUpWeights : List (List AV)) (zFaultDownOp : Int) (zFaultDownA : Int) (zFaultDownB : Int) (zFaultDownN : Int) (zFaultDownValues : List (List AV)) (zFaultDownWeights : List (List AV)), cs = [.str zName, .int .i64 zUnits, .lst 2 zShift, .int .i64 zCycle, .str zFaultStream, .int .i64 zFaultUpOp, .int .i64 zFaultUpA, .int .i64 zFaultUpB, .int .i64 zFaultUpN, .lst 1 zFaultUpValues, .lst 1 zFaultUpWeights, .int .i64 zFaultDownOp, .int .i64 zFaultDownA, .int .i64 zFaultDownB, .int .i64 zFaultDownN, .lst 1 zFaultDownValues, .lst 1 zFaultDownWeights] ∧ zName.length ≤ 140737488351232 ∧ (-9223372036854775808 ≤ zUnits ∧ zUnits ≤ 9223372036854775807) ∧ (zShift.length * Tryz.prog.bytesOf 159 ≤ 140737488351232 ∧ ∀ r ∈ zShift, Of Tryz.prog 159 r) ∧ (-9223372036854775808 ≤ zCycle ∧ zCycle ≤ 9223372036854775807) ∧ zFaultStream.length ≤ 140737488351232 ∧ (-9223372036854775808 ≤ zFaultUpOp ∧ zFaultUpOp ≤ 9223372036854775807) ∧ (-9223372036854775808 ≤ zFaultUpA ∧ zFaultUpA ≤ 9223372036854775807) ∧ (-9223372036854775808 ≤ zFaultUpB ∧ zFaultUpB ≤ 9223372036854775807) ∧ (-9223372036854775808 ≤ zFaultUpN ∧ zFaultUpN ≤ 9223372036854775807) ∧ (zFaultUpValues.length * Tryz.prog.bytesOf 3 ≤ 140737488351232 ∧ ∀ r ∈ zFaultUpValues, Of Tryz.prog 3 r) ∧ (zFaultUpWeights.length * Tryz.prog.bytesOf 3 ≤ 140737488351232 ∧ ∀ r ∈ zFaultUpWeights, Of Tryz.prog 3 r) ∧ (-9223372036854775808 ≤ zFaultDownOp ∧ zFaultDownOp ≤ 9223372036854775807) ∧ (-9223372036854775808 ≤ zFaultDownA ∧ zFaultDownA ≤ 9223372036854775807) ∧ (-9223372036854775808 ≤ zFaultDownB ∧ zFaultDownB ≤ 9223372036854775807) ∧ (-9223372036854775808 ≤ zFaultDownN ∧ zFaultDownN ≤ 9223372036854775807) ∧ (zFaultDownValues.length * Tryz.prog.bytesOf 3 ≤ 140737488351232 ∧ ∀ r ∈ zFaultDownValues, Of Tryz.prog 3 r) ∧ (zFaultDownWeights.length * Tryz.prog.bytesOf 3 ≤ 140737488351232 ∧ ∀ r ∈ zFaultDownWeights, Of Tryz.prog 3 r) := by
  obtain ⟨hl, hf⟩ := h.toStruct Tryz.underlying92
  rw [show Tryz.prog.cellsOf 92 = 17 from by kernel_rfl] at hl
  obtain ⟨c0, r0, rfl, hl0⟩ := lenS hl
  obtain ⟨c1, r1, rfl, hl1⟩ := lenS hl0
  obtain ⟨c2, r2, rfl, hl2⟩ := lenS hl1
  obtain ⟨c3, r3, rfl, hl3⟩ := lenS hl2
  obtain ⟨c4, r4, rfl, hl4⟩ := lenS hl3
  obtain ⟨c5, r5, rfl, hl5⟩ := lenS hl4
  obtain ⟨c6, r6, rfl, hl6⟩ := lenS hl5
  obtain ⟨c7, r7, rfl, hl7⟩ := lenS hl6
  obtain ⟨c8, r8, rfl, hl8⟩ := lenS hl7
  obtain ⟨c9, r9, rfl, hl9⟩ := lenS hl8
  obtain ⟨c10, r10, rfl, hl10⟩ := lenS hl9
  obtain ⟨c11, r11, rfl, hl11⟩ := lenS hl10
  obtain ⟨c12, r12, rfl, hl12⟩ := lenS hl11
  obtain ⟨c13, r13, rfl, hl13⟩ := lenS hl12
  obtain ⟨c14, r14, rfl, hl14⟩ := lenS hl13
  obtain ⟨c15, r15, rfl, hl15⟩ := lenS hl14
  obtain ⟨c16, r16, rfl, hl16⟩ := lenS hl15
  obtain rfl := List.eq_nil_of_length_eq_zero hl16
  have f0 : Of Tryz.prog 9 ((([c0, c1, c2, c3, c4, c5, c6, c7, c8, c9, c10, c11, c12, c13, c14, c15, c16] : List AV).drop 0).take (Tryz.prog.cellsOf 9)) := hf 0 _ rfl
  rw [show Tryz.prog.cellsOf 9 = 1 from by kernel_rfl] at f0
  replace f0 : Of Tryz.prog 9 [c0] := f0
  obtain ⟨zName, q0, b0⟩ := f0.toStr Tryz.underlying9
  have e0 := (List.cons.inj q0).1
  have f1 : Of Tryz.prog 3 ((([c0, c1, c2, c3, c4, c5, c6, c7, c8, c9, c10, c11, c12, c13, c14, c15, c16] : List AV).drop 1).take (Tryz.prog.cellsOf 3)) := hf 1 _ rfl
  rw [show Tryz.prog.cellsOf 3 = 1 from by kernel_rfl] at f1
  replace f1 : Of Tryz.prog 3 [c1] := f1
  obtain ⟨zUnits, q1, b1⟩ := f1.toI64 Tryz.underlying3
  have e1 := (List.cons.inj q1).1
  have f2 : Of Tryz.prog 84 ((([c0, c1, c2, c3, c4, c5, c6, c7, c8, c9, c10, c11, c12, c13, c14, c15, c16] : List AV).drop 2).take (Tryz.prog.cellsOf 84)) := hf 2 _ rfl
  rw [show Tryz.prog.cellsOf 84 = 1 from by kernel_rfl] at f2
  replace f2 : Of Tryz.prog 84 [c2] := f2
  obtain ⟨zShift, q2, b2⟩ := f2.toSlice Tryz.underlying84
  rw [show Tryz.prog.cellsOf 159 = 2 from by kernel_rfl] at q2
  have e2 := (List.cons.inj q2).1
  have f3 : Of Tryz.prog 3 ((([c0, c1, c2, c3, c4, c5, c6, c7, c8, c9, c10, c11, c12, c13, c14, c15, c16] : List AV).drop 3).take (Tryz.prog.cellsOf 3)) := hf 3 _ rfl
  rw [show Tryz.prog.cellsOf 3 = 1 from by kernel_rfl] at f3
  replace f3 : Of Tryz.prog 3 [c3] := f3
  obtain ⟨zCycle, q3, b3⟩ := f3.toI64 Tryz.underlying3
  have e3 := (List.cons.inj q3).1
  have f4 : Of Tryz.prog 90 ((([c0, c1, c2, c3, c4, c5, c6, c7, c8, c9, c10, c11, c12, c13, c14, c15, c16] : List AV).drop 4).take (Tryz.prog.cellsOf 90)) := hf 4 _ rfl
  rw [show Tryz.prog.cellsOf 90 = 13 from by kernel_rfl] at f4
  replace f4 : Of Tryz.prog 90 [c4, c5, c6, c7, c8, c9, c10, c11, c12, c13, c14, c15, c16] := f4
  obtain ⟨zFaultStream, zFaultUpOp, zFaultUpA, zFaultUpB, zFaultUpN, zFaultUpValues, zFaultUpWeights, zFaultDownOp, zFaultDownA, zFaultDownB, zFaultDownN, zFaultDownValues, zFaultDownWeights, q4, b4⟩ := dec_api_Fault f4
  simp only [List.cons.injEq, and_true] at q4
  obtain ⟨e4, e5, e6, e7, e8, e9, e10, e11, e12, e13, e14, e15, e16⟩ := q4
  obtain ⟨b4_0, b4_1, b4_2, b4_3, b4_4, b4_5, b4_6, b4_7, b4_8, b4_9, b4_10, b4_11, b4_12⟩ := b4
  subst e0 e1 e2 e3 e4 e5 e6 e7 e8 e9 e10 e11 e12 e13 e14 e15 e16
  exact ⟨zName, zUnits, zShift, zCycle, zFaultStream, zFaultUpOp, zFaultUpA, zFaultUpB, zFaultUpN, zFaultUpValues, zFaultUpWeights, zFaultDownOp, zFaultDownA, zFaultDownB, zFaultDownN, zFaultDownValues, zFaultDownWeights, rfl, b0, b1, b2, b3, b4_0, b4_1, b4_2, b4_3, b4_4, b4_5, b4_6, b4_7, b4_8, b4_9, b4_10, b4_11, b4_12⟩
theorem dec_api_Change {cs : List AV} (h : Of Tryz.prog 159 cs) : ∃ (zAt : Int) (zUnits : Int), cs = [.int .i64 zAt, .int .i64 zUnits] ∧ (-9223372036854775808 ≤ zAt ∧ zAt ≤ 9223372036854775807) ∧ (-9223372036854775808 ≤ zUnits ∧ zUnits ≤ 9223372036854775807) := by
  obtain ⟨hl, hf⟩ := h.toStruct Tryz.underlying159
  rw [show Tryz.prog.cellsOf 159 = 2 from by kernel_rfl] at hl
  obtain ⟨c0, r0, rfl, hl0⟩ := lenS hl
  obtain ⟨c1, r1, rfl, hl1⟩ := lenS hl0
  obtain rfl := List.eq_nil_of_length_eq_zero hl1
  have f0 : Of Tryz.prog 3 ((([c0, c1] : List AV).drop 0).take (Tryz.prog.cellsOf 3)) := hf 0 _ rfl
  rw [show Tryz.prog.cellsOf 3 = 1 from by kernel_rfl] at f0
  replace f0 : Of Tryz.prog 3 [c0] := f0
  obtain ⟨zAt, q0, b0⟩ := f0.toI64 Tryz.underlying3
  have e0 := (List.cons.inj q0).1
  have f1 : Of Tryz.prog 3 ((([c0, c1] : List AV).drop 1).take (Tryz.prog.cellsOf 3)) := hf 1 _ rfl
  rw [show Tryz.prog.cellsOf 3 = 1 from by kernel_rfl] at f1
  replace f1 : Of Tryz.prog 3 [c1] := f1
  obtain ⟨zUnits, q1, b1⟩ := f1.toI64 Tryz.underlying3
  have e1 := (List.cons.inj q1).1
  subst e0 e1
  exact ⟨zAt, zUnits, rfl, b0, b1⟩
theorem dec_api_StoreDecl {cs : List AV} (h : Of Tryz.prog 95 cs) : ∃ (zName : List UInt8) (zRoom : Int) (zPolicy : Int), cs = [.str zName, .int .i64 zRoom, .int .i64 zPolicy] ∧ zName.length ≤ 140737488351232 ∧ (-9223372036854775808 ≤ zRoom ∧ zRoom ≤ 9223372036854775807) ∧ (-9223372036854775808 ≤ zPolicy ∧ zPolicy ≤ 9223372036854775807) := by
  obtain ⟨hl, hf⟩ := h.toStruct Tryz.underlying95
  rw [show Tryz.prog.cellsOf 95 = 3 from by kernel_rfl] at hl
  obtain ⟨c0, r0, rfl, hl0⟩ := lenS hl
  obtain ⟨c1, r1, rfl, hl1⟩ := lenS hl0
  obtain ⟨c2, r2, rfl, hl2⟩ := lenS hl1
  obtain rfl := List.eq_nil_of_length_eq_zero hl2
  have f0 : Of Tryz.prog 9 ((([c0, c1, c2] : List AV).drop 0).take (Tryz.prog.cellsOf 9)) := hf 0 _ rfl
  rw [show Tryz.prog.cellsOf 9 = 1 from by kernel_rfl] at f0
  replace f0 : Of Tryz.prog 9 [c0] := f0
  obtain ⟨zName, q0, b0⟩ := f0.toStr Tryz.underlying9
  have e0 := (List.cons.inj q0).1
  have f1 : Of Tryz.prog 3 ((([c0, c1, c2] : List AV).drop 1).take (Tryz.prog.cellsOf 3)) := hf 1 _ rfl
  rw [show Tryz.prog.cellsOf 3 = 1 from by kernel_rfl] at f1
  replace f1 : Of Tryz.prog 3 [c1] := f1
  obtain ⟨zRoom, q1, b1⟩ := f1.toI64 Tryz.underlying3
  have e1 := (List.cons.inj q1).1
  have f2 : Of Tryz.prog 93 ((([c0, c1, c2] : List AV).drop 2).take (Tryz.prog.cellsOf 93)) := hf 2 _ rfl
  rw [show Tryz.prog.cellsOf 93 = 1 from by kernel_rfl] at f2
  replace f2 : Of Tryz.prog 93 [c2] := f2
  obtain ⟨zPolicy, q2, b2⟩ := f2.toI64 Tryz.underlying93
  have e2 := (List.cons.inj q2).1
  subst e0 e1 e2
  exact ⟨zName, zRoom, zPolicy, rfl, b0, b1, b2⟩
theorem dec_api_BeltDecl {cs : List AV} (h : Of Tryz.prog 97 cs) : ∃ (zName : List UInt8) (zLength : Int) (zStep : Int), cs = [.str zName, .int .i64 zLength, .int .i64 zStep] ∧ zName.length ≤ 140737488351232 ∧ (-9223372036854775808 ≤ zLength ∧ zLength ≤ 9223372036854775807) ∧ (-9223372036854775808 ≤ zStep ∧ zStep ≤ 9223372036854775807) := by
  obtain ⟨hl, hf⟩ := h.toStruct Tryz.underlying97
  rw [show Tryz.prog.cellsOf 97 = 3 from by kernel_rfl] at hl
  obtain ⟨c0, r0, rfl, hl0⟩ := lenS hl
  obtain ⟨c1, r1, rfl, hl1⟩ := lenS hl0
  obtain ⟨c2, r2, rfl, hl2⟩ := lenS hl1
  obtain rfl := List.eq_nil_of_length_eq_zero hl2
  have f0 : Of Tryz.prog 9 ((([c0, c1, c2] : List AV).drop 0).take (Tryz.prog.cellsOf 9)) := hf 0 _ rfl
  rw [show Tryz.prog.cellsOf 9 = 1 from by kernel_rfl] at f0
  replace f0 : Of Tryz.prog 9 [c0] := f0
  obtain ⟨zName, q0, b0⟩ := f0.toStr Tryz.underlying9
  have e0 := (List.cons.inj q0).1
  have f1 : Of Tryz.prog 3 ((([c0, c1, c2] : List AV).drop 1).take (Tryz.prog.cellsOf 3)) := hf 1 _ rfl
  rw [show Tryz.prog.cellsOf 3 = 1 from by kernel_rfl] at f1
  replace f1 : Of Tryz.prog 3 [c1] := f1
  obtain ⟨zLength, q1, b1⟩ := f1.toI64 Tryz.underlying3
  have e1 := (List.cons.inj q1).1
  have f2 : Of Tryz.prog 3 ((([c0, c1, c2] : List AV).drop 2).take (Tryz.prog.cellsOf 3)) := hf 2 _ rfl
  rw [show Tryz.prog.cellsOf 3 = 1 from by kernel_rfl] at f2
  replace f2 : Of Tryz.prog 3 [c2] := f2
  obtain ⟨zStep, q2, b2⟩ := f2.toI64 Tryz.underlying3
  have e2 := (List.cons.inj q2).1
  subst e0 e1 e2
  exact ⟨zName, zLength, zStep, rfl, b0, b1, b2⟩
theorem dec_api_Routine {cs : List AV} (h : Of Tryz.prog 79 cs) : ∃ (zName : List UInt8) (zParams : List (List AV)) (zLocals : List (List AV)) (zBody : List (List AV)), cs = [.str zName, .lst 2 zParams, .lst 2 zLocals, .lst 21 zBody] ∧ zName.length ≤ 140737488351232 ∧ (zParams.length * Tryz.prog.bytesOf 103 ≤ 140737488351232 ∧ ∀ r ∈ zParams, Of Tryz.prog 103 r) ∧ (zLocals.length * Tryz.prog.bytesOf 103 ≤ 140737488351232 ∧ ∀ r ∈ zLocals, Of Tryz.prog 103 r) ∧ (zBody.length * Tryz.prog.bytesOf 181 ≤ 140737488351232 ∧ ∀ r ∈ zBody, Of Tryz.prog 181 r) := by
  obtain ⟨hl, hf⟩ := h.toStruct Tryz.underlying79
  rw [show Tryz.prog.cellsOf 79 = 4 from by kernel_rfl] at hl
  obtain ⟨c0, r0, rfl, hl0⟩ := lenS hl
  obtain ⟨c1, r1, rfl, hl1⟩ := lenS hl0
  obtain ⟨c2, r2, rfl, hl2⟩ := lenS hl1
  obtain ⟨c3, r3, rfl, hl3⟩ := lenS hl2
  obtain rfl := List.eq_nil_of_length_eq_zero hl3
  have f0 : Of Tryz.prog 9 ((([c0, c1, c2, c3] : List AV).drop 0).take (Tryz.prog.cellsOf 9)) := hf 0 _ rfl
  rw [show Tryz.prog.cellsOf 9 = 1 from by kernel_rfl] at f0
  replace f0 : Of Tryz.prog 9 [c0] := f0
  obtain ⟨zName, q0, b0⟩ := f0.toStr Tryz.underlying9
  have e0 := (List.cons.inj q0).1
  have f1 : Of Tryz.prog 76 ((([c0, c1, c2, c3] : List AV).drop 1).take (Tryz.prog.cellsOf 76)) := hf 1 _ rfl
  rw [show Tryz.prog.cellsOf 76 = 1 from by kernel_rfl] at f1
  replace f1 : Of Tryz.prog 76 [c1] := f1
  obtain ⟨zParams, q1, b1⟩ := f1.toSlice Tryz.underlying76
  rw [show Tryz.prog.cellsOf 103 = 2 from by kernel_rfl] at q1
  have e1 := (List.cons.inj q1).1
  have f2 : Of Tryz.prog 76 ((([c0, c1, c2, c3] : List AV).drop 2).take (Tryz.prog.cellsOf 76)) := hf 2 _ rfl
  rw [show Tryz.prog.cellsOf 76 = 1 from by kernel_rfl] at f2
  replace f2 : Of Tryz.prog 76 [c2] := f2
  obtain ⟨zLocals, q2, b2⟩ := f2.toSlice Tryz.underlying76
  rw [show Tryz.prog.cellsOf 103 = 2 from by kernel_rfl] at q2
  have e2 := (List.cons.inj q2).1
  have f3 : Of Tryz.prog 77 ((([c0, c1, c2, c3] : List AV).drop 3).take (Tryz.prog.cellsOf 77)) := hf 3 _ rfl
  rw [show Tryz.prog.cellsOf 77 = 1 from by kernel_rfl] at f3
  replace f3 : Of Tryz.prog 77 [c3] := f3
  obtain ⟨zBody, q3, b3⟩ := f3.toSlice Tryz.underlying77
  rw [show Tryz.prog.cellsOf 181 = 21 from by kernel_rfl] at q3
  have e3 := (List.cons.inj q3).1
  subst e0 e1 e2 e3
  exact ⟨zName, zParams, zLocals, zBody, rfl, b0, b1, b2, b3⟩
theorem dec_api_Field {cs : List AV} (h : Of Tryz.prog 103 cs) : ∃ (zName : List UInt8) (zType : Int), cs = [.str zName, .int .i64 zType] ∧ zName.length ≤ 140737488351232 ∧ (-9223372036854775808 ≤ zType ∧ zType ≤ 9223372036854775807) := by
  obtain ⟨hl, hf⟩ := h.toStruct Tryz.underlying103
  rw [show Tryz.prog.cellsOf 103 = 2 from by kernel_rfl] at hl
  obtain ⟨c0, r0, rfl, hl0⟩ := lenS hl
  obtain ⟨c1, r1, rfl, hl1⟩ := lenS hl0
  obtain rfl := List.eq_nil_of_length_eq_zero hl1
  have f0 : Of Tryz.prog 9 ((([c0, c1] : List AV).drop 0).take (Tryz.prog.cellsOf 9)) := hf 0 _ rfl
  rw [show Tryz.prog.cellsOf 9 = 1 from by kernel_rfl] at f0
  replace f0 : Of Tryz.prog 9 [c0] := f0
  obtain ⟨zName, q0, b0⟩ := f0.toStr Tryz.underlying9
  have e0 := (List.cons.inj q0).1
  have f1 : Of Tryz.prog 67 ((([c0, c1] : List AV).drop 1).take (Tryz.prog.cellsOf 67)) := hf 1 _ rfl
  rw [show Tryz.prog.cellsOf 67 = 1 from by kernel_rfl] at f1
  replace f1 : Of Tryz.prog 67 [c1] := f1
  obtain ⟨zType, q1, b1⟩ := f1.toI64 Tryz.underlying67
  have e1 := (List.cons.inj q1).1
  subst e0 e1
  exact ⟨zName, zType, rfl, b0, b1⟩
theorem dec_api_Expr {cs : List AV} (h : Of Tryz.prog 179 cs) : ∃ (zOp : Int) (zName : List UInt8) (zN : Int) (zKids : List (List AV)), cs = [.int .i64 zOp, .str zName, .int .i64 zN, .lst 4 zKids] ∧ (-9223372036854775808 ≤ zOp ∧ zOp ≤ 9223372036854775807) ∧ zName.length ≤ 140737488351232 ∧ (-9223372036854775808 ≤ zN ∧ zN ≤ 9223372036854775807) ∧ (zKids.length * Tryz.prog.bytesOf 179 ≤ 140737488351232 ∧ ∀ r ∈ zKids, Of Tryz.prog 179 r) := by
  obtain ⟨hl, hf⟩ := h.toStruct Tryz.underlying179
  rw [show Tryz.prog.cellsOf 179 = 4 from by kernel_rfl] at hl
  obtain ⟨c0, r0, rfl, hl0⟩ := lenS hl
  obtain ⟨c1, r1, rfl, hl1⟩ := lenS hl0
  obtain ⟨c2, r2, rfl, hl2⟩ := lenS hl1
  obtain ⟨c3, r3, rfl, hl3⟩ := lenS hl2
  obtain rfl := List.eq_nil_of_length_eq_zero hl3
  have f0 : Of Tryz.prog 176 ((([c0, c1, c2, c3] : List AV).drop 0).take (Tryz.prog.cellsOf 176)) := hf 0 _ rfl
  rw [show Tryz.prog.cellsOf 176 = 1 from by kernel_rfl] at f0
  replace f0 : Of Tryz.prog 176 [c0] := f0
  obtain ⟨zOp, q0, b0⟩ := f0.toI64 Tryz.underlying176
  have e0 := (List.cons.inj q0).1
  have f1 : Of Tryz.prog 9 ((([c0, c1, c2, c3] : List AV).drop 1).take (Tryz.prog.cellsOf 9)) := hf 1 _ rfl
  rw [show Tryz.prog.cellsOf 9 = 1 from by kernel_rfl] at f1
  replace f1 : Of Tryz.prog 9 [c1] := f1
  obtain ⟨zName, q1, b1⟩ := f1.toStr Tryz.underlying9
  have e1 := (List.cons.inj q1).1
  have f2 : Of Tryz.prog 3 ((([c0, c1, c2, c3] : List AV).drop 2).take (Tryz.prog.cellsOf 3)) := hf 2 _ rfl
  rw [show Tryz.prog.cellsOf 3 = 1 from by kernel_rfl] at f2
  replace f2 : Of Tryz.prog 3 [c2] := f2
  obtain ⟨zN, q2, b2⟩ := f2.toI64 Tryz.underlying3
  have e2 := (List.cons.inj q2).1
  have f3 : Of Tryz.prog 177 ((([c0, c1, c2, c3] : List AV).drop 3).take (Tryz.prog.cellsOf 177)) := hf 3 _ rfl
  rw [show Tryz.prog.cellsOf 177 = 1 from by kernel_rfl] at f3
  replace f3 : Of Tryz.prog 177 [c3] := f3
  obtain ⟨zKids, q3, b3⟩ := f3.toSlice Tryz.underlying177
  rw [show Tryz.prog.cellsOf 179 = 4 from by kernel_rfl] at q3
  have e3 := (List.cons.inj q3).1
  subst e0 e1 e2 e3
  exact ⟨zOp, zName, zN, zKids, rfl, b0, b1, b2, b3⟩
theorem dec_api_Stmt {cs : List AV} (h : Of Tryz.prog 181 cs) : ∃ (zOp : Int) (zName : List UInt8) (zOf : List UInt8) (zEOp : Int) (zEName : List UInt8) (zEN : Int) (zEKids : List (List AV)) (zFOp : Int) (zFName : List UInt8) (zFN : Int) (zFKids : List (List AV)) (zArgs : List (List AV)) (zDistOp : Int) (zDistA : Int) (zDistB : Int) (zDistN : Int) (zDistValues : List (List AV)) (zDistWeights : List (List AV)) (zFlag : Bool) (zBody : List (List AV)) (zElse : List (List AV)), cs = [.int .i64 zOp, .str zName, .str zOf, .int .i64 zEOp, .str zEName, .int .i64 zEN, .lst 4 zEKids, .int .i64 zFOp, .str zFName, .int .i64 zFN, .lst 4 zFKids, .lst 4 zArgs, .int .i64 zDistOp, .int .i64 zDistA, .int .i64 zDistB, .int .i64 zDistN, .lst 1 zDistValues, .lst 1 zDistWeights, .bool zFlag, .lst 21 zBody, .lst 21 zElse] ∧ (-9223372036854775808 ≤ zOp ∧ zOp ≤ 9223372036854775807) ∧ zName.length ≤ 140737488351232 ∧ zOf.length ≤ 140737488351232 ∧ (-9223372036854775808 ≤ zEOp ∧ zEOp ≤ 9223372036854775807) ∧ zEName.length ≤ 140737488351232 ∧ (-9223372036854775808 ≤ zEN ∧ zEN ≤ 9223372036854775807) ∧ (zEKids.length * Tryz.prog.bytesOf 179 ≤ 140737488351232 ∧ ∀ r ∈ zEKids, Of Tryz.prog 179 r) ∧ (-9223372036854775808 ≤ zFOp ∧ zFOp ≤ 9223372036854775807) ∧ zFName.length ≤ 140737488351232 ∧ (-9223372036854775808 ≤ zFN ∧ zFN ≤ 9223372036854775807) ∧ (zFKids.length * Tryz.prog.bytesOf 179 ≤ 140737488351232 ∧ ∀ r ∈ zFKids, Of Tryz.prog 179 r) ∧ (zArgs.length * Tryz.prog.bytesOf 179 ≤ 140737488351232 ∧ ∀ r ∈ zArgs, Of Tryz.prog 179 r) ∧ (-9223372036854775808 ≤ zDistOp ∧ zDistOp ≤ 9223372036854775807) ∧ (-9223372036854775808 ≤ zDistA ∧ zDistA ≤ 9223372036854775807) ∧ (-9223372036854775808 ≤ zDistB ∧ zDistB ≤ 9223372036854775807) ∧ (-9223372036854775808 ≤ zDistN ∧ zDistN ≤ 9223372036854775807) ∧ (zDistValues.length * Tryz.prog.bytesOf 3 ≤ 140737488351232 ∧ ∀ r ∈ zDistValues, Of Tryz.prog 3 r) ∧ (zDistWeights.length * Tryz.prog.bytesOf 3 ≤ 140737488351232 ∧ ∀ r ∈ zDistWeights, Of Tryz.prog 3 r) ∧ True ∧ (zBody.length * Tryz.prog.bytesOf 181 ≤ 140737488351232 ∧ ∀ r ∈ zBody, Of Tryz.prog 181 r) ∧ (zElse.length * Tryz.prog.bytesOf 181 ≤ 140737488351232 ∧ ∀ r ∈ zElse, Of Tryz.prog 181 r) := by
  obtain ⟨hl, hf⟩ := h.toStruct Tryz.underlying181
  rw [show Tryz.prog.cellsOf 181 = 21 from by kernel_rfl] at hl
  obtain ⟨c0, r0, rfl, hl0⟩ := lenS hl
  obtain ⟨c1, r1, rfl, hl1⟩ := lenS hl0
  obtain ⟨c2, r2, rfl, hl2⟩ := lenS hl1
  obtain ⟨c3, r3, rfl, hl3⟩ := lenS hl2
  obtain ⟨c4, r4, rfl, hl4⟩ := lenS hl3
  obtain ⟨c5, r5, rfl, hl5⟩ := lenS hl4
  obtain ⟨c6, r6, rfl, hl6⟩ := lenS hl5
  obtain ⟨c7, r7, rfl, hl7⟩ := lenS hl6
  obtain ⟨c8, r8, rfl, hl8⟩ := lenS hl7
  obtain ⟨c9, r9, rfl, hl9⟩ := lenS hl8
  obtain ⟨c10, r10, rfl, hl10⟩ := lenS hl9
  obtain ⟨c11, r11, rfl, hl11⟩ := lenS hl10
  obtain ⟨c12, r12, rfl, hl12⟩ := lenS hl11
  obtain ⟨c13, r13, rfl, hl13⟩ := lenS hl12
  obtain ⟨c14, r14, rfl, hl14⟩ := lenS hl13
  obtain ⟨c15, r15, rfl, hl15⟩ := lenS hl14
  obtain ⟨c16, r16, rfl, hl16⟩ := lenS hl15
  obtain ⟨c17, r17, rfl, hl17⟩ := lenS hl16
  obtain ⟨c18, r18, rfl, hl18⟩ := lenS hl17
  obtain ⟨c19, r19, rfl, hl19⟩ := lenS hl18
  obtain ⟨c20, r20, rfl, hl20⟩ := lenS hl19
  obtain rfl := List.eq_nil_of_length_eq_zero hl20
  have f0 : Of Tryz.prog 175 ((([c0, c1, c2, c3, c4, c5, c6, c7, c8, c9, c10, c11, c12, c13, c14, c15, c16, c17, c18, c19, c20] : List AV).drop 0).take (Tryz.prog.cellsOf 175)) := hf 0 _ rfl
  rw [show Tryz.prog.cellsOf 175 = 1 from by kernel_rfl] at f0
  replace f0 : Of Tryz.prog 175 [c0] := f0
  obtain ⟨zOp, q0, b0⟩ := f0.toI64 Tryz.underlying175
  have e0 := (List.cons.inj q0).1
  have f1 : Of Tryz.prog 9 ((([c0, c1, c2, c3, c4, c5, c6, c7, c8, c9, c10, c11, c12, c13, c14, c15, c16, c17, c18, c19, c20] : List AV).drop 1).take (Tryz.prog.cellsOf 9)) := hf 1 _ rfl
  rw [show Tryz.prog.cellsOf 9 = 1 from by kernel_rfl] at f1
  replace f1 : Of Tryz.prog 9 [c1] := f1
  obtain ⟨zName, q1, b1⟩ := f1.toStr Tryz.underlying9
  have e1 := (List.cons.inj q1).1
  have f2 : Of Tryz.prog 9 ((([c0, c1, c2, c3, c4, c5, c6, c7, c8, c9, c10, c11, c12, c13, c14, c15, c16, c17, c18, c19, c20] : List AV).drop 2).take (Tryz.prog.cellsOf 9)) := hf 2 _ rfl
  rw [show Tryz.prog.cellsOf 9 = 1 from by kernel_rfl] at f2
  replace f2 : Of Tryz.prog 9 [c2] := f2
  obtain ⟨zOf, q2, b2⟩ := f2.toStr Tryz.underlying9
  have e2 := (List.cons.inj q2).1
  have f3 : Of Tryz.prog 179 ((([c0, c1, c2, c3, c4, c5, c6, c7, c8, c9, c10, c11, c12, c13, c14, c15, c16, c17, c18, c19, c20] : List AV).drop 3).take (Tryz.prog.cellsOf 179)) := hf 3 _ rfl
  rw [show Tryz.prog.cellsOf 179 = 4 from by kernel_rfl] at f3
  replace f3 : Of Tryz.prog 179 [c3, c4, c5, c6] := f3
  obtain ⟨zEOp, zEName, zEN, zEKids, q3, b3⟩ := dec_api_Expr f3
  simp only [List.cons.injEq, and_true] at q3
  obtain ⟨e3, e4, e5, e6⟩ := q3
  obtain ⟨b3_0, b3_1, b3_2, b3_3⟩ := b3
  have f4 : Of Tryz.prog 179 ((([c0, c1, c2, c3, c4, c5, c6, c7, c8, c9, c10, c11, c12, c13, c14, c15, c16, c17, c18, c19, c20] : List AV).drop 7).take (Tryz.prog.cellsOf 179)) := hf 4 _ rfl
  rw [show Tryz.prog.cellsOf 179 = 4 from by kernel_rfl] at f4
  replace f4 : Of Tryz.prog 179 [c7, c8, c9, c10] := f4
  obtain ⟨zFOp, zFName, zFN, zFKids, q4, b4⟩ := dec_api_Expr f4
  simp only [List.cons.injEq, and_true] at q4
  obtain ⟨e7, e8, e9, e10⟩ := q4
  obtain ⟨b4_0, b4_1, b4_2, b4_3⟩ := b4
  have f5 : Of Tryz.prog 177 ((([c0, c1, c2, c3, c4, c5, c6, c7, c8, c9, c10, c11, c12, c13, c14, c15, c16, c17, c18, c19, c20] : List AV).drop 11).take (Tryz.prog.cellsOf 177)) := hf 5 _ rfl
  rw [show Tryz.prog.cellsOf 177 = 1 from by kernel_rfl] at f5
  replace f5 : Of Tryz.prog 177 [c11] := f5
  obtain ⟨zArgs, q5, b5⟩ := f5.toSlice Tryz.underlying177
  rw [show Tryz.prog.cellsOf 179 = 4 from by kernel_rfl] at q5
  have e11 := (List.cons.inj q5).1
  have f6 : Of Tryz.prog 88 ((([c0, c1, c2, c3, c4, c5, c6, c7, c8, c9, c10, c11, c12, c13, c14, c15, c16, c17, c18, c19, c20] : List AV).drop 12).take (Tryz.prog.cellsOf 88)) := hf 6 _ rfl
  rw [show Tryz.prog.cellsOf 88 = 6 from by kernel_rfl] at f6
  replace f6 : Of Tryz.prog 88 [c12, c13, c14, c15, c16, c17] := f6
  obtain ⟨zDistOp, zDistA, zDistB, zDistN, zDistValues, zDistWeights, q6, b6⟩ := dec_api_Dist f6
  simp only [List.cons.injEq, and_true] at q6
  obtain ⟨e12, e13, e14, e15, e16, e17⟩ := q6
  obtain ⟨b6_0, b6_1, b6_2, b6_3, b6_4, b6_5⟩ := b6
  have f7 : Of Tryz.prog 4 ((([c0, c1, c2, c3, c4, c5, c6, c7, c8, c9, c10, c11, c12, c13, c14, c15, c16, c17, c18, c19, c20] : List AV).drop 18).take (Tryz.prog.cellsOf 4)) := hf 7 _ rfl
  rw [show Tryz.prog.cellsOf 4 = 1 from by kernel_rfl] at f7
  replace f7 : Of Tryz.prog 4 [c18] := f7
  obtain ⟨zFlag, q7⟩ := f7.toBool Tryz.underlying4
  have b7 : True := trivial
  have e18 := (List.cons.inj q7).1
  have f8 : Of Tryz.prog 77 ((([c0, c1, c2, c3, c4, c5, c6, c7, c8, c9, c10, c11, c12, c13, c14, c15, c16, c17, c18, c19, c20] : List AV).drop 19).take (Tryz.prog.cellsOf 77)) := hf 8 _ rfl
  rw [show Tryz.prog.cellsOf 77 = 1 from by kernel_rfl] at f8
  replace f8 : Of Tryz.prog 77 [c19] := f8
  obtain ⟨zBody, q8, b8⟩ := f8.toSlice Tryz.underlying77
  rw [show Tryz.prog.cellsOf 181 = 21 from by kernel_rfl] at q8
  have e19 := (List.cons.inj q8).1
  have f9 : Of Tryz.prog 77 ((([c0, c1, c2, c3, c4, c5, c6, c7, c8, c9, c10, c11, c12, c13, c14, c15, c16, c17, c18, c19, c20] : List AV).drop 20).take (Tryz.prog.cellsOf 77)) := hf 9 _ rfl
  rw [show Tryz.prog.cellsOf 77 = 1 from by kernel_rfl] at f9
  replace f9 : Of Tryz.prog 77 [c20] := f9
  obtain ⟨zElse, q9, b9⟩ := f9.toSlice Tryz.underlying77
  rw [show Tryz.prog.cellsOf 181 = 21 from by kernel_rfl] at q9
  have e20 := (List.cons.inj q9).1
  subst e0 e1 e2 e3 e4 e5 e6 e7 e8 e9 e10 e11 e12 e13 e14 e15 e16 e17 e18 e19 e20
  exact ⟨zOp, zName, zOf, zEOp, zEName, zEN, zEKids, zFOp, zFName, zFN, zFKids, zArgs, zDistOp, zDistA, zDistB, zDistN, zDistValues, zDistWeights, zFlag, zBody, zElse, rfl, b0, b1, b2, b3_0, b3_1, b3_2, b3_3, b4_0, b4_1, b4_2, b4_3, b5, b6_0, b6_1, b6_2, b6_3, b6_4, b6_5, b7, b8, b9⟩
theorem dec_api_Start {cs : List AV} (h : Of Tryz.prog 105 cs) : ∃ (zRoutine : List UInt8) (zArgs : List (List AV)) (zAt : Int) (zEvery : Int) (zUntil : Int), cs = [.str zRoutine, .lst 1 zArgs, .int .i64 zAt, .int .i64 zEvery, .int .i64 zUntil] ∧ zRoutine.length ≤ 140737488351232 ∧ (zArgs.length * Tryz.prog.bytesOf 3 ≤ 140737488351232 ∧ ∀ r ∈ zArgs, Of Tryz.prog 3 r) ∧ (-9223372036854775808 ≤ zAt ∧ zAt ≤ 9223372036854775807) ∧ (-9223372036854775808 ≤ zEvery ∧ zEvery ≤ 9223372036854775807) ∧ (-9223372036854775808 ≤ zUntil ∧ zUntil ≤ 9223372036854775807) := by
  obtain ⟨hl, hf⟩ := h.toStruct Tryz.underlying105
  rw [show Tryz.prog.cellsOf 105 = 5 from by kernel_rfl] at hl
  obtain ⟨c0, r0, rfl, hl0⟩ := lenS hl
  obtain ⟨c1, r1, rfl, hl1⟩ := lenS hl0
  obtain ⟨c2, r2, rfl, hl2⟩ := lenS hl1
  obtain ⟨c3, r3, rfl, hl3⟩ := lenS hl2
  obtain ⟨c4, r4, rfl, hl4⟩ := lenS hl3
  obtain rfl := List.eq_nil_of_length_eq_zero hl4
  have f0 : Of Tryz.prog 9 ((([c0, c1, c2, c3, c4] : List AV).drop 0).take (Tryz.prog.cellsOf 9)) := hf 0 _ rfl
  rw [show Tryz.prog.cellsOf 9 = 1 from by kernel_rfl] at f0
  replace f0 : Of Tryz.prog 9 [c0] := f0
  obtain ⟨zRoutine, q0, b0⟩ := f0.toStr Tryz.underlying9
  have e0 := (List.cons.inj q0).1
  have f1 : Of Tryz.prog 86 ((([c0, c1, c2, c3, c4] : List AV).drop 1).take (Tryz.prog.cellsOf 86)) := hf 1 _ rfl
  rw [show Tryz.prog.cellsOf 86 = 1 from by kernel_rfl] at f1
  replace f1 : Of Tryz.prog 86 [c1] := f1
  obtain ⟨zArgs, q1, b1⟩ := f1.toSlice Tryz.underlying86
  rw [show Tryz.prog.cellsOf 3 = 1 from by kernel_rfl] at q1
  have e1 := (List.cons.inj q1).1
  have f2 : Of Tryz.prog 3 ((([c0, c1, c2, c3, c4] : List AV).drop 2).take (Tryz.prog.cellsOf 3)) := hf 2 _ rfl
  rw [show Tryz.prog.cellsOf 3 = 1 from by kernel_rfl] at f2
  replace f2 : Of Tryz.prog 3 [c2] := f2
  obtain ⟨zAt, q2, b2⟩ := f2.toI64 Tryz.underlying3
  have e2 := (List.cons.inj q2).1
  have f3 : Of Tryz.prog 3 ((([c0, c1, c2, c3, c4] : List AV).drop 3).take (Tryz.prog.cellsOf 3)) := hf 3 _ rfl
  rw [show Tryz.prog.cellsOf 3 = 1 from by kernel_rfl] at f3
  replace f3 : Of Tryz.prog 3 [c3] := f3
  obtain ⟨zEvery, q3, b3⟩ := f3.toI64 Tryz.underlying3
  have e3 := (List.cons.inj q3).1
  have f4 : Of Tryz.prog 3 ((([c0, c1, c2, c3, c4] : List AV).drop 4).take (Tryz.prog.cellsOf 3)) := hf 4 _ rfl
  rw [show Tryz.prog.cellsOf 3 = 1 from by kernel_rfl] at f4
  replace f4 : Of Tryz.prog 3 [c4] := f4
  obtain ⟨zUntil, q4, b4⟩ := f4.toI64 Tryz.underlying3
  have e4 := (List.cons.inj q4).1
  subst e0 e1 e2 e3 e4
  exact ⟨zRoutine, zArgs, zAt, zEvery, zUntil, rfl, b0, b1, b2, b3, b4⟩
theorem dec_api_Law {cs : List AV} (h : Of Tryz.prog 57 cs) : ∃ (zName : List UInt8) (zTerms : List (List AV)) (zTotal : Int), cs = [.str zName, .lst 3 zTerms, .int .i64 zTotal] ∧ zName.length ≤ 140737488351232 ∧ (zTerms.length * Tryz.prog.bytesOf 54 ≤ 140737488351232 ∧ ∀ r ∈ zTerms, Of Tryz.prog 54 r) ∧ (-9223372036854775808 ≤ zTotal ∧ zTotal ≤ 9223372036854775807) := by
  obtain ⟨hl, hf⟩ := h.toStruct Tryz.underlying57
  rw [show Tryz.prog.cellsOf 57 = 3 from by kernel_rfl] at hl
  obtain ⟨c0, r0, rfl, hl0⟩ := lenS hl
  obtain ⟨c1, r1, rfl, hl1⟩ := lenS hl0
  obtain ⟨c2, r2, rfl, hl2⟩ := lenS hl1
  obtain rfl := List.eq_nil_of_length_eq_zero hl2
  have f0 : Of Tryz.prog 9 ((([c0, c1, c2] : List AV).drop 0).take (Tryz.prog.cellsOf 9)) := hf 0 _ rfl
  rw [show Tryz.prog.cellsOf 9 = 1 from by kernel_rfl] at f0
  replace f0 : Of Tryz.prog 9 [c0] := f0
  obtain ⟨zName, q0, b0⟩ := f0.toStr Tryz.underlying9
  have e0 := (List.cons.inj q0).1
  have f1 : Of Tryz.prog 55 ((([c0, c1, c2] : List AV).drop 1).take (Tryz.prog.cellsOf 55)) := hf 1 _ rfl
  rw [show Tryz.prog.cellsOf 55 = 1 from by kernel_rfl] at f1
  replace f1 : Of Tryz.prog 55 [c1] := f1
  obtain ⟨zTerms, q1, b1⟩ := f1.toSlice Tryz.underlying55
  rw [show Tryz.prog.cellsOf 54 = 3 from by kernel_rfl] at q1
  have e1 := (List.cons.inj q1).1
  have f2 : Of Tryz.prog 3 ((([c0, c1, c2] : List AV).drop 2).take (Tryz.prog.cellsOf 3)) := hf 2 _ rfl
  rw [show Tryz.prog.cellsOf 3 = 1 from by kernel_rfl] at f2
  replace f2 : Of Tryz.prog 3 [c2] := f2
  obtain ⟨zTotal, q2, b2⟩ := f2.toI64 Tryz.underlying3
  have e2 := (List.cons.inj q2).1
  subst e0 e1 e2
  exact ⟨zName, zTerms, zTotal, rfl, b0, b1, b2⟩
theorem dec_api_Term {cs : List AV} (h : Of Tryz.prog 54 cs) : ∃ (zCoef : Int) (zWhat : List UInt8) (zName : List UInt8), cs = [.int .i64 zCoef, .str zWhat, .str zName] ∧ (-9223372036854775808 ≤ zCoef ∧ zCoef ≤ 9223372036854775807) ∧ zWhat.length ≤ 140737488351232 ∧ zName.length ≤ 140737488351232 := by
  obtain ⟨hl, hf⟩ := h.toStruct Tryz.underlying54
  rw [show Tryz.prog.cellsOf 54 = 3 from by kernel_rfl] at hl
  obtain ⟨c0, r0, rfl, hl0⟩ := lenS hl
  obtain ⟨c1, r1, rfl, hl1⟩ := lenS hl0
  obtain ⟨c2, r2, rfl, hl2⟩ := lenS hl1
  obtain rfl := List.eq_nil_of_length_eq_zero hl2
  have f0 : Of Tryz.prog 3 ((([c0, c1, c2] : List AV).drop 0).take (Tryz.prog.cellsOf 3)) := hf 0 _ rfl
  rw [show Tryz.prog.cellsOf 3 = 1 from by kernel_rfl] at f0
  replace f0 : Of Tryz.prog 3 [c0] := f0
  obtain ⟨zCoef, q0, b0⟩ := f0.toI64 Tryz.underlying3
  have e0 := (List.cons.inj q0).1
  have f1 : Of Tryz.prog 9 ((([c0, c1, c2] : List AV).drop 1).take (Tryz.prog.cellsOf 9)) := hf 1 _ rfl
  rw [show Tryz.prog.cellsOf 9 = 1 from by kernel_rfl] at f1
  replace f1 : Of Tryz.prog 9 [c1] := f1
  obtain ⟨zWhat, q1, b1⟩ := f1.toStr Tryz.underlying9
  have e1 := (List.cons.inj q1).1
  have f2 : Of Tryz.prog 9 ((([c0, c1, c2] : List AV).drop 2).take (Tryz.prog.cellsOf 9)) := hf 2 _ rfl
  rw [show Tryz.prog.cellsOf 9 = 1 from by kernel_rfl] at f2
  replace f2 : Of Tryz.prog 9 [c2] := f2
  obtain ⟨zName, q2, b2⟩ := f2.toStr Tryz.underlying9
  have e2 := (List.cons.inj q2).1
  subst e0 e1 e2
  exact ⟨zCoef, zWhat, zName, rfl, b0, b1, b2⟩
theorem dec_api_Link {cs : List AV} (h : Of Tryz.prog 49 cs) : ∃ (zFrom : List UInt8) (zTo : List UInt8) (zDelay : Int), cs = [.str zFrom, .str zTo, .int .i64 zDelay] ∧ zFrom.length ≤ 140737488351232 ∧ zTo.length ≤ 140737488351232 ∧ (-9223372036854775808 ≤ zDelay ∧ zDelay ≤ 9223372036854775807) := by
  obtain ⟨hl, hf⟩ := h.toStruct Tryz.underlying49
  rw [show Tryz.prog.cellsOf 49 = 3 from by kernel_rfl] at hl
  obtain ⟨c0, r0, rfl, hl0⟩ := lenS hl
  obtain ⟨c1, r1, rfl, hl1⟩ := lenS hl0
  obtain ⟨c2, r2, rfl, hl2⟩ := lenS hl1
  obtain rfl := List.eq_nil_of_length_eq_zero hl2
  have f0 : Of Tryz.prog 9 ((([c0, c1, c2] : List AV).drop 0).take (Tryz.prog.cellsOf 9)) := hf 0 _ rfl
  rw [show Tryz.prog.cellsOf 9 = 1 from by kernel_rfl] at f0
  replace f0 : Of Tryz.prog 9 [c0] := f0
  obtain ⟨zFrom, q0, b0⟩ := f0.toStr Tryz.underlying9
  have e0 := (List.cons.inj q0).1
  have f1 : Of Tryz.prog 9 ((([c0, c1, c2] : List AV).drop 1).take (Tryz.prog.cellsOf 9)) := hf 1 _ rfl
  rw [show Tryz.prog.cellsOf 9 = 1 from by kernel_rfl] at f1
  replace f1 : Of Tryz.prog 9 [c1] := f1
  obtain ⟨zTo, q1, b1⟩ := f1.toStr Tryz.underlying9
  have e1 := (List.cons.inj q1).1
  have f2 : Of Tryz.prog 3 ((([c0, c1, c2] : List AV).drop 2).take (Tryz.prog.cellsOf 3)) := hf 2 _ rfl
  rw [show Tryz.prog.cellsOf 3 = 1 from by kernel_rfl] at f2
  replace f2 : Of Tryz.prog 3 [c2] := f2
  obtain ⟨zDelay, q2, b2⟩ := f2.toI64 Tryz.underlying3
  have e2 := (List.cons.inj q2).1
  subst e0 e1 e2
  exact ⟨zFrom, zTo, zDelay, rfl, b0, b1, b2⟩
theorem bytes_3 : Tryz.prog.bytesOf 3 = 8 := by kernel_rfl
theorem bytes_9 : Tryz.prog.bytesOf 9 = 16 := by kernel_rfl
theorem bytes_42 : Tryz.prog.bytesOf 42 = 304 := by kernel_rfl
theorem bytes_49 : Tryz.prog.bytesOf 49 = 40 := by kernel_rfl
theorem bytes_54 : Tryz.prog.bytesOf 54 = 40 := by kernel_rfl
theorem bytes_57 : Tryz.prog.bytesOf 57 = 48 := by kernel_rfl
theorem bytes_69 : Tryz.prog.bytesOf 69 = 32 := by kernel_rfl
theorem bytes_79 : Tryz.prog.bytesOf 79 = 88 := by kernel_rfl
theorem bytes_92 : Tryz.prog.bytesOf 92 = 232 := by kernel_rfl
theorem bytes_95 : Tryz.prog.bytesOf 95 = 32 := by kernel_rfl
theorem bytes_97 : Tryz.prog.bytesOf 97 = 32 := by kernel_rfl
theorem bytes_103 : Tryz.prog.bytesOf 103 = 24 := by kernel_rfl
theorem bytes_105 : Tryz.prog.bytesOf 105 = 64 := by kernel_rfl
theorem bytes_159 : Tryz.prog.bytesOf 159 = 16 := by kernel_rfl
theorem bytes_179 : Tryz.prog.bytesOf 179 = 56 := by kernel_rfl
theorem bytes_181 : Tryz.prog.bytesOf 181 = 312 := by kernel_rfl
end Go.Proofs.YtlmfmmclnboglaaGreat
