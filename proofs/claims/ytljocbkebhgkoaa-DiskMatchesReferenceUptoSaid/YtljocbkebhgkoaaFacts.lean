/-
  THE FACTS ON THE TYPES OF THIS SEAT that the walks use, printed by a program (facts.py). Conditions: none.
-/
import Derived.Test.YtljocbkebhgkoaaAbs10
set_option linter.unusedVariables false
set_option linter.unusedSimpArgs false
namespace Go.Proofs.Ytljocbkebhgkoaa
open Go.Abs

theorem zo2 : ZeroOf Try.prog 2 [.pv (.int .i64 0)] := ⟨_, _, Try.zeroValue2, .inl rfl, rfl⟩
theorem zo3 : ZeroOf Try.prog 3 [.pv (.int .i64 0)] := ⟨_, _, Try.zeroValue3, .inl rfl, rfl⟩
theorem zo4 : ZeroOf Try.prog 4 [.pv (.bool false)] := ⟨_, _, Try.zeroValue4, .inl rfl, rfl⟩
theorem zo5 : ZeroOf Try.prog 5 [.pv (.int .u8 0)] := ⟨_, _, Try.zeroValue5, .inl rfl, rfl⟩
theorem zo6 : ZeroOf Try.prog 6 [.pv (.int .u8 0)] := ⟨_, _, Try.zeroValue6, .inl rfl, rfl⟩
theorem zo7 : ZeroOf Try.prog 7 [.pv (.int .i64 0), .pv (.int .i64 0), .pv (.bool false), .pv (.int .u8 0)] := ⟨_, _, Try.zeroValue7, .inl rfl, rfl⟩
theorem fo7_0 : FieldOf Try.prog 7 0 0 := by
  refine ⟨_, _, 0, Try.underlying7, rfl, rfl, ?_⟩
  exact Try.sizeOf2
theorem fv7_0 : FieldV1 Try.prog 7 0 0 := by
  refine ⟨_, _, Try.underlying7, rfl, rfl, ?_⟩
  exact Try.isAgg2
theorem fo7_1 : FieldOf Try.prog 7 1 1 := by
  refine ⟨_, _, 0, Try.underlying7, rfl, rfl, ?_⟩
  exact Try.sizeOf3
theorem fv7_1 : FieldV1 Try.prog 7 1 1 := by
  refine ⟨_, _, Try.underlying7, rfl, rfl, ?_⟩
  exact Try.isAgg3
theorem fo7_2 : FieldOf Try.prog 7 2 2 := by
  refine ⟨_, _, 0, Try.underlying7, rfl, rfl, ?_⟩
  exact Try.sizeOf4
theorem fv7_2 : FieldV1 Try.prog 7 2 2 := by
  refine ⟨_, _, Try.underlying7, rfl, rfl, ?_⟩
  exact Try.isAgg4
theorem fo7_3 : FieldOf Try.prog 7 3 3 := by
  refine ⟨_, _, 0, Try.underlying7, rfl, rfl, ?_⟩
  exact Try.sizeOf6
theorem fv7_3 : FieldV1 Try.prog 7 3 3 := by
  refine ⟨_, _, Try.underlying7, rfl, rfl, ?_⟩
  exact Try.isAgg6
theorem bo7 : BuildOf Try.prog 7 [(0, 1), (1, 1), (2, 1), (3, 1)] [.pv (.int .i64 0), .pv (.int .i64 0), .pv (.bool false), .pv (.int .u8 0)] := ⟨_, #[(0, 1), (1, 1), (2, 1), (3, 1)], _, _, Try.underlying7, Try.zeroValue7, .inl rfl, rfl, fun w => by simp [Try.sizeOf2, Try.sizeOf3, Try.sizeOf4, Try.sizeOf6], rfl⟩
theorem zo8 : ZeroOf Try.prog 8 [.pv (.int .i64 0), .pv (.int .i64 0), .pv (.bool false), .pv (.int .u8 0)] := ⟨_, _, Try.zeroValue8, .inl rfl, rfl⟩
theorem fo8_0 : FieldOf Try.prog 8 0 0 := by
  refine ⟨_, _, 0, Try.underlying8, rfl, rfl, ?_⟩
  exact Try.sizeOf2
theorem fv8_0 : FieldV1 Try.prog 8 0 0 := by
  refine ⟨_, _, Try.underlying8, rfl, rfl, ?_⟩
  exact Try.isAgg2
theorem fo8_1 : FieldOf Try.prog 8 1 1 := by
  refine ⟨_, _, 0, Try.underlying8, rfl, rfl, ?_⟩
  exact Try.sizeOf3
theorem fv8_1 : FieldV1 Try.prog 8 1 1 := by
  refine ⟨_, _, Try.underlying8, rfl, rfl, ?_⟩
  exact Try.isAgg3
theorem fo8_2 : FieldOf Try.prog 8 2 2 := by
  refine ⟨_, _, 0, Try.underlying8, rfl, rfl, ?_⟩
  exact Try.sizeOf4
theorem fv8_2 : FieldV1 Try.prog 8 2 2 := by
  refine ⟨_, _, Try.underlying8, rfl, rfl, ?_⟩
  exact Try.isAgg4
theorem fo8_3 : FieldOf Try.prog 8 3 3 := by
  refine ⟨_, _, 0, Try.underlying8, rfl, rfl, ?_⟩
  exact Try.sizeOf6
theorem fv8_3 : FieldV1 Try.prog 8 3 3 := by
  refine ⟨_, _, Try.underlying8, rfl, rfl, ?_⟩
  exact Try.isAgg6
theorem bo8 : BuildOf Try.prog 8 [(0, 1), (1, 1), (2, 1), (3, 1)] [.pv (.int .i64 0), .pv (.int .i64 0), .pv (.bool false), .pv (.int .u8 0)] := ⟨_, #[(0, 1), (1, 1), (2, 1), (3, 1)], _, _, Try.underlying8, Try.zeroValue8, .inl rfl, rfl, fun w => by simp [Try.sizeOf2, Try.sizeOf3, Try.sizeOf4, Try.sizeOf6], rfl⟩
theorem zo9 : ZeroOf Try.prog 9 [.pv (.str ⟨#[]⟩)] := ⟨_, _, Try.zeroValue9, .inl rfl, rfl⟩
theorem zo10 : ZeroOf Try.prog 10 [.pv (.str ⟨#[]⟩)] := ⟨_, _, Try.zeroValue10, .inl rfl, rfl⟩
theorem zo11 : ZeroOf Try.prog 11 [.pv (.str ⟨#[]⟩)] := ⟨_, _, Try.zeroValue11, .inl rfl, rfl⟩
theorem zo12 : ZeroOf Try.prog 12 [.pv (.int .u64 0)] := ⟨_, _, Try.zeroValue12, .inl rfl, rfl⟩
theorem zo13 : ZeroOf Try.prog 13 [.pv (.str ⟨#[]⟩), .pv (.int .u64 0)] := ⟨_, _, Try.zeroValue13, .inl rfl, rfl⟩
theorem fo13_0 : FieldOf Try.prog 13 0 0 := by
  refine ⟨_, _, 0, Try.underlying13, rfl, rfl, ?_⟩
  exact Try.sizeOf9
theorem fv13_0 : FieldV1 Try.prog 13 0 0 := by
  refine ⟨_, _, Try.underlying13, rfl, rfl, ?_⟩
  exact Try.isAgg9
theorem fo13_1 : FieldOf Try.prog 13 1 1 := by
  refine ⟨_, _, 0, Try.underlying13, rfl, rfl, ?_⟩
  exact Try.sizeOf12
theorem fv13_1 : FieldV1 Try.prog 13 1 1 := by
  refine ⟨_, _, Try.underlying13, rfl, rfl, ?_⟩
  exact Try.isAgg12
theorem bo13 : BuildOf Try.prog 13 [(0, 1), (1, 1)] [.pv (.str ⟨#[]⟩), .pv (.int .u64 0)] := ⟨_, #[(0, 1), (1, 1)], _, _, Try.underlying13, Try.zeroValue13, .inl rfl, rfl, fun w => by simp [Try.sizeOf9, Try.sizeOf12], rfl⟩
theorem zo14 : ZeroOf Try.prog 14 [.pv (.str ⟨#[]⟩), .pv (.int .u64 0)] := ⟨_, _, Try.zeroValue14, .inl rfl, rfl⟩
theorem fo14_0 : FieldOf Try.prog 14 0 0 := by
  refine ⟨_, _, 0, Try.underlying14, rfl, rfl, ?_⟩
  exact Try.sizeOf9
theorem fv14_0 : FieldV1 Try.prog 14 0 0 := by
  refine ⟨_, _, Try.underlying14, rfl, rfl, ?_⟩
  exact Try.isAgg9
theorem fo14_1 : FieldOf Try.prog 14 1 1 := by
  refine ⟨_, _, 0, Try.underlying14, rfl, rfl, ?_⟩
  exact Try.sizeOf12
theorem fv14_1 : FieldV1 Try.prog 14 1 1 := by
  refine ⟨_, _, Try.underlying14, rfl, rfl, ?_⟩
  exact Try.isAgg12
theorem bo14 : BuildOf Try.prog 14 [(0, 1), (1, 1)] [.pv (.str ⟨#[]⟩), .pv (.int .u64 0)] := ⟨_, #[(0, 1), (1, 1)], _, _, Try.underlying14, Try.zeroValue14, .inl rfl, rfl, fun w => by simp [Try.sizeOf9, Try.sizeOf12], rfl⟩
theorem zo15 : ZeroOf Try.prog 15 [.pv .nilp] := ⟨_, _, Try.zeroValue15, .inl rfl, rfl⟩
theorem zo16 : ZeroOf Try.prog 16 [.pv .nilp] := ⟨_, _, Try.zeroValue16, .inl rfl, rfl⟩
theorem zo17 : ZeroOf Try.prog 17 [.pv .nilp] := ⟨_, _, Try.zeroValue17, .inl rfl, rfl⟩
theorem zo18 : ZeroOf Try.prog 18 [.pv .nilp] := ⟨_, _, Try.zeroValue18, .inl rfl, rfl⟩
theorem fo18_0 : FieldOf Try.prog 18 0 0 := by
  refine ⟨_, _, 0, Try.underlying18, rfl, rfl, ?_⟩
  exact Try.sizeOf17
theorem fv18_0 : FieldV1 Try.prog 18 0 0 := by
  refine ⟨_, _, Try.underlying18, rfl, rfl, ?_⟩
  exact Try.isAgg17
theorem bo18 : BuildOf Try.prog 18 [(0, 1)] [.pv .nilp] := ⟨_, #[(0, 1)], _, _, Try.underlying18, Try.zeroValue18, .inl rfl, rfl, fun w => by simp [Try.sizeOf17], rfl⟩
theorem zo19 : ZeroOf Try.prog 19 [.pv .nilp] := ⟨_, _, Try.zeroValue19, .inl rfl, rfl⟩
theorem fo19_0 : FieldOf Try.prog 19 0 0 := by
  refine ⟨_, _, 0, Try.underlying19, rfl, rfl, ?_⟩
  exact Try.sizeOf17
theorem fv19_0 : FieldV1 Try.prog 19 0 0 := by
  refine ⟨_, _, Try.underlying19, rfl, rfl, ?_⟩
  exact Try.isAgg17
theorem bo19 : BuildOf Try.prog 19 [(0, 1)] [.pv .nilp] := ⟨_, #[(0, 1)], _, _, Try.underlying19, Try.zeroValue19, .inl rfl, rfl, fun w => by simp [Try.sizeOf17], rfl⟩
theorem zo21 : ZeroOf Try.prog 21 [.pv (.int .i32 0)] := ⟨_, _, Try.zeroValue21, .inl rfl, rfl⟩
theorem zo22 : ZeroOf Try.prog 22 [.pv (.sl [])] := ⟨_, _, Try.zeroValue22, .inl rfl, rfl⟩
theorem zoN22 : ZeroOf Try.prog 22 [.pv .nils] := ⟨_, _, Try.zeroValue22, .inr rfl, rfl⟩
theorem so22 : SliceOf Try.prog 22 37 6 := ⟨Try.underlying22, Try.sizeOf37, by decide, _, Try.zeroValue37⟩
theorem ei37 : EI Try.prog 37 6 88 := EI.mk (z := (Value.agg #[(Value.string ⟨#[]⟩), (Value.int IntKind.i64 (0)), (Value.int IntKind.i64 (0)), (Value.int IntKind.i64 (0)), (Value.slice none (0) (0)), (Value.slice none (0) (0))])) (by kernel_rfl) rfl (by decide) (by decide)
theorem zo23 : ZeroOf Try.prog 23 [.pv (.sl [])] := ⟨_, _, Try.zeroValue23, .inl rfl, rfl⟩
theorem zoN23 : ZeroOf Try.prog 23 [.pv .nils] := ⟨_, _, Try.zeroValue23, .inr rfl, rfl⟩
theorem fo23_0 : FieldOf Try.prog 23 0 0 := by
  refine ⟨_, _, 0, Try.underlying23, rfl, rfl, ?_⟩
  exact Try.sizeOf22
theorem fv23_0 : FieldV1 Try.prog 23 0 0 := by
  refine ⟨_, _, Try.underlying23, rfl, rfl, ?_⟩
  exact Try.isAgg22
theorem bo23 : BuildOf Try.prog 23 [(0, 1)] [.pv (.sl [])] := ⟨_, #[(0, 1)], _, _, Try.underlying23, Try.zeroValue23, .inl rfl, rfl, fun w => by simp [Try.sizeOf22], rfl⟩
theorem boN23 : BuildOf Try.prog 23 [(0, 1)] [.pv .nils] := ⟨_, #[(0, 1)], _, _, Try.underlying23, Try.zeroValue23, .inr rfl, rfl, fun w => by simp [Try.sizeOf22], rfl⟩
theorem zo24 : ZeroOf Try.prog 24 [.pv (.sl [])] := ⟨_, _, Try.zeroValue24, .inl rfl, rfl⟩
theorem zoN24 : ZeroOf Try.prog 24 [.pv .nils] := ⟨_, _, Try.zeroValue24, .inr rfl, rfl⟩
theorem fo24_0 : FieldOf Try.prog 24 0 0 := by
  refine ⟨_, _, 0, Try.underlying24, rfl, rfl, ?_⟩
  exact Try.sizeOf22
theorem fv24_0 : FieldV1 Try.prog 24 0 0 := by
  refine ⟨_, _, Try.underlying24, rfl, rfl, ?_⟩
  exact Try.isAgg22
theorem bo24 : BuildOf Try.prog 24 [(0, 1)] [.pv (.sl [])] := ⟨_, #[(0, 1)], _, _, Try.underlying24, Try.zeroValue24, .inl rfl, rfl, fun w => by simp [Try.sizeOf22], rfl⟩
theorem boN24 : BuildOf Try.prog 24 [(0, 1)] [.pv .nils] := ⟨_, #[(0, 1)], _, _, Try.underlying24, Try.zeroValue24, .inr rfl, rfl, fun w => by simp [Try.sizeOf22], rfl⟩
theorem zo25 : ZeroOf Try.prog 25 [.pv (.sl [])] := ⟨_, _, Try.zeroValue25, .inl rfl, rfl⟩
theorem zoN25 : ZeroOf Try.prog 25 [.pv .nils] := ⟨_, _, Try.zeroValue25, .inr rfl, rfl⟩
theorem so25 : SliceOf Try.prog 25 39 15 := ⟨Try.underlying25, Try.sizeOf39, by decide, _, Try.zeroValue39⟩
theorem ei39 : EI Try.prog 39 15 216 := EI.mk (z := (Value.agg #[(Value.int IntKind.i64 (0)), (Value.string ⟨#[]⟩), (Value.string ⟨#[]⟩), (Value.string ⟨#[]⟩), (Value.int IntKind.i64 (0)), (Value.int IntKind.i64 (0)), (Value.string ⟨#[]⟩), (Value.string ⟨#[]⟩), (Value.slice none (0) (0)), (Value.string ⟨#[]⟩), (Value.int IntKind.i64 (0)), (Value.int IntKind.i64 (0)), (Value.int IntKind.i64 (0)), (Value.slice none (0) (0)), (Value.slice none (0) (0))])) (by kernel_rfl) rfl (by decide) (by decide)
theorem zo26 : ZeroOf Try.prog 26 [.pv (.sl [])] := ⟨_, _, Try.zeroValue26, .inl rfl, rfl⟩
theorem zoN26 : ZeroOf Try.prog 26 [.pv .nils] := ⟨_, _, Try.zeroValue26, .inr rfl, rfl⟩
theorem so26 : SliceOf Try.prog 26 3 1 := ⟨Try.underlying26, Try.sizeOf3, by decide, _, Try.zeroValue3⟩
theorem ei3 : EI Try.prog 3 1 8 := EI.mk (z := (Value.int IntKind.i64 (0))) (by kernel_rfl) rfl (by decide) (by decide)
theorem zo27 : ZeroOf Try.prog 27 [.pv (.int .i64 0), .pv (.sl [])] := ⟨_, _, Try.zeroValue27, .inl rfl, rfl⟩
theorem zoN27 : ZeroOf Try.prog 27 [.pv (.int .i64 0), .pv .nils] := ⟨_, _, Try.zeroValue27, .inr rfl, rfl⟩
theorem fo27_0 : FieldOf Try.prog 27 0 0 := by
  refine ⟨_, _, 0, Try.underlying27, rfl, rfl, ?_⟩
  exact Try.sizeOf3
theorem fv27_0 : FieldV1 Try.prog 27 0 0 := by
  refine ⟨_, _, Try.underlying27, rfl, rfl, ?_⟩
  exact Try.isAgg3
theorem fo27_1 : FieldOf Try.prog 27 1 1 := by
  refine ⟨_, _, 0, Try.underlying27, rfl, rfl, ?_⟩
  exact Try.sizeOf26
theorem fv27_1 : FieldV1 Try.prog 27 1 1 := by
  refine ⟨_, _, Try.underlying27, rfl, rfl, ?_⟩
  exact Try.isAgg26
theorem bo27 : BuildOf Try.prog 27 [(0, 1), (1, 1)] [.pv (.int .i64 0), .pv (.sl [])] := ⟨_, #[(0, 1), (1, 1)], _, _, Try.underlying27, Try.zeroValue27, .inl rfl, rfl, fun w => by simp [Try.sizeOf3, Try.sizeOf26], rfl⟩
theorem boN27 : BuildOf Try.prog 27 [(0, 1), (1, 1)] [.pv (.int .i64 0), .pv .nils] := ⟨_, #[(0, 1), (1, 1)], _, _, Try.underlying27, Try.zeroValue27, .inr rfl, rfl, fun w => by simp [Try.sizeOf3, Try.sizeOf26], rfl⟩
theorem zo28 : ZeroOf Try.prog 28 [.pv (.int .i64 0), .pv (.sl [])] := ⟨_, _, Try.zeroValue28, .inl rfl, rfl⟩
theorem zoN28 : ZeroOf Try.prog 28 [.pv (.int .i64 0), .pv .nils] := ⟨_, _, Try.zeroValue28, .inr rfl, rfl⟩
theorem fo28_0 : FieldOf Try.prog 28 0 0 := by
  refine ⟨_, _, 0, Try.underlying28, rfl, rfl, ?_⟩
  exact Try.sizeOf3
theorem fv28_0 : FieldV1 Try.prog 28 0 0 := by
  refine ⟨_, _, Try.underlying28, rfl, rfl, ?_⟩
  exact Try.isAgg3
theorem fo28_1 : FieldOf Try.prog 28 1 1 := by
  refine ⟨_, _, 0, Try.underlying28, rfl, rfl, ?_⟩
  exact Try.sizeOf26
theorem fv28_1 : FieldV1 Try.prog 28 1 1 := by
  refine ⟨_, _, Try.underlying28, rfl, rfl, ?_⟩
  exact Try.isAgg26
theorem bo28 : BuildOf Try.prog 28 [(0, 1), (1, 1)] [.pv (.int .i64 0), .pv (.sl [])] := ⟨_, #[(0, 1), (1, 1)], _, _, Try.underlying28, Try.zeroValue28, .inl rfl, rfl, fun w => by simp [Try.sizeOf3, Try.sizeOf26], rfl⟩
theorem boN28 : BuildOf Try.prog 28 [(0, 1), (1, 1)] [.pv (.int .i64 0), .pv .nils] := ⟨_, #[(0, 1), (1, 1)], _, _, Try.underlying28, Try.zeroValue28, .inr rfl, rfl, fun w => by simp [Try.sizeOf3, Try.sizeOf26], rfl⟩
theorem zo32 : ZeroOf Try.prog 32 [.pv (.int .i64 0), .pv (.int .i64 0)] := ⟨_, _, Try.zeroValue32, .inl rfl, rfl⟩
theorem fo32_0 : FieldOf Try.prog 32 0 0 := by
  refine ⟨_, _, 0, Try.underlying32, rfl, rfl, ?_⟩
  exact Try.sizeOf3
theorem fv32_0 : FieldV1 Try.prog 32 0 0 := by
  refine ⟨_, _, Try.underlying32, rfl, rfl, ?_⟩
  exact Try.isAgg3
theorem fo32_1 : FieldOf Try.prog 32 1 1 := by
  refine ⟨_, _, 0, Try.underlying32, rfl, rfl, ?_⟩
  exact Try.sizeOf3
theorem fv32_1 : FieldV1 Try.prog 32 1 1 := by
  refine ⟨_, _, Try.underlying32, rfl, rfl, ?_⟩
  exact Try.isAgg3
theorem bo32 : BuildOf Try.prog 32 [(0, 1), (1, 1)] [.pv (.int .i64 0), .pv (.int .i64 0)] := ⟨_, #[(0, 1), (1, 1)], _, _, Try.underlying32, Try.zeroValue32, .inl rfl, rfl, fun w => by simp [Try.sizeOf3], rfl⟩
theorem zo33 : ZeroOf Try.prog 33 [.pv (.int .i64 0), .pv (.int .i64 0)] := ⟨_, _, Try.zeroValue33, .inl rfl, rfl⟩
theorem fo33_0 : FieldOf Try.prog 33 0 0 := by
  refine ⟨_, _, 0, Try.underlying33, rfl, rfl, ?_⟩
  exact Try.sizeOf3
theorem fv33_0 : FieldV1 Try.prog 33 0 0 := by
  refine ⟨_, _, Try.underlying33, rfl, rfl, ?_⟩
  exact Try.isAgg3
theorem fo33_1 : FieldOf Try.prog 33 1 1 := by
  refine ⟨_, _, 0, Try.underlying33, rfl, rfl, ?_⟩
  exact Try.sizeOf3
theorem fv33_1 : FieldV1 Try.prog 33 1 1 := by
  refine ⟨_, _, Try.underlying33, rfl, rfl, ?_⟩
  exact Try.isAgg3
theorem bo33 : BuildOf Try.prog 33 [(0, 1), (1, 1)] [.pv (.int .i64 0), .pv (.int .i64 0)] := ⟨_, #[(0, 1), (1, 1)], _, _, Try.underlying33, Try.zeroValue33, .inl rfl, rfl, fun w => by simp [Try.sizeOf3], rfl⟩
theorem se33 (a0 b0 : Int) (a1 b1 : Int) (w : World) : (Op.equalIn 10000 33 (.agg [.int .i64 a0, .int .i64 a1].toArray) (.agg [.int .i64 b0, .int .i64 b1].toArray)).run Try.prog w = .ok (decide (a0 = b0) && decide (a1 = b1)) w := by
  refine (run_equalIn_struct (P := Try.prog) w 9999 33 _ _ (by simp [Program.fieldsOf, Try.underlying33]) Try.stoodInHeld33).trans ?_
  have h3 : ∀ (d : Nat) (a b : Int) (w : World), (Op.equalIn (d + 1) 3 (.int .i64 a) (.int .i64 b)).run Try.prog w = .ok (decide (a = b)) w := fun d a b w => by rw [run_equalIn_int w d 3 _ _ a b Try.underlying3]; by_cases h : a = b <;> simp [h]
  by_cases e0 : a0 = b0 <;> by_cases e1 : a1 = b1 <;> simp [Program.fieldsOf, Try.underlying33, Op.eqFields, part, h3, Try.isAgg3, e0, e1]
theorem zo34 : ZeroOf Try.prog 34 [.pv (.sl [])] := ⟨_, _, Try.zeroValue34, .inl rfl, rfl⟩
theorem zoN34 : ZeroOf Try.prog 34 [.pv .nils] := ⟨_, _, Try.zeroValue34, .inr rfl, rfl⟩
theorem so34 : SliceOf Try.prog 34 9 1 := ⟨Try.underlying34, Try.sizeOf9, by decide, _, Try.zeroValue9⟩
theorem ei9 : EI Try.prog 9 1 16 := EI.mk (z := (Value.string ⟨#[]⟩)) (by kernel_rfl) rfl (by decide) (by decide)
theorem zo35 : ZeroOf Try.prog 35 [.pv (.sl [])] := ⟨_, _, Try.zeroValue35, .inl rfl, rfl⟩
theorem zoN35 : ZeroOf Try.prog 35 [.pv .nils] := ⟨_, _, Try.zeroValue35, .inr rfl, rfl⟩
theorem so35 : SliceOf Try.prog 35 114 2 := ⟨Try.underlying35, Try.sizeOf114, by decide, _, Try.zeroValue114⟩
theorem ei114 : EI Try.prog 114 2 32 := EI.mk (z := (Value.agg #[(Value.string ⟨#[]⟩), (Value.string ⟨#[]⟩)])) (by kernel_rfl) rfl (by decide) (by decide)
theorem zo36 : ZeroOf Try.prog 36 [.pv (.str ⟨#[]⟩), .pv (.int .i64 0), .pv (.int .i64 0), .pv (.int .i64 0), .pv (.sl []), .pv (.sl [])] := ⟨_, _, Try.zeroValue36, .inl rfl, rfl⟩
theorem zoN36 : ZeroOf Try.prog 36 [.pv (.str ⟨#[]⟩), .pv (.int .i64 0), .pv (.int .i64 0), .pv (.int .i64 0), .pv .nils, .pv .nils] := ⟨_, _, Try.zeroValue36, .inr rfl, rfl⟩
theorem fo36_0 : FieldOf Try.prog 36 0 0 := by
  refine ⟨_, _, 0, Try.underlying36, rfl, rfl, ?_⟩
  exact Try.sizeOf9
theorem fv36_0 : FieldV1 Try.prog 36 0 0 := by
  refine ⟨_, _, Try.underlying36, rfl, rfl, ?_⟩
  exact Try.isAgg9
theorem fo36_1 : FieldOf Try.prog 36 1 1 := by
  refine ⟨_, _, 0, Try.underlying36, rfl, rfl, ?_⟩
  exact Try.sizeOf3
theorem fv36_1 : FieldV1 Try.prog 36 1 1 := by
  refine ⟨_, _, Try.underlying36, rfl, rfl, ?_⟩
  exact Try.isAgg3
theorem fo36_2 : FieldOf Try.prog 36 2 2 := by
  refine ⟨_, _, 1, Try.underlying36, rfl, rfl, ?_⟩
  exact Try.sizeOf33
theorem fv36_2 : FieldVn Try.prog 36 2 2 2 := by
  refine ⟨_, _, Try.underlying36, rfl, rfl, ?_, ?_, by decide⟩
  · exact Try.isAgg33
  · exact Try.sizeOf33
theorem fo36_3 : FieldOf Try.prog 36 3 4 := by
  refine ⟨_, _, 0, Try.underlying36, rfl, rfl, ?_⟩
  exact Try.sizeOf34
theorem fv36_3 : FieldV1 Try.prog 36 3 4 := by
  refine ⟨_, _, Try.underlying36, rfl, rfl, ?_⟩
  exact Try.isAgg34
theorem fo36_4 : FieldOf Try.prog 36 4 5 := by
  refine ⟨_, _, 0, Try.underlying36, rfl, rfl, ?_⟩
  exact Try.sizeOf35
theorem fv36_4 : FieldV1 Try.prog 36 4 5 := by
  refine ⟨_, _, Try.underlying36, rfl, rfl, ?_⟩
  exact Try.isAgg35
theorem bo36 : BuildOf Try.prog 36 [(0, 1), (1, 1), (2, 2), (4, 1), (5, 1)] [.pv (.str ⟨#[]⟩), .pv (.int .i64 0), .pv (.int .i64 0), .pv (.int .i64 0), .pv (.sl []), .pv (.sl [])] := ⟨_, #[(0, 1), (1, 1), (2, 2), (4, 1), (5, 1)], _, _, Try.underlying36, Try.zeroValue36, .inl rfl, rfl, fun w => by simp [Try.sizeOf3, Try.sizeOf9, Try.sizeOf33, Try.sizeOf34, Try.sizeOf35], rfl⟩
theorem boN36 : BuildOf Try.prog 36 [(0, 1), (1, 1), (2, 2), (4, 1), (5, 1)] [.pv (.str ⟨#[]⟩), .pv (.int .i64 0), .pv (.int .i64 0), .pv (.int .i64 0), .pv .nils, .pv .nils] := ⟨_, #[(0, 1), (1, 1), (2, 2), (4, 1), (5, 1)], _, _, Try.underlying36, Try.zeroValue36, .inr rfl, rfl, fun w => by simp [Try.sizeOf3, Try.sizeOf9, Try.sizeOf33, Try.sizeOf34, Try.sizeOf35], rfl⟩
theorem zo37 : ZeroOf Try.prog 37 [.pv (.str ⟨#[]⟩), .pv (.int .i64 0), .pv (.int .i64 0), .pv (.int .i64 0), .pv (.sl []), .pv (.sl [])] := ⟨_, _, Try.zeroValue37, .inl rfl, rfl⟩
theorem zoN37 : ZeroOf Try.prog 37 [.pv (.str ⟨#[]⟩), .pv (.int .i64 0), .pv (.int .i64 0), .pv (.int .i64 0), .pv .nils, .pv .nils] := ⟨_, _, Try.zeroValue37, .inr rfl, rfl⟩
theorem fo37_0 : FieldOf Try.prog 37 0 0 := by
  refine ⟨_, _, 0, Try.underlying37, rfl, rfl, ?_⟩
  exact Try.sizeOf9
theorem fv37_0 : FieldV1 Try.prog 37 0 0 := by
  refine ⟨_, _, Try.underlying37, rfl, rfl, ?_⟩
  exact Try.isAgg9
theorem fo37_1 : FieldOf Try.prog 37 1 1 := by
  refine ⟨_, _, 0, Try.underlying37, rfl, rfl, ?_⟩
  exact Try.sizeOf3
theorem fv37_1 : FieldV1 Try.prog 37 1 1 := by
  refine ⟨_, _, Try.underlying37, rfl, rfl, ?_⟩
  exact Try.isAgg3
theorem fo37_2 : FieldOf Try.prog 37 2 2 := by
  refine ⟨_, _, 1, Try.underlying37, rfl, rfl, ?_⟩
  exact Try.sizeOf33
theorem fv37_2 : FieldVn Try.prog 37 2 2 2 := by
  refine ⟨_, _, Try.underlying37, rfl, rfl, ?_, ?_, by decide⟩
  · exact Try.isAgg33
  · exact Try.sizeOf33
theorem fo37_3 : FieldOf Try.prog 37 3 4 := by
  refine ⟨_, _, 0, Try.underlying37, rfl, rfl, ?_⟩
  exact Try.sizeOf34
theorem fv37_3 : FieldV1 Try.prog 37 3 4 := by
  refine ⟨_, _, Try.underlying37, rfl, rfl, ?_⟩
  exact Try.isAgg34
theorem fo37_4 : FieldOf Try.prog 37 4 5 := by
  refine ⟨_, _, 0, Try.underlying37, rfl, rfl, ?_⟩
  exact Try.sizeOf35
theorem fv37_4 : FieldV1 Try.prog 37 4 5 := by
  refine ⟨_, _, Try.underlying37, rfl, rfl, ?_⟩
  exact Try.isAgg35
theorem bo37 : BuildOf Try.prog 37 [(0, 1), (1, 1), (2, 2), (4, 1), (5, 1)] [.pv (.str ⟨#[]⟩), .pv (.int .i64 0), .pv (.int .i64 0), .pv (.int .i64 0), .pv (.sl []), .pv (.sl [])] := ⟨_, #[(0, 1), (1, 1), (2, 2), (4, 1), (5, 1)], _, _, Try.underlying37, Try.zeroValue37, .inl rfl, rfl, fun w => by simp [Try.sizeOf3, Try.sizeOf9, Try.sizeOf33, Try.sizeOf34, Try.sizeOf35], rfl⟩
theorem boN37 : BuildOf Try.prog 37 [(0, 1), (1, 1), (2, 2), (4, 1), (5, 1)] [.pv (.str ⟨#[]⟩), .pv (.int .i64 0), .pv (.int .i64 0), .pv (.int .i64 0), .pv .nils, .pv .nils] := ⟨_, #[(0, 1), (1, 1), (2, 2), (4, 1), (5, 1)], _, _, Try.underlying37, Try.zeroValue37, .inr rfl, rfl, fun w => by simp [Try.sizeOf3, Try.sizeOf9, Try.sizeOf33, Try.sizeOf34, Try.sizeOf35], rfl⟩
theorem zo38 : ZeroOf Try.prog 38 [.pv (.int .i64 0), .pv (.str ⟨#[]⟩), .pv (.str ⟨#[]⟩), .pv (.str ⟨#[]⟩), .pv (.int .i64 0), .pv (.int .i64 0), .pv (.str ⟨#[]⟩), .pv (.str ⟨#[]⟩), .pv (.sl []), .pv (.str ⟨#[]⟩), .pv (.int .i64 0), .pv (.int .i64 0), .pv (.int .i64 0), .pv (.sl []), .pv (.sl [])] := ⟨_, _, Try.zeroValue38, .inl rfl, rfl⟩
theorem zoN38 : ZeroOf Try.prog 38 [.pv (.int .i64 0), .pv (.str ⟨#[]⟩), .pv (.str ⟨#[]⟩), .pv (.str ⟨#[]⟩), .pv (.int .i64 0), .pv (.int .i64 0), .pv (.str ⟨#[]⟩), .pv (.str ⟨#[]⟩), .pv .nils, .pv (.str ⟨#[]⟩), .pv (.int .i64 0), .pv (.int .i64 0), .pv (.int .i64 0), .pv .nils, .pv .nils] := ⟨_, _, Try.zeroValue38, .inr rfl, rfl⟩
theorem fo38_0 : FieldOf Try.prog 38 0 0 := by
  refine ⟨_, _, 0, Try.underlying38, rfl, rfl, ?_⟩
  exact Try.sizeOf3
theorem fv38_0 : FieldV1 Try.prog 38 0 0 := by
  refine ⟨_, _, Try.underlying38, rfl, rfl, ?_⟩
  exact Try.isAgg3
theorem fo38_1 : FieldOf Try.prog 38 1 1 := by
  refine ⟨_, _, 0, Try.underlying38, rfl, rfl, ?_⟩
  exact Try.sizeOf9
theorem fv38_1 : FieldV1 Try.prog 38 1 1 := by
  refine ⟨_, _, Try.underlying38, rfl, rfl, ?_⟩
  exact Try.isAgg9
theorem fo38_2 : FieldOf Try.prog 38 2 2 := by
  refine ⟨_, _, 0, Try.underlying38, rfl, rfl, ?_⟩
  exact Try.sizeOf9
theorem fv38_2 : FieldV1 Try.prog 38 2 2 := by
  refine ⟨_, _, Try.underlying38, rfl, rfl, ?_⟩
  exact Try.isAgg9
theorem fo38_3 : FieldOf Try.prog 38 3 3 := by
  refine ⟨_, _, 0, Try.underlying38, rfl, rfl, ?_⟩
  exact Try.sizeOf9
theorem fv38_3 : FieldV1 Try.prog 38 3 3 := by
  refine ⟨_, _, Try.underlying38, rfl, rfl, ?_⟩
  exact Try.isAgg9
theorem fo38_4 : FieldOf Try.prog 38 4 4 := by
  refine ⟨_, _, 1, Try.underlying38, rfl, rfl, ?_⟩
  exact Try.sizeOf33
theorem fv38_4 : FieldVn Try.prog 38 4 4 2 := by
  refine ⟨_, _, Try.underlying38, rfl, rfl, ?_, ?_, by decide⟩
  · exact Try.isAgg33
  · exact Try.sizeOf33
theorem fo38_5 : FieldOf Try.prog 38 5 6 := by
  refine ⟨_, _, 0, Try.underlying38, rfl, rfl, ?_⟩
  exact Try.sizeOf9
theorem fv38_5 : FieldV1 Try.prog 38 5 6 := by
  refine ⟨_, _, Try.underlying38, rfl, rfl, ?_⟩
  exact Try.isAgg9
theorem fo38_6 : FieldOf Try.prog 38 6 7 := by
  refine ⟨_, _, 0, Try.underlying38, rfl, rfl, ?_⟩
  exact Try.sizeOf9
theorem fv38_6 : FieldV1 Try.prog 38 6 7 := by
  refine ⟨_, _, Try.underlying38, rfl, rfl, ?_⟩
  exact Try.isAgg9
theorem fo38_7 : FieldOf Try.prog 38 7 8 := by
  refine ⟨_, _, 0, Try.underlying38, rfl, rfl, ?_⟩
  exact Try.sizeOf34
theorem fv38_7 : FieldV1 Try.prog 38 7 8 := by
  refine ⟨_, _, Try.underlying38, rfl, rfl, ?_⟩
  exact Try.isAgg34
theorem fo38_8 : FieldOf Try.prog 38 8 9 := by
  refine ⟨_, _, 5, Try.underlying38, rfl, rfl, ?_⟩
  exact Try.sizeOf37
theorem fv38_8 : FieldVn Try.prog 38 8 9 6 := by
  refine ⟨_, _, Try.underlying38, rfl, rfl, ?_, ?_, by decide⟩
  · exact Try.isAgg37
  · exact Try.sizeOf37
theorem bo38 : BuildOf Try.prog 38 [(0, 1), (1, 1), (2, 1), (3, 1), (4, 2), (6, 1), (7, 1), (8, 1), (9, 6)] [.pv (.int .i64 0), .pv (.str ⟨#[]⟩), .pv (.str ⟨#[]⟩), .pv (.str ⟨#[]⟩), .pv (.int .i64 0), .pv (.int .i64 0), .pv (.str ⟨#[]⟩), .pv (.str ⟨#[]⟩), .pv (.sl []), .pv (.str ⟨#[]⟩), .pv (.int .i64 0), .pv (.int .i64 0), .pv (.int .i64 0), .pv (.sl []), .pv (.sl [])] := ⟨_, #[(0, 1), (1, 1), (2, 1), (3, 1), (4, 2), (6, 1), (7, 1), (8, 1), (9, 6)], _, _, Try.underlying38, Try.zeroValue38, .inl rfl, rfl, fun w => by simp [Try.sizeOf3, Try.sizeOf9, Try.sizeOf33, Try.sizeOf34, Try.sizeOf37], rfl⟩
theorem boN38 : BuildOf Try.prog 38 [(0, 1), (1, 1), (2, 1), (3, 1), (4, 2), (6, 1), (7, 1), (8, 1), (9, 6)] [.pv (.int .i64 0), .pv (.str ⟨#[]⟩), .pv (.str ⟨#[]⟩), .pv (.str ⟨#[]⟩), .pv (.int .i64 0), .pv (.int .i64 0), .pv (.str ⟨#[]⟩), .pv (.str ⟨#[]⟩), .pv .nils, .pv (.str ⟨#[]⟩), .pv (.int .i64 0), .pv (.int .i64 0), .pv (.int .i64 0), .pv .nils, .pv .nils] := ⟨_, #[(0, 1), (1, 1), (2, 1), (3, 1), (4, 2), (6, 1), (7, 1), (8, 1), (9, 6)], _, _, Try.underlying38, Try.zeroValue38, .inr rfl, rfl, fun w => by simp [Try.sizeOf3, Try.sizeOf9, Try.sizeOf33, Try.sizeOf34, Try.sizeOf37], rfl⟩
theorem zo39 : ZeroOf Try.prog 39 [.pv (.int .i64 0), .pv (.str ⟨#[]⟩), .pv (.str ⟨#[]⟩), .pv (.str ⟨#[]⟩), .pv (.int .i64 0), .pv (.int .i64 0), .pv (.str ⟨#[]⟩), .pv (.str ⟨#[]⟩), .pv (.sl []), .pv (.str ⟨#[]⟩), .pv (.int .i64 0), .pv (.int .i64 0), .pv (.int .i64 0), .pv (.sl []), .pv (.sl [])] := ⟨_, _, Try.zeroValue39, .inl rfl, rfl⟩
theorem zoN39 : ZeroOf Try.prog 39 [.pv (.int .i64 0), .pv (.str ⟨#[]⟩), .pv (.str ⟨#[]⟩), .pv (.str ⟨#[]⟩), .pv (.int .i64 0), .pv (.int .i64 0), .pv (.str ⟨#[]⟩), .pv (.str ⟨#[]⟩), .pv .nils, .pv (.str ⟨#[]⟩), .pv (.int .i64 0), .pv (.int .i64 0), .pv (.int .i64 0), .pv .nils, .pv .nils] := ⟨_, _, Try.zeroValue39, .inr rfl, rfl⟩
theorem fo39_0 : FieldOf Try.prog 39 0 0 := by
  refine ⟨_, _, 0, Try.underlying39, rfl, rfl, ?_⟩
  exact Try.sizeOf3
theorem fv39_0 : FieldV1 Try.prog 39 0 0 := by
  refine ⟨_, _, Try.underlying39, rfl, rfl, ?_⟩
  exact Try.isAgg3
theorem fo39_1 : FieldOf Try.prog 39 1 1 := by
  refine ⟨_, _, 0, Try.underlying39, rfl, rfl, ?_⟩
  exact Try.sizeOf9
theorem fv39_1 : FieldV1 Try.prog 39 1 1 := by
  refine ⟨_, _, Try.underlying39, rfl, rfl, ?_⟩
  exact Try.isAgg9
theorem fo39_2 : FieldOf Try.prog 39 2 2 := by
  refine ⟨_, _, 0, Try.underlying39, rfl, rfl, ?_⟩
  exact Try.sizeOf9
theorem fv39_2 : FieldV1 Try.prog 39 2 2 := by
  refine ⟨_, _, Try.underlying39, rfl, rfl, ?_⟩
  exact Try.isAgg9
theorem fo39_3 : FieldOf Try.prog 39 3 3 := by
  refine ⟨_, _, 0, Try.underlying39, rfl, rfl, ?_⟩
  exact Try.sizeOf9
theorem fv39_3 : FieldV1 Try.prog 39 3 3 := by
  refine ⟨_, _, Try.underlying39, rfl, rfl, ?_⟩
  exact Try.isAgg9
theorem fo39_4 : FieldOf Try.prog 39 4 4 := by
  refine ⟨_, _, 1, Try.underlying39, rfl, rfl, ?_⟩
  exact Try.sizeOf33
theorem fv39_4 : FieldVn Try.prog 39 4 4 2 := by
  refine ⟨_, _, Try.underlying39, rfl, rfl, ?_, ?_, by decide⟩
  · exact Try.isAgg33
  · exact Try.sizeOf33
theorem fo39_5 : FieldOf Try.prog 39 5 6 := by
  refine ⟨_, _, 0, Try.underlying39, rfl, rfl, ?_⟩
  exact Try.sizeOf9
theorem fv39_5 : FieldV1 Try.prog 39 5 6 := by
  refine ⟨_, _, Try.underlying39, rfl, rfl, ?_⟩
  exact Try.isAgg9
theorem fo39_6 : FieldOf Try.prog 39 6 7 := by
  refine ⟨_, _, 0, Try.underlying39, rfl, rfl, ?_⟩
  exact Try.sizeOf9
theorem fv39_6 : FieldV1 Try.prog 39 6 7 := by
  refine ⟨_, _, Try.underlying39, rfl, rfl, ?_⟩
  exact Try.isAgg9
theorem fo39_7 : FieldOf Try.prog 39 7 8 := by
  refine ⟨_, _, 0, Try.underlying39, rfl, rfl, ?_⟩
  exact Try.sizeOf34
theorem fv39_7 : FieldV1 Try.prog 39 7 8 := by
  refine ⟨_, _, Try.underlying39, rfl, rfl, ?_⟩
  exact Try.isAgg34
theorem fo39_8 : FieldOf Try.prog 39 8 9 := by
  refine ⟨_, _, 5, Try.underlying39, rfl, rfl, ?_⟩
  exact Try.sizeOf37
theorem fv39_8 : FieldVn Try.prog 39 8 9 6 := by
  refine ⟨_, _, Try.underlying39, rfl, rfl, ?_, ?_, by decide⟩
  · exact Try.isAgg37
  · exact Try.sizeOf37
theorem bo39 : BuildOf Try.prog 39 [(0, 1), (1, 1), (2, 1), (3, 1), (4, 2), (6, 1), (7, 1), (8, 1), (9, 6)] [.pv (.int .i64 0), .pv (.str ⟨#[]⟩), .pv (.str ⟨#[]⟩), .pv (.str ⟨#[]⟩), .pv (.int .i64 0), .pv (.int .i64 0), .pv (.str ⟨#[]⟩), .pv (.str ⟨#[]⟩), .pv (.sl []), .pv (.str ⟨#[]⟩), .pv (.int .i64 0), .pv (.int .i64 0), .pv (.int .i64 0), .pv (.sl []), .pv (.sl [])] := ⟨_, #[(0, 1), (1, 1), (2, 1), (3, 1), (4, 2), (6, 1), (7, 1), (8, 1), (9, 6)], _, _, Try.underlying39, Try.zeroValue39, .inl rfl, rfl, fun w => by simp [Try.sizeOf3, Try.sizeOf9, Try.sizeOf33, Try.sizeOf34, Try.sizeOf37], rfl⟩
theorem boN39 : BuildOf Try.prog 39 [(0, 1), (1, 1), (2, 1), (3, 1), (4, 2), (6, 1), (7, 1), (8, 1), (9, 6)] [.pv (.int .i64 0), .pv (.str ⟨#[]⟩), .pv (.str ⟨#[]⟩), .pv (.str ⟨#[]⟩), .pv (.int .i64 0), .pv (.int .i64 0), .pv (.str ⟨#[]⟩), .pv (.str ⟨#[]⟩), .pv .nils, .pv (.str ⟨#[]⟩), .pv (.int .i64 0), .pv (.int .i64 0), .pv (.int .i64 0), .pv .nils, .pv .nils] := ⟨_, #[(0, 1), (1, 1), (2, 1), (3, 1), (4, 2), (6, 1), (7, 1), (8, 1), (9, 6)], _, _, Try.underlying39, Try.zeroValue39, .inr rfl, rfl, fun w => by simp [Try.sizeOf3, Try.sizeOf9, Try.sizeOf33, Try.sizeOf34, Try.sizeOf37], rfl⟩
theorem zo44 : ZeroOf Try.prog 44 [.pv (.sl [])] := ⟨_, _, Try.zeroValue44, .inl rfl, rfl⟩
theorem zoN44 : ZeroOf Try.prog 44 [.pv .nils] := ⟨_, _, Try.zeroValue44, .inr rfl, rfl⟩
theorem so44 : SliceOf Try.prog 44 55 6 := ⟨Try.underlying44, Try.sizeOf55, by decide, _, Try.zeroValue55⟩
theorem ei55 : EI Try.prog 55 6 56 := EI.mk (z := (Value.agg #[(Value.int IntKind.i64 (0)), (Value.int IntKind.i64 (0)), (Value.int IntKind.i64 (0)), (Value.string ⟨#[]⟩), (Value.bool false), (Value.int IntKind.i64 (0))])) (by kernel_rfl) rfl (by decide) (by decide)
theorem zo46 : ZeroOf Try.prog 46 [.pv .nilp] := ⟨_, _, Try.zeroValue46, .inl rfl, rfl⟩
theorem zo49 : ZeroOf Try.prog 49 [.pv .nilp] := ⟨_, _, Try.zeroValue49, .inl rfl, rfl⟩
theorem zo51 : ZeroOf Try.prog 51 [.pv (.int .i64 0)] := ⟨_, _, Try.zeroValue51, .inl rfl, rfl⟩
theorem zo54 : ZeroOf Try.prog 54 [.pv (.int .i64 0), .pv (.int .i64 0), .pv (.int .i64 0), .pv (.str ⟨#[]⟩), .pv (.bool false), .pv (.int .i64 0)] := ⟨_, _, Try.zeroValue54, .inl rfl, rfl⟩
theorem fo54_0 : FieldOf Try.prog 54 0 0 := by
  refine ⟨_, _, 0, Try.underlying54, rfl, rfl, ?_⟩
  exact Try.sizeOf3
theorem fv54_0 : FieldV1 Try.prog 54 0 0 := by
  refine ⟨_, _, Try.underlying54, rfl, rfl, ?_⟩
  exact Try.isAgg3
theorem fo54_1 : FieldOf Try.prog 54 1 1 := by
  refine ⟨_, _, 0, Try.underlying54, rfl, rfl, ?_⟩
  exact Try.sizeOf3
theorem fv54_1 : FieldV1 Try.prog 54 1 1 := by
  refine ⟨_, _, Try.underlying54, rfl, rfl, ?_⟩
  exact Try.isAgg3
theorem fo54_2 : FieldOf Try.prog 54 2 2 := by
  refine ⟨_, _, 0, Try.underlying54, rfl, rfl, ?_⟩
  exact Try.sizeOf3
theorem fv54_2 : FieldV1 Try.prog 54 2 2 := by
  refine ⟨_, _, Try.underlying54, rfl, rfl, ?_⟩
  exact Try.isAgg3
theorem fo54_3 : FieldOf Try.prog 54 3 3 := by
  refine ⟨_, _, 0, Try.underlying54, rfl, rfl, ?_⟩
  exact Try.sizeOf9
theorem fv54_3 : FieldV1 Try.prog 54 3 3 := by
  refine ⟨_, _, Try.underlying54, rfl, rfl, ?_⟩
  exact Try.isAgg9
theorem fo54_4 : FieldOf Try.prog 54 4 4 := by
  refine ⟨_, _, 0, Try.underlying54, rfl, rfl, ?_⟩
  exact Try.sizeOf4
theorem fv54_4 : FieldV1 Try.prog 54 4 4 := by
  refine ⟨_, _, Try.underlying54, rfl, rfl, ?_⟩
  exact Try.isAgg4
theorem fo54_5 : FieldOf Try.prog 54 5 5 := by
  refine ⟨_, _, 0, Try.underlying54, rfl, rfl, ?_⟩
  exact Try.sizeOf3
theorem fv54_5 : FieldV1 Try.prog 54 5 5 := by
  refine ⟨_, _, Try.underlying54, rfl, rfl, ?_⟩
  exact Try.isAgg3
theorem bo54 : BuildOf Try.prog 54 [(0, 1), (1, 1), (2, 1), (3, 1), (4, 1), (5, 1)] [.pv (.int .i64 0), .pv (.int .i64 0), .pv (.int .i64 0), .pv (.str ⟨#[]⟩), .pv (.bool false), .pv (.int .i64 0)] := ⟨_, #[(0, 1), (1, 1), (2, 1), (3, 1), (4, 1), (5, 1)], _, _, Try.underlying54, Try.zeroValue54, .inl rfl, rfl, fun w => by simp [Try.sizeOf3, Try.sizeOf4, Try.sizeOf9], rfl⟩
theorem zo55 : ZeroOf Try.prog 55 [.pv (.int .i64 0), .pv (.int .i64 0), .pv (.int .i64 0), .pv (.str ⟨#[]⟩), .pv (.bool false), .pv (.int .i64 0)] := ⟨_, _, Try.zeroValue55, .inl rfl, rfl⟩
theorem fo55_0 : FieldOf Try.prog 55 0 0 := by
  refine ⟨_, _, 0, Try.underlying55, rfl, rfl, ?_⟩
  exact Try.sizeOf3
theorem fv55_0 : FieldV1 Try.prog 55 0 0 := by
  refine ⟨_, _, Try.underlying55, rfl, rfl, ?_⟩
  exact Try.isAgg3
theorem fo55_1 : FieldOf Try.prog 55 1 1 := by
  refine ⟨_, _, 0, Try.underlying55, rfl, rfl, ?_⟩
  exact Try.sizeOf3
theorem fv55_1 : FieldV1 Try.prog 55 1 1 := by
  refine ⟨_, _, Try.underlying55, rfl, rfl, ?_⟩
  exact Try.isAgg3
theorem fo55_2 : FieldOf Try.prog 55 2 2 := by
  refine ⟨_, _, 0, Try.underlying55, rfl, rfl, ?_⟩
  exact Try.sizeOf3
theorem fv55_2 : FieldV1 Try.prog 55 2 2 := by
  refine ⟨_, _, Try.underlying55, rfl, rfl, ?_⟩
  exact Try.isAgg3
theorem fo55_3 : FieldOf Try.prog 55 3 3 := by
  refine ⟨_, _, 0, Try.underlying55, rfl, rfl, ?_⟩
  exact Try.sizeOf9
theorem fv55_3 : FieldV1 Try.prog 55 3 3 := by
  refine ⟨_, _, Try.underlying55, rfl, rfl, ?_⟩
  exact Try.isAgg9
theorem fo55_4 : FieldOf Try.prog 55 4 4 := by
  refine ⟨_, _, 0, Try.underlying55, rfl, rfl, ?_⟩
  exact Try.sizeOf4
theorem fv55_4 : FieldV1 Try.prog 55 4 4 := by
  refine ⟨_, _, Try.underlying55, rfl, rfl, ?_⟩
  exact Try.isAgg4
theorem fo55_5 : FieldOf Try.prog 55 5 5 := by
  refine ⟨_, _, 0, Try.underlying55, rfl, rfl, ?_⟩
  exact Try.sizeOf3
theorem fv55_5 : FieldV1 Try.prog 55 5 5 := by
  refine ⟨_, _, Try.underlying55, rfl, rfl, ?_⟩
  exact Try.isAgg3
theorem bo55 : BuildOf Try.prog 55 [(0, 1), (1, 1), (2, 1), (3, 1), (4, 1), (5, 1)] [.pv (.int .i64 0), .pv (.int .i64 0), .pv (.int .i64 0), .pv (.str ⟨#[]⟩), .pv (.bool false), .pv (.int .i64 0)] := ⟨_, #[(0, 1), (1, 1), (2, 1), (3, 1), (4, 1), (5, 1)], _, _, Try.underlying55, Try.zeroValue55, .inl rfl, rfl, fun w => by simp [Try.sizeOf3, Try.sizeOf4, Try.sizeOf9], rfl⟩
theorem zo62 : ZeroOf Try.prog 62 [.pv (.sl [])] := ⟨_, _, Try.zeroValue62, .inl rfl, rfl⟩
theorem zoN62 : ZeroOf Try.prog 62 [.pv .nils] := ⟨_, _, Try.zeroValue62, .inr rfl, rfl⟩
theorem so62 : SliceOf Try.prog 62 4 1 := ⟨Try.underlying62, Try.sizeOf4, by decide, _, Try.zeroValue4⟩
theorem ei4 : EI Try.prog 4 1 1 := EI.mk (z := (Value.bool false)) (by kernel_rfl) rfl (by decide) (by decide)
theorem zo81 : ZeroOf Try.prog 81 [.pv (.int .i64 0), .pv .nilfn, .pv .nilfn] := ⟨_, _, Try.zeroValue81, .inl rfl, rfl⟩
theorem fo81_0 : FieldOf Try.prog 81 0 0 := by
  refine ⟨_, _, 0, Try.underlying81, rfl, rfl, ?_⟩
  exact Try.sizeOf3
theorem fv81_0 : FieldV1 Try.prog 81 0 0 := by
  refine ⟨_, _, Try.underlying81, rfl, rfl, ?_⟩
  exact Try.isAgg3
theorem fo81_1 : FieldOf Try.prog 81 1 1 := by
  refine ⟨_, _, 0, Try.underlying81, rfl, rfl, ?_⟩
  exact Try.sizeOf79
theorem fv81_1 : FieldV1 Try.prog 81 1 1 := by
  refine ⟨_, _, Try.underlying81, rfl, rfl, ?_⟩
  exact Try.isAgg79
theorem fo81_2 : FieldOf Try.prog 81 2 2 := by
  refine ⟨_, _, 0, Try.underlying81, rfl, rfl, ?_⟩
  exact Try.sizeOf80
theorem fv81_2 : FieldV1 Try.prog 81 2 2 := by
  refine ⟨_, _, Try.underlying81, rfl, rfl, ?_⟩
  exact Try.isAgg80
theorem bo81 : BuildOf Try.prog 81 [(0, 1), (1, 1), (2, 1)] [.pv (.int .i64 0), .pv .nilfn, .pv .nilfn] := ⟨_, #[(0, 1), (1, 1), (2, 1)], _, _, Try.underlying81, Try.zeroValue81, .inl rfl, rfl, fun w => by simp [Try.sizeOf3, Try.sizeOf79, Try.sizeOf80], rfl⟩
theorem zo82 : ZeroOf Try.prog 82 [.pv (.int .i64 0), .pv .nilfn, .pv .nilfn] := ⟨_, _, Try.zeroValue82, .inl rfl, rfl⟩
theorem fo82_0 : FieldOf Try.prog 82 0 0 := by
  refine ⟨_, _, 0, Try.underlying82, rfl, rfl, ?_⟩
  exact Try.sizeOf3
theorem fv82_0 : FieldV1 Try.prog 82 0 0 := by
  refine ⟨_, _, Try.underlying82, rfl, rfl, ?_⟩
  exact Try.isAgg3
theorem fo82_1 : FieldOf Try.prog 82 1 1 := by
  refine ⟨_, _, 0, Try.underlying82, rfl, rfl, ?_⟩
  exact Try.sizeOf79
theorem fv82_1 : FieldV1 Try.prog 82 1 1 := by
  refine ⟨_, _, Try.underlying82, rfl, rfl, ?_⟩
  exact Try.isAgg79
theorem fo82_2 : FieldOf Try.prog 82 2 2 := by
  refine ⟨_, _, 0, Try.underlying82, rfl, rfl, ?_⟩
  exact Try.sizeOf80
theorem fv82_2 : FieldV1 Try.prog 82 2 2 := by
  refine ⟨_, _, Try.underlying82, rfl, rfl, ?_⟩
  exact Try.isAgg80
theorem bo82 : BuildOf Try.prog 82 [(0, 1), (1, 1), (2, 1)] [.pv (.int .i64 0), .pv .nilfn, .pv .nilfn] := ⟨_, #[(0, 1), (1, 1), (2, 1)], _, _, Try.underlying82, Try.zeroValue82, .inl rfl, rfl, fun w => by simp [Try.sizeOf3, Try.sizeOf79, Try.sizeOf80], rfl⟩
theorem zo83 : ZeroOf Try.prog 83 [.pv (.int .i64 0), .pv .nilfn, .pv .nilfn, .pv (.int .i64 0), .pv .nilfn, .pv .nilfn, .pv (.int .i64 0), .pv .nilfn, .pv .nilfn, .pv (.int .i64 0), .pv .nilfn, .pv .nilfn, .pv (.int .i64 0), .pv .nilfn, .pv .nilfn] := ⟨_, _, Try.zeroValue83, .inl rfl, rfl⟩
theorem ao83 : ArrayOf Try.prog 83 3 [.pv (.int .i64 0), .pv .nilfn, .pv .nilfn, .pv (.int .i64 0), .pv .nilfn, .pv .nilfn, .pv (.int .i64 0), .pv .nilfn, .pv .nilfn, .pv (.int .i64 0), .pv .nilfn, .pv .nilfn, .pv (.int .i64 0), .pv .nilfn, .pv .nilfn] := ⟨_, _, _, _, Try.underlying83, Try.zeroValue83, .inl rfl, rfl, Try.sizeOf82⟩
theorem zo90 : ZeroOf Try.prog 90 [.pv (.sl [])] := ⟨_, _, Try.zeroValue90, .inl rfl, rfl⟩
theorem zoN90 : ZeroOf Try.prog 90 [.pv .nils] := ⟨_, _, Try.zeroValue90, .inr rfl, rfl⟩
theorem so90 : SliceOf Try.prog 90 5 1 := ⟨Try.underlying90, Try.sizeOf5, by decide, _, Try.zeroValue5⟩
theorem ei5 : EI Try.prog 5 1 1 := EI.mk (z := (Value.int IntKind.u8 (0))) (by kernel_rfl) rfl (by decide) (by decide)
theorem zo91 : ZeroOf Try.prog 91 [.pv (.sl [])] := ⟨_, _, Try.zeroValue91, .inl rfl, rfl⟩
theorem zoN91 : ZeroOf Try.prog 91 [.pv .nils] := ⟨_, _, Try.zeroValue91, .inr rfl, rfl⟩
theorem so91 : SliceOf Try.prog 91 104 3 := ⟨Try.underlying91, Try.sizeOf104, by decide, _, Try.zeroValue104⟩
theorem ei104 : EI Try.prog 104 3 32 := EI.mk (z := (Value.agg #[(Value.int IntKind.i64 (0)), (Value.int IntKind.i64 (0)), (Value.string ⟨#[]⟩)])) (by kernel_rfl) rfl (by decide) (by decide)
theorem zo92 : ZeroOf Try.prog 92 [.pv .nilp] := ⟨_, _, Try.zeroValue92, .inl rfl, rfl⟩
theorem zo93 : ZeroOf Try.prog 93 [.pv (.sl []), .pv (.sl []), .pv (.bool false), .pv .nilp] := ⟨_, _, Try.zeroValue93, .inl rfl, rfl⟩
theorem zoN93 : ZeroOf Try.prog 93 [.pv .nils, .pv .nils, .pv (.bool false), .pv .nilp] := ⟨_, _, Try.zeroValue93, .inr rfl, rfl⟩
theorem fo93_0 : FieldOf Try.prog 93 0 0 := by
  refine ⟨_, _, 0, Try.underlying93, rfl, rfl, ?_⟩
  exact Try.sizeOf90
theorem fv93_0 : FieldV1 Try.prog 93 0 0 := by
  refine ⟨_, _, Try.underlying93, rfl, rfl, ?_⟩
  exact Try.isAgg90
theorem fo93_1 : FieldOf Try.prog 93 1 1 := by
  refine ⟨_, _, 0, Try.underlying93, rfl, rfl, ?_⟩
  exact Try.sizeOf91
theorem fv93_1 : FieldV1 Try.prog 93 1 1 := by
  refine ⟨_, _, Try.underlying93, rfl, rfl, ?_⟩
  exact Try.isAgg91
theorem fo93_2 : FieldOf Try.prog 93 2 2 := by
  refine ⟨_, _, 0, Try.underlying93, rfl, rfl, ?_⟩
  exact Try.sizeOf4
theorem fv93_2 : FieldV1 Try.prog 93 2 2 := by
  refine ⟨_, _, Try.underlying93, rfl, rfl, ?_⟩
  exact Try.isAgg4
theorem fo93_3 : FieldOf Try.prog 93 3 3 := by
  refine ⟨_, _, 0, Try.underlying93, rfl, rfl, ?_⟩
  exact Try.sizeOf92
theorem fv93_3 : FieldV1 Try.prog 93 3 3 := by
  refine ⟨_, _, Try.underlying93, rfl, rfl, ?_⟩
  exact Try.isAgg92
theorem bo93 : BuildOf Try.prog 93 [(0, 1), (1, 1), (2, 1), (3, 1)] [.pv (.sl []), .pv (.sl []), .pv (.bool false), .pv .nilp] := ⟨_, #[(0, 1), (1, 1), (2, 1), (3, 1)], _, _, Try.underlying93, Try.zeroValue93, .inl rfl, rfl, fun w => by simp [Try.sizeOf4, Try.sizeOf90, Try.sizeOf91, Try.sizeOf92], rfl⟩
theorem boN93 : BuildOf Try.prog 93 [(0, 1), (1, 1), (2, 1), (3, 1)] [.pv .nils, .pv .nils, .pv (.bool false), .pv .nilp] := ⟨_, #[(0, 1), (1, 1), (2, 1), (3, 1)], _, _, Try.underlying93, Try.zeroValue93, .inr rfl, rfl, fun w => by simp [Try.sizeOf4, Try.sizeOf90, Try.sizeOf91, Try.sizeOf92], rfl⟩
theorem zo94 : ZeroOf Try.prog 94 [.pv (.sl []), .pv (.sl []), .pv (.bool false), .pv .nilp] := ⟨_, _, Try.zeroValue94, .inl rfl, rfl⟩
theorem zoN94 : ZeroOf Try.prog 94 [.pv .nils, .pv .nils, .pv (.bool false), .pv .nilp] := ⟨_, _, Try.zeroValue94, .inr rfl, rfl⟩
theorem fo94_0 : FieldOf Try.prog 94 0 0 := by
  refine ⟨_, _, 0, Try.underlying94, rfl, rfl, ?_⟩
  exact Try.sizeOf90
theorem fv94_0 : FieldV1 Try.prog 94 0 0 := by
  refine ⟨_, _, Try.underlying94, rfl, rfl, ?_⟩
  exact Try.isAgg90
theorem fo94_1 : FieldOf Try.prog 94 1 1 := by
  refine ⟨_, _, 0, Try.underlying94, rfl, rfl, ?_⟩
  exact Try.sizeOf91
theorem fv94_1 : FieldV1 Try.prog 94 1 1 := by
  refine ⟨_, _, Try.underlying94, rfl, rfl, ?_⟩
  exact Try.isAgg91
theorem fo94_2 : FieldOf Try.prog 94 2 2 := by
  refine ⟨_, _, 0, Try.underlying94, rfl, rfl, ?_⟩
  exact Try.sizeOf4
theorem fv94_2 : FieldV1 Try.prog 94 2 2 := by
  refine ⟨_, _, Try.underlying94, rfl, rfl, ?_⟩
  exact Try.isAgg4
theorem fo94_3 : FieldOf Try.prog 94 3 3 := by
  refine ⟨_, _, 0, Try.underlying94, rfl, rfl, ?_⟩
  exact Try.sizeOf92
theorem fv94_3 : FieldV1 Try.prog 94 3 3 := by
  refine ⟨_, _, Try.underlying94, rfl, rfl, ?_⟩
  exact Try.isAgg92
theorem bo94 : BuildOf Try.prog 94 [(0, 1), (1, 1), (2, 1), (3, 1)] [.pv (.sl []), .pv (.sl []), .pv (.bool false), .pv .nilp] := ⟨_, #[(0, 1), (1, 1), (2, 1), (3, 1)], _, _, Try.underlying94, Try.zeroValue94, .inl rfl, rfl, fun w => by simp [Try.sizeOf4, Try.sizeOf90, Try.sizeOf91, Try.sizeOf92], rfl⟩
theorem boN94 : BuildOf Try.prog 94 [(0, 1), (1, 1), (2, 1), (3, 1)] [.pv .nils, .pv .nils, .pv (.bool false), .pv .nilp] := ⟨_, #[(0, 1), (1, 1), (2, 1), (3, 1)], _, _, Try.underlying94, Try.zeroValue94, .inr rfl, rfl, fun w => by simp [Try.sizeOf4, Try.sizeOf90, Try.sizeOf91, Try.sizeOf92], rfl⟩
theorem zo95 : ZeroOf Try.prog 95 [.pv (.sl [])] := ⟨_, _, Try.zeroValue95, .inl rfl, rfl⟩
theorem zoN95 : ZeroOf Try.prog 95 [.pv .nils] := ⟨_, _, Try.zeroValue95, .inr rfl, rfl⟩
theorem so95 : SliceOf Try.prog 95 106 2 := ⟨Try.underlying95, Try.sizeOf106, by decide, _, Try.zeroValue106⟩
theorem ei106 : EI Try.prog 106 2 24 := EI.mk (z := (Value.agg #[(Value.int IntKind.i64 (0)), (Value.string ⟨#[]⟩)])) (by kernel_rfl) rfl (by decide) (by decide)
theorem zo96 : ZeroOf Try.prog 96 [.pv (.sl []), .pv (.sl []), .pv (.bool false), .pv (.bool false), .pv (.int .i64 0), .pv (.int .i64 0), .pv (.int .i64 0)] := ⟨_, _, Try.zeroValue96, .inl rfl, rfl⟩
theorem zoN96 : ZeroOf Try.prog 96 [.pv .nils, .pv .nils, .pv (.bool false), .pv (.bool false), .pv (.int .i64 0), .pv (.int .i64 0), .pv (.int .i64 0)] := ⟨_, _, Try.zeroValue96, .inr rfl, rfl⟩
theorem fo96_0 : FieldOf Try.prog 96 0 0 := by
  refine ⟨_, _, 0, Try.underlying96, rfl, rfl, ?_⟩
  exact Try.sizeOf34
theorem fv96_0 : FieldV1 Try.prog 96 0 0 := by
  refine ⟨_, _, Try.underlying96, rfl, rfl, ?_⟩
  exact Try.isAgg34
theorem fo96_1 : FieldOf Try.prog 96 1 1 := by
  refine ⟨_, _, 0, Try.underlying96, rfl, rfl, ?_⟩
  exact Try.sizeOf95
theorem fv96_1 : FieldV1 Try.prog 96 1 1 := by
  refine ⟨_, _, Try.underlying96, rfl, rfl, ?_⟩
  exact Try.isAgg95
theorem fo96_2 : FieldOf Try.prog 96 2 2 := by
  refine ⟨_, _, 0, Try.underlying96, rfl, rfl, ?_⟩
  exact Try.sizeOf4
theorem fv96_2 : FieldV1 Try.prog 96 2 2 := by
  refine ⟨_, _, Try.underlying96, rfl, rfl, ?_⟩
  exact Try.isAgg4
theorem fo96_3 : FieldOf Try.prog 96 3 3 := by
  refine ⟨_, _, 0, Try.underlying96, rfl, rfl, ?_⟩
  exact Try.sizeOf4
theorem fv96_3 : FieldV1 Try.prog 96 3 3 := by
  refine ⟨_, _, Try.underlying96, rfl, rfl, ?_⟩
  exact Try.isAgg4
theorem fo96_4 : FieldOf Try.prog 96 4 4 := by
  refine ⟨_, _, 0, Try.underlying96, rfl, rfl, ?_⟩
  exact Try.sizeOf3
theorem fv96_4 : FieldV1 Try.prog 96 4 4 := by
  refine ⟨_, _, Try.underlying96, rfl, rfl, ?_⟩
  exact Try.isAgg3
theorem fo96_5 : FieldOf Try.prog 96 5 5 := by
  refine ⟨_, _, 0, Try.underlying96, rfl, rfl, ?_⟩
  exact Try.sizeOf3
theorem fv96_5 : FieldV1 Try.prog 96 5 5 := by
  refine ⟨_, _, Try.underlying96, rfl, rfl, ?_⟩
  exact Try.isAgg3
theorem fo96_6 : FieldOf Try.prog 96 6 6 := by
  refine ⟨_, _, 0, Try.underlying96, rfl, rfl, ?_⟩
  exact Try.sizeOf3
theorem fv96_6 : FieldV1 Try.prog 96 6 6 := by
  refine ⟨_, _, Try.underlying96, rfl, rfl, ?_⟩
  exact Try.isAgg3
theorem bo96 : BuildOf Try.prog 96 [(0, 1), (1, 1), (2, 1), (3, 1), (4, 1), (5, 1), (6, 1)] [.pv (.sl []), .pv (.sl []), .pv (.bool false), .pv (.bool false), .pv (.int .i64 0), .pv (.int .i64 0), .pv (.int .i64 0)] := ⟨_, #[(0, 1), (1, 1), (2, 1), (3, 1), (4, 1), (5, 1), (6, 1)], _, _, Try.underlying96, Try.zeroValue96, .inl rfl, rfl, fun w => by simp [Try.sizeOf3, Try.sizeOf4, Try.sizeOf34, Try.sizeOf95], rfl⟩
theorem boN96 : BuildOf Try.prog 96 [(0, 1), (1, 1), (2, 1), (3, 1), (4, 1), (5, 1), (6, 1)] [.pv .nils, .pv .nils, .pv (.bool false), .pv (.bool false), .pv (.int .i64 0), .pv (.int .i64 0), .pv (.int .i64 0)] := ⟨_, #[(0, 1), (1, 1), (2, 1), (3, 1), (4, 1), (5, 1), (6, 1)], _, _, Try.underlying96, Try.zeroValue96, .inr rfl, rfl, fun w => by simp [Try.sizeOf3, Try.sizeOf4, Try.sizeOf34, Try.sizeOf95], rfl⟩
theorem zo97 : ZeroOf Try.prog 97 [.pv (.sl []), .pv (.sl []), .pv (.bool false), .pv (.bool false), .pv (.int .i64 0), .pv (.int .i64 0), .pv (.int .i64 0)] := ⟨_, _, Try.zeroValue97, .inl rfl, rfl⟩
theorem zoN97 : ZeroOf Try.prog 97 [.pv .nils, .pv .nils, .pv (.bool false), .pv (.bool false), .pv (.int .i64 0), .pv (.int .i64 0), .pv (.int .i64 0)] := ⟨_, _, Try.zeroValue97, .inr rfl, rfl⟩
theorem fo97_0 : FieldOf Try.prog 97 0 0 := by
  refine ⟨_, _, 0, Try.underlying97, rfl, rfl, ?_⟩
  exact Try.sizeOf34
theorem fv97_0 : FieldV1 Try.prog 97 0 0 := by
  refine ⟨_, _, Try.underlying97, rfl, rfl, ?_⟩
  exact Try.isAgg34
theorem fo97_1 : FieldOf Try.prog 97 1 1 := by
  refine ⟨_, _, 0, Try.underlying97, rfl, rfl, ?_⟩
  exact Try.sizeOf95
theorem fv97_1 : FieldV1 Try.prog 97 1 1 := by
  refine ⟨_, _, Try.underlying97, rfl, rfl, ?_⟩
  exact Try.isAgg95
theorem fo97_2 : FieldOf Try.prog 97 2 2 := by
  refine ⟨_, _, 0, Try.underlying97, rfl, rfl, ?_⟩
  exact Try.sizeOf4
theorem fv97_2 : FieldV1 Try.prog 97 2 2 := by
  refine ⟨_, _, Try.underlying97, rfl, rfl, ?_⟩
  exact Try.isAgg4
theorem fo97_3 : FieldOf Try.prog 97 3 3 := by
  refine ⟨_, _, 0, Try.underlying97, rfl, rfl, ?_⟩
  exact Try.sizeOf4
theorem fv97_3 : FieldV1 Try.prog 97 3 3 := by
  refine ⟨_, _, Try.underlying97, rfl, rfl, ?_⟩
  exact Try.isAgg4
theorem fo97_4 : FieldOf Try.prog 97 4 4 := by
  refine ⟨_, _, 0, Try.underlying97, rfl, rfl, ?_⟩
  exact Try.sizeOf3
theorem fv97_4 : FieldV1 Try.prog 97 4 4 := by
  refine ⟨_, _, Try.underlying97, rfl, rfl, ?_⟩
  exact Try.isAgg3
theorem fo97_5 : FieldOf Try.prog 97 5 5 := by
  refine ⟨_, _, 0, Try.underlying97, rfl, rfl, ?_⟩
  exact Try.sizeOf3
theorem fv97_5 : FieldV1 Try.prog 97 5 5 := by
  refine ⟨_, _, Try.underlying97, rfl, rfl, ?_⟩
  exact Try.isAgg3
theorem fo97_6 : FieldOf Try.prog 97 6 6 := by
  refine ⟨_, _, 0, Try.underlying97, rfl, rfl, ?_⟩
  exact Try.sizeOf3
theorem fv97_6 : FieldV1 Try.prog 97 6 6 := by
  refine ⟨_, _, Try.underlying97, rfl, rfl, ?_⟩
  exact Try.isAgg3
theorem bo97 : BuildOf Try.prog 97 [(0, 1), (1, 1), (2, 1), (3, 1), (4, 1), (5, 1), (6, 1)] [.pv (.sl []), .pv (.sl []), .pv (.bool false), .pv (.bool false), .pv (.int .i64 0), .pv (.int .i64 0), .pv (.int .i64 0)] := ⟨_, #[(0, 1), (1, 1), (2, 1), (3, 1), (4, 1), (5, 1), (6, 1)], _, _, Try.underlying97, Try.zeroValue97, .inl rfl, rfl, fun w => by simp [Try.sizeOf3, Try.sizeOf4, Try.sizeOf34, Try.sizeOf95], rfl⟩
theorem boN97 : BuildOf Try.prog 97 [(0, 1), (1, 1), (2, 1), (3, 1), (4, 1), (5, 1), (6, 1)] [.pv .nils, .pv .nils, .pv (.bool false), .pv (.bool false), .pv (.int .i64 0), .pv (.int .i64 0), .pv (.int .i64 0)] := ⟨_, #[(0, 1), (1, 1), (2, 1), (3, 1), (4, 1), (5, 1), (6, 1)], _, _, Try.underlying97, Try.zeroValue97, .inr rfl, rfl, fun w => by simp [Try.sizeOf3, Try.sizeOf4, Try.sizeOf34, Try.sizeOf95], rfl⟩
theorem zo99 : ZeroOf Try.prog 99 [.pv (.int .i64 0), .pv (.int .i64 0)] := ⟨_, _, Try.zeroValue99, .inl rfl, rfl⟩
theorem fo99_0 : FieldOf Try.prog 99 0 0 := by
  refine ⟨_, _, 0, Try.underlying99, rfl, rfl, ?_⟩
  exact Try.sizeOf3
theorem fv99_0 : FieldV1 Try.prog 99 0 0 := by
  refine ⟨_, _, Try.underlying99, rfl, rfl, ?_⟩
  exact Try.isAgg3
theorem fo99_1 : FieldOf Try.prog 99 1 1 := by
  refine ⟨_, _, 0, Try.underlying99, rfl, rfl, ?_⟩
  exact Try.sizeOf3
theorem fv99_1 : FieldV1 Try.prog 99 1 1 := by
  refine ⟨_, _, Try.underlying99, rfl, rfl, ?_⟩
  exact Try.isAgg3
theorem bo99 : BuildOf Try.prog 99 [(0, 1), (1, 1)] [.pv (.int .i64 0), .pv (.int .i64 0)] := ⟨_, #[(0, 1), (1, 1)], _, _, Try.underlying99, Try.zeroValue99, .inl rfl, rfl, fun w => by simp [Try.sizeOf3], rfl⟩
theorem zo100 : ZeroOf Try.prog 100 [.pv (.int .i64 0), .pv (.int .i64 0)] := ⟨_, _, Try.zeroValue100, .inl rfl, rfl⟩
theorem fo100_0 : FieldOf Try.prog 100 0 0 := by
  refine ⟨_, _, 0, Try.underlying100, rfl, rfl, ?_⟩
  exact Try.sizeOf3
theorem fv100_0 : FieldV1 Try.prog 100 0 0 := by
  refine ⟨_, _, Try.underlying100, rfl, rfl, ?_⟩
  exact Try.isAgg3
theorem fo100_1 : FieldOf Try.prog 100 1 1 := by
  refine ⟨_, _, 0, Try.underlying100, rfl, rfl, ?_⟩
  exact Try.sizeOf3
theorem fv100_1 : FieldV1 Try.prog 100 1 1 := by
  refine ⟨_, _, Try.underlying100, rfl, rfl, ?_⟩
  exact Try.isAgg3
theorem bo100 : BuildOf Try.prog 100 [(0, 1), (1, 1)] [.pv (.int .i64 0), .pv (.int .i64 0)] := ⟨_, #[(0, 1), (1, 1)], _, _, Try.underlying100, Try.zeroValue100, .inl rfl, rfl, fun w => by simp [Try.sizeOf3], rfl⟩
theorem se100 (a0 b0 : Int) (a1 b1 : Int) (w : World) : (Op.equalIn 10000 100 (.agg [.int .i64 a0, .int .i64 a1].toArray) (.agg [.int .i64 b0, .int .i64 b1].toArray)).run Try.prog w = .ok (decide (a0 = b0) && decide (a1 = b1)) w := by
  refine (run_equalIn_struct (P := Try.prog) w 9999 100 _ _ (by simp [Program.fieldsOf, Try.underlying100]) Try.stoodInHeld100).trans ?_
  have h3 : ∀ (d : Nat) (a b : Int) (w : World), (Op.equalIn (d + 1) 3 (.int .i64 a) (.int .i64 b)).run Try.prog w = .ok (decide (a = b)) w := fun d a b w => by rw [run_equalIn_int w d 3 _ _ a b Try.underlying3]; by_cases h : a = b <;> simp [h]
  by_cases e0 : a0 = b0 <;> by_cases e1 : a1 = b1 <;> simp [Program.fieldsOf, Try.underlying100, Op.eqFields, part, h3, Try.isAgg3, e0, e1]
theorem zo103 : ZeroOf Try.prog 103 [.pv (.int .i64 0), .pv (.int .i64 0), .pv (.str ⟨#[]⟩)] := ⟨_, _, Try.zeroValue103, .inl rfl, rfl⟩
theorem fo103_0 : FieldOf Try.prog 103 0 0 := by
  refine ⟨_, _, 1, Try.underlying103, rfl, rfl, ?_⟩
  exact Try.sizeOf100
theorem fv103_0 : FieldVn Try.prog 103 0 0 2 := by
  refine ⟨_, _, Try.underlying103, rfl, rfl, ?_, ?_, by decide⟩
  · exact Try.isAgg100
  · exact Try.sizeOf100
theorem fo103_1 : FieldOf Try.prog 103 1 2 := by
  refine ⟨_, _, 0, Try.underlying103, rfl, rfl, ?_⟩
  exact Try.sizeOf9
theorem fv103_1 : FieldV1 Try.prog 103 1 2 := by
  refine ⟨_, _, Try.underlying103, rfl, rfl, ?_⟩
  exact Try.isAgg9
theorem bo103 : BuildOf Try.prog 103 [(0, 2), (2, 1)] [.pv (.int .i64 0), .pv (.int .i64 0), .pv (.str ⟨#[]⟩)] := ⟨_, #[(0, 2), (2, 1)], _, _, Try.underlying103, Try.zeroValue103, .inl rfl, rfl, fun w => by simp [Try.sizeOf9, Try.sizeOf100], rfl⟩
theorem zo104 : ZeroOf Try.prog 104 [.pv (.int .i64 0), .pv (.int .i64 0), .pv (.str ⟨#[]⟩)] := ⟨_, _, Try.zeroValue104, .inl rfl, rfl⟩
theorem fo104_0 : FieldOf Try.prog 104 0 0 := by
  refine ⟨_, _, 1, Try.underlying104, rfl, rfl, ?_⟩
  exact Try.sizeOf100
theorem fv104_0 : FieldVn Try.prog 104 0 0 2 := by
  refine ⟨_, _, Try.underlying104, rfl, rfl, ?_, ?_, by decide⟩
  · exact Try.isAgg100
  · exact Try.sizeOf100
theorem fo104_1 : FieldOf Try.prog 104 1 2 := by
  refine ⟨_, _, 0, Try.underlying104, rfl, rfl, ?_⟩
  exact Try.sizeOf9
theorem fv104_1 : FieldV1 Try.prog 104 1 2 := by
  refine ⟨_, _, Try.underlying104, rfl, rfl, ?_⟩
  exact Try.isAgg9
theorem bo104 : BuildOf Try.prog 104 [(0, 2), (2, 1)] [.pv (.int .i64 0), .pv (.int .i64 0), .pv (.str ⟨#[]⟩)] := ⟨_, #[(0, 2), (2, 1)], _, _, Try.underlying104, Try.zeroValue104, .inl rfl, rfl, fun w => by simp [Try.sizeOf9, Try.sizeOf100], rfl⟩
theorem zo105 : ZeroOf Try.prog 105 [.pv (.int .i64 0), .pv (.str ⟨#[]⟩)] := ⟨_, _, Try.zeroValue105, .inl rfl, rfl⟩
theorem fo105_0 : FieldOf Try.prog 105 0 0 := by
  refine ⟨_, _, 0, Try.underlying105, rfl, rfl, ?_⟩
  exact Try.sizeOf3
theorem fv105_0 : FieldV1 Try.prog 105 0 0 := by
  refine ⟨_, _, Try.underlying105, rfl, rfl, ?_⟩
  exact Try.isAgg3
theorem fo105_1 : FieldOf Try.prog 105 1 1 := by
  refine ⟨_, _, 0, Try.underlying105, rfl, rfl, ?_⟩
  exact Try.sizeOf9
theorem fv105_1 : FieldV1 Try.prog 105 1 1 := by
  refine ⟨_, _, Try.underlying105, rfl, rfl, ?_⟩
  exact Try.isAgg9
theorem bo105 : BuildOf Try.prog 105 [(0, 1), (1, 1)] [.pv (.int .i64 0), .pv (.str ⟨#[]⟩)] := ⟨_, #[(0, 1), (1, 1)], _, _, Try.underlying105, Try.zeroValue105, .inl rfl, rfl, fun w => by simp [Try.sizeOf3, Try.sizeOf9], rfl⟩
theorem zo106 : ZeroOf Try.prog 106 [.pv (.int .i64 0), .pv (.str ⟨#[]⟩)] := ⟨_, _, Try.zeroValue106, .inl rfl, rfl⟩
theorem fo106_0 : FieldOf Try.prog 106 0 0 := by
  refine ⟨_, _, 0, Try.underlying106, rfl, rfl, ?_⟩
  exact Try.sizeOf3
theorem fv106_0 : FieldV1 Try.prog 106 0 0 := by
  refine ⟨_, _, Try.underlying106, rfl, rfl, ?_⟩
  exact Try.isAgg3
theorem fo106_1 : FieldOf Try.prog 106 1 1 := by
  refine ⟨_, _, 0, Try.underlying106, rfl, rfl, ?_⟩
  exact Try.sizeOf9
theorem fv106_1 : FieldV1 Try.prog 106 1 1 := by
  refine ⟨_, _, Try.underlying106, rfl, rfl, ?_⟩
  exact Try.isAgg9
theorem bo106 : BuildOf Try.prog 106 [(0, 1), (1, 1)] [.pv (.int .i64 0), .pv (.str ⟨#[]⟩)] := ⟨_, #[(0, 1), (1, 1)], _, _, Try.underlying106, Try.zeroValue106, .inl rfl, rfl, fun w => by simp [Try.sizeOf3, Try.sizeOf9], rfl⟩
theorem se106 (a0 b0 : Int) (a1 b1 : ByteArray) (w : World) : (Op.equalIn 10000 106 (.agg [.int .i64 a0, .string a1].toArray) (.agg [.int .i64 b0, .string b1].toArray)).run Try.prog w = .ok (decide (a0 = b0) && decide (a1 = b1)) w := by
  refine (run_equalIn_struct (P := Try.prog) w 9999 106 _ _ (by simp [Program.fieldsOf, Try.underlying106]) Try.stoodInHeld106).trans ?_
  have h3 : ∀ (d : Nat) (a b : Int) (w : World), (Op.equalIn (d + 1) 3 (.int .i64 a) (.int .i64 b)).run Try.prog w = .ok (decide (a = b)) w := fun d a b w => by rw [run_equalIn_int w d 3 _ _ a b Try.underlying3]; by_cases h : a = b <;> simp [h]
  have h9 : ∀ (d : Nat) (a b : ByteArray) (w : World), (Op.equalIn (d + 1) 9 (.string a) (.string b)).run Try.prog w = .ok (decide (a = b)) w := fun d a b w => by rw [run_equalIn_string w d 9 a b Try.underlying9, list_beq]
  by_cases e0 : a0 = b0 <;> by_cases e1 : a1 = b1 <;> simp [Program.fieldsOf, Try.underlying106, Op.eqFields, part, h3, Try.isAgg3, h9, Try.isAgg9, e0, e1]
theorem zo109 : ZeroOf Try.prog 109 [.pv (.int .i64 0), .pv (.int .i64 0), .pv (.int .i64 0)] := ⟨_, _, Try.zeroValue109, .inl rfl, rfl⟩
theorem fo109_0 : FieldOf Try.prog 109 0 0 := by
  refine ⟨_, _, 0, Try.underlying109, rfl, rfl, ?_⟩
  exact Try.sizeOf3
theorem fv109_0 : FieldV1 Try.prog 109 0 0 := by
  refine ⟨_, _, Try.underlying109, rfl, rfl, ?_⟩
  exact Try.isAgg3
theorem fo109_1 : FieldOf Try.prog 109 1 1 := by
  refine ⟨_, _, 0, Try.underlying109, rfl, rfl, ?_⟩
  exact Try.sizeOf3
theorem fv109_1 : FieldV1 Try.prog 109 1 1 := by
  refine ⟨_, _, Try.underlying109, rfl, rfl, ?_⟩
  exact Try.isAgg3
theorem fo109_2 : FieldOf Try.prog 109 2 2 := by
  refine ⟨_, _, 0, Try.underlying109, rfl, rfl, ?_⟩
  exact Try.sizeOf3
theorem fv109_2 : FieldV1 Try.prog 109 2 2 := by
  refine ⟨_, _, Try.underlying109, rfl, rfl, ?_⟩
  exact Try.isAgg3
theorem bo109 : BuildOf Try.prog 109 [(0, 1), (1, 1), (2, 1)] [.pv (.int .i64 0), .pv (.int .i64 0), .pv (.int .i64 0)] := ⟨_, #[(0, 1), (1, 1), (2, 1)], _, _, Try.underlying109, Try.zeroValue109, .inl rfl, rfl, fun w => by simp [Try.sizeOf3], rfl⟩
theorem zo110 : ZeroOf Try.prog 110 [.pv (.int .i64 0), .pv (.int .i64 0), .pv (.int .i64 0)] := ⟨_, _, Try.zeroValue110, .inl rfl, rfl⟩
theorem fo110_0 : FieldOf Try.prog 110 0 0 := by
  refine ⟨_, _, 0, Try.underlying110, rfl, rfl, ?_⟩
  exact Try.sizeOf3
theorem fv110_0 : FieldV1 Try.prog 110 0 0 := by
  refine ⟨_, _, Try.underlying110, rfl, rfl, ?_⟩
  exact Try.isAgg3
theorem fo110_1 : FieldOf Try.prog 110 1 1 := by
  refine ⟨_, _, 0, Try.underlying110, rfl, rfl, ?_⟩
  exact Try.sizeOf3
theorem fv110_1 : FieldV1 Try.prog 110 1 1 := by
  refine ⟨_, _, Try.underlying110, rfl, rfl, ?_⟩
  exact Try.isAgg3
theorem fo110_2 : FieldOf Try.prog 110 2 2 := by
  refine ⟨_, _, 0, Try.underlying110, rfl, rfl, ?_⟩
  exact Try.sizeOf3
theorem fv110_2 : FieldV1 Try.prog 110 2 2 := by
  refine ⟨_, _, Try.underlying110, rfl, rfl, ?_⟩
  exact Try.isAgg3
theorem bo110 : BuildOf Try.prog 110 [(0, 1), (1, 1), (2, 1)] [.pv (.int .i64 0), .pv (.int .i64 0), .pv (.int .i64 0)] := ⟨_, #[(0, 1), (1, 1), (2, 1)], _, _, Try.underlying110, Try.zeroValue110, .inl rfl, rfl, fun w => by simp [Try.sizeOf3], rfl⟩
theorem se110 (a0 b0 : Int) (a1 b1 : Int) (a2 b2 : Int) (w : World) : (Op.equalIn 10000 110 (.agg [.int .i64 a0, .int .i64 a1, .int .i64 a2].toArray) (.agg [.int .i64 b0, .int .i64 b1, .int .i64 b2].toArray)).run Try.prog w = .ok (decide (a0 = b0) && decide (a1 = b1) && decide (a2 = b2)) w := by
  refine (run_equalIn_struct (P := Try.prog) w 9999 110 _ _ (by simp [Program.fieldsOf, Try.underlying110]) Try.stoodInHeld110).trans ?_
  have h3 : ∀ (d : Nat) (a b : Int) (w : World), (Op.equalIn (d + 1) 3 (.int .i64 a) (.int .i64 b)).run Try.prog w = .ok (decide (a = b)) w := fun d a b w => by rw [run_equalIn_int w d 3 _ _ a b Try.underlying3]; by_cases h : a = b <;> simp [h]
  by_cases e0 : a0 = b0 <;> by_cases e1 : a1 = b1 <;> by_cases e2 : a2 = b2 <;> simp [Program.fieldsOf, Try.underlying110, Op.eqFields, part, h3, Try.isAgg3, e0, e1, e2]
theorem zo113 : ZeroOf Try.prog 113 [.pv (.str ⟨#[]⟩), .pv (.str ⟨#[]⟩)] := ⟨_, _, Try.zeroValue113, .inl rfl, rfl⟩
theorem fo113_0 : FieldOf Try.prog 113 0 0 := by
  refine ⟨_, _, 0, Try.underlying113, rfl, rfl, ?_⟩
  exact Try.sizeOf9
theorem fv113_0 : FieldV1 Try.prog 113 0 0 := by
  refine ⟨_, _, Try.underlying113, rfl, rfl, ?_⟩
  exact Try.isAgg9
theorem fo113_1 : FieldOf Try.prog 113 1 1 := by
  refine ⟨_, _, 0, Try.underlying113, rfl, rfl, ?_⟩
  exact Try.sizeOf9
theorem fv113_1 : FieldV1 Try.prog 113 1 1 := by
  refine ⟨_, _, Try.underlying113, rfl, rfl, ?_⟩
  exact Try.isAgg9
theorem bo113 : BuildOf Try.prog 113 [(0, 1), (1, 1)] [.pv (.str ⟨#[]⟩), .pv (.str ⟨#[]⟩)] := ⟨_, #[(0, 1), (1, 1)], _, _, Try.underlying113, Try.zeroValue113, .inl rfl, rfl, fun w => by simp [Try.sizeOf9], rfl⟩
theorem zo114 : ZeroOf Try.prog 114 [.pv (.str ⟨#[]⟩), .pv (.str ⟨#[]⟩)] := ⟨_, _, Try.zeroValue114, .inl rfl, rfl⟩
theorem fo114_0 : FieldOf Try.prog 114 0 0 := by
  refine ⟨_, _, 0, Try.underlying114, rfl, rfl, ?_⟩
  exact Try.sizeOf9
theorem fv114_0 : FieldV1 Try.prog 114 0 0 := by
  refine ⟨_, _, Try.underlying114, rfl, rfl, ?_⟩
  exact Try.isAgg9
theorem fo114_1 : FieldOf Try.prog 114 1 1 := by
  refine ⟨_, _, 0, Try.underlying114, rfl, rfl, ?_⟩
  exact Try.sizeOf9
theorem fv114_1 : FieldV1 Try.prog 114 1 1 := by
  refine ⟨_, _, Try.underlying114, rfl, rfl, ?_⟩
  exact Try.isAgg9
theorem bo114 : BuildOf Try.prog 114 [(0, 1), (1, 1)] [.pv (.str ⟨#[]⟩), .pv (.str ⟨#[]⟩)] := ⟨_, #[(0, 1), (1, 1)], _, _, Try.underlying114, Try.zeroValue114, .inl rfl, rfl, fun w => by simp [Try.sizeOf9], rfl⟩
theorem se114 (a0 b0 : ByteArray) (a1 b1 : ByteArray) (w : World) : (Op.equalIn 10000 114 (.agg [.string a0, .string a1].toArray) (.agg [.string b0, .string b1].toArray)).run Try.prog w = .ok (decide (a0 = b0) && decide (a1 = b1)) w := by
  refine (run_equalIn_struct (P := Try.prog) w 9999 114 _ _ (by simp [Program.fieldsOf, Try.underlying114]) Try.stoodInHeld114).trans ?_
  have h9 : ∀ (d : Nat) (a b : ByteArray) (w : World), (Op.equalIn (d + 1) 9 (.string a) (.string b)).run Try.prog w = .ok (decide (a = b)) w := fun d a b w => by rw [run_equalIn_string w d 9 a b Try.underlying9, list_beq]
  by_cases e0 : a0 = b0 <;> by_cases e1 : a1 = b1 <;> simp [Program.fieldsOf, Try.underlying114, Op.eqFields, part, h9, Try.isAgg9, e0, e1]
theorem zo128 : ZeroOf Try.prog 128 [.pv .nilp, .pv .nilp, .pv .nilp, .pv (.str ⟨#[]⟩)] := ⟨_, _, Try.zeroValue128, .inl rfl, rfl⟩
theorem fo128_0 : FieldOf Try.prog 128 0 0 := by
  refine ⟨_, _, 0, Try.underlying128, rfl, rfl, ?_⟩
  exact Try.sizeOf17
theorem fv128_0 : FieldV1 Try.prog 128 0 0 := by
  refine ⟨_, _, Try.underlying128, rfl, rfl, ?_⟩
  exact Try.isAgg17
theorem fo128_1 : FieldOf Try.prog 128 1 1 := by
  refine ⟨_, _, 0, Try.underlying128, rfl, rfl, ?_⟩
  exact Try.sizeOf17
theorem fv128_1 : FieldV1 Try.prog 128 1 1 := by
  refine ⟨_, _, Try.underlying128, rfl, rfl, ?_⟩
  exact Try.isAgg17
theorem fo128_2 : FieldOf Try.prog 128 2 2 := by
  refine ⟨_, _, 0, Try.underlying128, rfl, rfl, ?_⟩
  exact Try.sizeOf17
theorem fv128_2 : FieldV1 Try.prog 128 2 2 := by
  refine ⟨_, _, Try.underlying128, rfl, rfl, ?_⟩
  exact Try.isAgg17
theorem fo128_3 : FieldOf Try.prog 128 3 3 := by
  refine ⟨_, _, 0, Try.underlying128, rfl, rfl, ?_⟩
  exact Try.sizeOf9
theorem fv128_3 : FieldV1 Try.prog 128 3 3 := by
  refine ⟨_, _, Try.underlying128, rfl, rfl, ?_⟩
  exact Try.isAgg9
theorem bo128 : BuildOf Try.prog 128 [(0, 1), (1, 1), (2, 1), (3, 1)] [.pv .nilp, .pv .nilp, .pv .nilp, .pv (.str ⟨#[]⟩)] := ⟨_, #[(0, 1), (1, 1), (2, 1), (3, 1)], _, _, Try.underlying128, Try.zeroValue128, .inl rfl, rfl, fun w => by simp [Try.sizeOf9, Try.sizeOf17], rfl⟩
theorem zo129 : ZeroOf Try.prog 129 [.pv .nilp, .pv .nilp, .pv .nilp, .pv (.str ⟨#[]⟩)] := ⟨_, _, Try.zeroValue129, .inl rfl, rfl⟩
theorem fo129_0 : FieldOf Try.prog 129 0 0 := by
  refine ⟨_, _, 0, Try.underlying129, rfl, rfl, ?_⟩
  exact Try.sizeOf17
theorem fv129_0 : FieldV1 Try.prog 129 0 0 := by
  refine ⟨_, _, Try.underlying129, rfl, rfl, ?_⟩
  exact Try.isAgg17
theorem fo129_1 : FieldOf Try.prog 129 1 1 := by
  refine ⟨_, _, 0, Try.underlying129, rfl, rfl, ?_⟩
  exact Try.sizeOf17
theorem fv129_1 : FieldV1 Try.prog 129 1 1 := by
  refine ⟨_, _, Try.underlying129, rfl, rfl, ?_⟩
  exact Try.isAgg17
theorem fo129_2 : FieldOf Try.prog 129 2 2 := by
  refine ⟨_, _, 0, Try.underlying129, rfl, rfl, ?_⟩
  exact Try.sizeOf17
theorem fv129_2 : FieldV1 Try.prog 129 2 2 := by
  refine ⟨_, _, Try.underlying129, rfl, rfl, ?_⟩
  exact Try.isAgg17
theorem fo129_3 : FieldOf Try.prog 129 3 3 := by
  refine ⟨_, _, 0, Try.underlying129, rfl, rfl, ?_⟩
  exact Try.sizeOf9
theorem fv129_3 : FieldV1 Try.prog 129 3 3 := by
  refine ⟨_, _, Try.underlying129, rfl, rfl, ?_⟩
  exact Try.isAgg9
theorem bo129 : BuildOf Try.prog 129 [(0, 1), (1, 1), (2, 1), (3, 1)] [.pv .nilp, .pv .nilp, .pv .nilp, .pv (.str ⟨#[]⟩)] := ⟨_, #[(0, 1), (1, 1), (2, 1), (3, 1)], _, _, Try.underlying129, Try.zeroValue129, .inl rfl, rfl, fun w => by simp [Try.sizeOf9, Try.sizeOf17], rfl⟩
theorem zo134 : ZeroOf Try.prog 134 [.pv (.int .u32 0)] := ⟨_, _, Try.zeroValue134, .inl rfl, rfl⟩
theorem zo135 : ZeroOf Try.prog 135 [.pv (.int .u8 0)] := ⟨_, _, Try.zeroValue135, .inl rfl, rfl⟩
theorem zo136 : ZeroOf Try.prog 136 [.pv (.int .u8 0)] := ⟨_, _, Try.zeroValue136, .inl rfl, rfl⟩
theorem zo138 : ZeroOf Try.prog 138 [.pv .nilp] := ⟨_, _, Try.zeroValue138, .inl rfl, rfl⟩
theorem zo139 : ZeroOf Try.prog 139 [.pv (.int .i32 0)] := ⟨_, _, Try.zeroValue139, .inl rfl, rfl⟩
theorem zo140 : ZeroOf Try.prog 140 [.pv (.int .i32 0)] := ⟨_, _, Try.zeroValue140, .inl rfl, rfl⟩
theorem zo141 : ZeroOf Try.prog 141 [.pv (.int .u64 0), .pv (.int .u64 0), .pv (.int .u32 0), .pv (.int .u8 0), .pv (.int .u8 0), .pv (.int .u8 0), .pv (.int .u8 0), .pv .nilfn, .pv .nilp, .pv (.int .i32 0), .pv (.int .i32 0)] := ⟨_, _, Try.zeroValue141, .inl rfl, rfl⟩
theorem fo141_0 : FieldOf Try.prog 141 0 0 := by
  refine ⟨_, _, 0, Try.underlying141, rfl, rfl, ?_⟩
  exact Try.sizeOf12
theorem fv141_0 : FieldV1 Try.prog 141 0 0 := by
  refine ⟨_, _, Try.underlying141, rfl, rfl, ?_⟩
  exact Try.isAgg12
theorem fo141_1 : FieldOf Try.prog 141 1 1 := by
  refine ⟨_, _, 0, Try.underlying141, rfl, rfl, ?_⟩
  exact Try.sizeOf12
theorem fv141_1 : FieldV1 Try.prog 141 1 1 := by
  refine ⟨_, _, Try.underlying141, rfl, rfl, ?_⟩
  exact Try.isAgg12
theorem fo141_2 : FieldOf Try.prog 141 2 2 := by
  refine ⟨_, _, 0, Try.underlying141, rfl, rfl, ?_⟩
  exact Try.sizeOf134
theorem fv141_2 : FieldV1 Try.prog 141 2 2 := by
  refine ⟨_, _, Try.underlying141, rfl, rfl, ?_⟩
  exact Try.isAgg134
theorem fo141_3 : FieldOf Try.prog 141 3 3 := by
  refine ⟨_, _, 0, Try.underlying141, rfl, rfl, ?_⟩
  exact Try.sizeOf135
theorem fv141_3 : FieldV1 Try.prog 141 3 3 := by
  refine ⟨_, _, Try.underlying141, rfl, rfl, ?_⟩
  exact Try.isAgg135
theorem fo141_4 : FieldOf Try.prog 141 4 4 := by
  refine ⟨_, _, 0, Try.underlying141, rfl, rfl, ?_⟩
  exact Try.sizeOf5
theorem fv141_4 : FieldV1 Try.prog 141 4 4 := by
  refine ⟨_, _, Try.underlying141, rfl, rfl, ?_⟩
  exact Try.isAgg5
theorem fo141_5 : FieldOf Try.prog 141 5 5 := by
  refine ⟨_, _, 0, Try.underlying141, rfl, rfl, ?_⟩
  exact Try.sizeOf5
theorem fv141_5 : FieldV1 Try.prog 141 5 5 := by
  refine ⟨_, _, Try.underlying141, rfl, rfl, ?_⟩
  exact Try.isAgg5
theorem fo141_6 : FieldOf Try.prog 141 6 6 := by
  refine ⟨_, _, 0, Try.underlying141, rfl, rfl, ?_⟩
  exact Try.sizeOf136
theorem fv141_6 : FieldV1 Try.prog 141 6 6 := by
  refine ⟨_, _, Try.underlying141, rfl, rfl, ?_⟩
  exact Try.isAgg136
theorem fo141_7 : FieldOf Try.prog 141 7 7 := by
  refine ⟨_, _, 0, Try.underlying141, rfl, rfl, ?_⟩
  exact Try.sizeOf137
theorem fv141_7 : FieldV1 Try.prog 141 7 7 := by
  refine ⟨_, _, Try.underlying141, rfl, rfl, ?_⟩
  exact Try.isAgg137
theorem fo141_8 : FieldOf Try.prog 141 8 8 := by
  refine ⟨_, _, 0, Try.underlying141, rfl, rfl, ?_⟩
  exact Try.sizeOf138
theorem fv141_8 : FieldV1 Try.prog 141 8 8 := by
  refine ⟨_, _, Try.underlying141, rfl, rfl, ?_⟩
  exact Try.isAgg138
theorem fo141_9 : FieldOf Try.prog 141 9 9 := by
  refine ⟨_, _, 0, Try.underlying141, rfl, rfl, ?_⟩
  exact Try.sizeOf139
theorem fv141_9 : FieldV1 Try.prog 141 9 9 := by
  refine ⟨_, _, Try.underlying141, rfl, rfl, ?_⟩
  exact Try.isAgg139
theorem fo141_10 : FieldOf Try.prog 141 10 10 := by
  refine ⟨_, _, 0, Try.underlying141, rfl, rfl, ?_⟩
  exact Try.sizeOf140
theorem fv141_10 : FieldV1 Try.prog 141 10 10 := by
  refine ⟨_, _, Try.underlying141, rfl, rfl, ?_⟩
  exact Try.isAgg140
theorem bo141 : BuildOf Try.prog 141 [(0, 1), (1, 1), (2, 1), (3, 1), (4, 1), (5, 1), (6, 1), (7, 1), (8, 1), (9, 1), (10, 1)] [.pv (.int .u64 0), .pv (.int .u64 0), .pv (.int .u32 0), .pv (.int .u8 0), .pv (.int .u8 0), .pv (.int .u8 0), .pv (.int .u8 0), .pv .nilfn, .pv .nilp, .pv (.int .i32 0), .pv (.int .i32 0)] := ⟨_, #[(0, 1), (1, 1), (2, 1), (3, 1), (4, 1), (5, 1), (6, 1), (7, 1), (8, 1), (9, 1), (10, 1)], _, _, Try.underlying141, Try.zeroValue141, .inl rfl, rfl, fun w => by simp [Try.sizeOf5, Try.sizeOf12, Try.sizeOf134, Try.sizeOf135, Try.sizeOf136, Try.sizeOf137, Try.sizeOf138, Try.sizeOf139, Try.sizeOf140], rfl⟩
theorem zo142 : ZeroOf Try.prog 142 [.pv (.int .u64 0), .pv (.int .u64 0), .pv (.int .u32 0), .pv (.int .u8 0), .pv (.int .u8 0), .pv (.int .u8 0), .pv (.int .u8 0), .pv .nilfn, .pv .nilp, .pv (.int .i32 0), .pv (.int .i32 0)] := ⟨_, _, Try.zeroValue142, .inl rfl, rfl⟩
theorem fo142_0 : FieldOf Try.prog 142 0 0 := by
  refine ⟨_, _, 0, Try.underlying142, rfl, rfl, ?_⟩
  exact Try.sizeOf12
theorem fv142_0 : FieldV1 Try.prog 142 0 0 := by
  refine ⟨_, _, Try.underlying142, rfl, rfl, ?_⟩
  exact Try.isAgg12
theorem fo142_1 : FieldOf Try.prog 142 1 1 := by
  refine ⟨_, _, 0, Try.underlying142, rfl, rfl, ?_⟩
  exact Try.sizeOf12
theorem fv142_1 : FieldV1 Try.prog 142 1 1 := by
  refine ⟨_, _, Try.underlying142, rfl, rfl, ?_⟩
  exact Try.isAgg12
theorem fo142_2 : FieldOf Try.prog 142 2 2 := by
  refine ⟨_, _, 0, Try.underlying142, rfl, rfl, ?_⟩
  exact Try.sizeOf134
theorem fv142_2 : FieldV1 Try.prog 142 2 2 := by
  refine ⟨_, _, Try.underlying142, rfl, rfl, ?_⟩
  exact Try.isAgg134
theorem fo142_3 : FieldOf Try.prog 142 3 3 := by
  refine ⟨_, _, 0, Try.underlying142, rfl, rfl, ?_⟩
  exact Try.sizeOf135
theorem fv142_3 : FieldV1 Try.prog 142 3 3 := by
  refine ⟨_, _, Try.underlying142, rfl, rfl, ?_⟩
  exact Try.isAgg135
theorem fo142_4 : FieldOf Try.prog 142 4 4 := by
  refine ⟨_, _, 0, Try.underlying142, rfl, rfl, ?_⟩
  exact Try.sizeOf5
theorem fv142_4 : FieldV1 Try.prog 142 4 4 := by
  refine ⟨_, _, Try.underlying142, rfl, rfl, ?_⟩
  exact Try.isAgg5
theorem fo142_5 : FieldOf Try.prog 142 5 5 := by
  refine ⟨_, _, 0, Try.underlying142, rfl, rfl, ?_⟩
  exact Try.sizeOf5
theorem fv142_5 : FieldV1 Try.prog 142 5 5 := by
  refine ⟨_, _, Try.underlying142, rfl, rfl, ?_⟩
  exact Try.isAgg5
theorem fo142_6 : FieldOf Try.prog 142 6 6 := by
  refine ⟨_, _, 0, Try.underlying142, rfl, rfl, ?_⟩
  exact Try.sizeOf136
theorem fv142_6 : FieldV1 Try.prog 142 6 6 := by
  refine ⟨_, _, Try.underlying142, rfl, rfl, ?_⟩
  exact Try.isAgg136
theorem fo142_7 : FieldOf Try.prog 142 7 7 := by
  refine ⟨_, _, 0, Try.underlying142, rfl, rfl, ?_⟩
  exact Try.sizeOf137
theorem fv142_7 : FieldV1 Try.prog 142 7 7 := by
  refine ⟨_, _, Try.underlying142, rfl, rfl, ?_⟩
  exact Try.isAgg137
theorem fo142_8 : FieldOf Try.prog 142 8 8 := by
  refine ⟨_, _, 0, Try.underlying142, rfl, rfl, ?_⟩
  exact Try.sizeOf138
theorem fv142_8 : FieldV1 Try.prog 142 8 8 := by
  refine ⟨_, _, Try.underlying142, rfl, rfl, ?_⟩
  exact Try.isAgg138
theorem fo142_9 : FieldOf Try.prog 142 9 9 := by
  refine ⟨_, _, 0, Try.underlying142, rfl, rfl, ?_⟩
  exact Try.sizeOf139
theorem fv142_9 : FieldV1 Try.prog 142 9 9 := by
  refine ⟨_, _, Try.underlying142, rfl, rfl, ?_⟩
  exact Try.isAgg139
theorem fo142_10 : FieldOf Try.prog 142 10 10 := by
  refine ⟨_, _, 0, Try.underlying142, rfl, rfl, ?_⟩
  exact Try.sizeOf140
theorem fv142_10 : FieldV1 Try.prog 142 10 10 := by
  refine ⟨_, _, Try.underlying142, rfl, rfl, ?_⟩
  exact Try.isAgg140
theorem bo142 : BuildOf Try.prog 142 [(0, 1), (1, 1), (2, 1), (3, 1), (4, 1), (5, 1), (6, 1), (7, 1), (8, 1), (9, 1), (10, 1)] [.pv (.int .u64 0), .pv (.int .u64 0), .pv (.int .u32 0), .pv (.int .u8 0), .pv (.int .u8 0), .pv (.int .u8 0), .pv (.int .u8 0), .pv .nilfn, .pv .nilp, .pv (.int .i32 0), .pv (.int .i32 0)] := ⟨_, #[(0, 1), (1, 1), (2, 1), (3, 1), (4, 1), (5, 1), (6, 1), (7, 1), (8, 1), (9, 1), (10, 1)], _, _, Try.underlying142, Try.zeroValue142, .inl rfl, rfl, fun w => by simp [Try.sizeOf5, Try.sizeOf12, Try.sizeOf134, Try.sizeOf135, Try.sizeOf136, Try.sizeOf137, Try.sizeOf138, Try.sizeOf139, Try.sizeOf140], rfl⟩
theorem zo143 : ZeroOf Try.prog 143 [.pv .nilp] := ⟨_, _, Try.zeroValue143, .inl rfl, rfl⟩
end Go.Proofs.Ytljocbkebhgkoaa
