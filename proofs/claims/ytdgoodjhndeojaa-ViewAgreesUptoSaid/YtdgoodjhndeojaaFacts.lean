/-
  THE FACTS ON THE TYPES OF THIS SEAT that the walks use, printed by a program (facts.py). Conditions: none.
-/
import Derived.Test.YtdgoodjhndeojaaAbs10
set_option linter.unusedVariables false
set_option linter.unusedSimpArgs false
namespace Go.Proofs.Ytdgoodjhndeojaa
open Go.Abs

theorem zo2 : ZeroOf Try.prog 2 [.pv (.int .i64 0)] := ⟨_, _, Try.zeroValue2, .inl rfl, rfl⟩
theorem zo3 : ZeroOf Try.prog 3 [.pv (.int .i64 0)] := ⟨_, _, Try.zeroValue3, .inl rfl, rfl⟩
theorem zo4 : ZeroOf Try.prog 4 [.pv (.bool false)] := ⟨_, _, Try.zeroValue4, .inl rfl, rfl⟩
theorem zo5 : ZeroOf Try.prog 5 [.pv (.int .u8 0)] := ⟨_, _, Try.zeroValue5, .inl rfl, rfl⟩
theorem zo6 : ZeroOf Try.prog 6 [.pv (.int .u8 0)] := ⟨_, _, Try.zeroValue6, .inl rfl, rfl⟩
theorem zo7 : ZeroOf Try.prog 7 [.pv (.int .i64 0), .pv (.int .i64 0), .pv (.bool false), .pv (.int .u8 0)] := ⟨_, _, Try.zeroValue7, .inl rfl, rfl⟩
theorem fo7_0 : FieldOf Try.prog 7 0 0 := by
  refine ⟨_, _, 0, Try.underlying7, rfl, rfl, ?_⟩
  exact Try.sizeOf2
theorem fv7_0 : FieldV1 Try.prog 7 0 0 := by
  refine ⟨_, _, Try.underlying7, rfl, rfl, ?_⟩
  exact Try.isAgg2
theorem fo7_1 : FieldOf Try.prog 7 1 1 := by
  refine ⟨_, _, 0, Try.underlying7, rfl, rfl, ?_⟩
  exact Try.sizeOf3
theorem fv7_1 : FieldV1 Try.prog 7 1 1 := by
  refine ⟨_, _, Try.underlying7, rfl, rfl, ?_⟩
  exact Try.isAgg3
theorem fo7_2 : FieldOf Try.prog 7 2 2 := by
  refine ⟨_, _, 0, Try.underlying7, rfl, rfl, ?_⟩
  exact Try.sizeOf4
theorem fv7_2 : FieldV1 Try.prog 7 2 2 := by
  refine ⟨_, _, Try.underlying7, rfl, rfl, ?_⟩
  exact Try.isAgg4
theorem fo7_3 : FieldOf Try.prog 7 3 3 := by
  refine ⟨_, _, 0, Try.underlying7, rfl, rfl, ?_⟩
  exact Try.sizeOf6
theorem fv7_3 : FieldV1 Try.prog 7 3 3 := by
  refine ⟨_, _, Try.underlying7, rfl, rfl, ?_⟩
  exact Try.isAgg6
theorem bo7 : BuildOf Try.prog 7 [(0, 1), (1, 1), (2, 1), (3, 1)] [.pv (.int .i64 0), .pv (.int .i64 0), .pv (.bool false), .pv (.int .u8 0)] := ⟨_, #[(0, 1), (1, 1), (2, 1), (3, 1)], _, _, Try.underlying7, Try.zeroValue7, .inl rfl, rfl, fun w => by simp [Try.sizeOf2, Try.sizeOf3, Try.sizeOf4, Try.sizeOf6], rfl⟩
theorem zo8 : ZeroOf Try.prog 8 [.pv (.int .i64 0), .pv (.int .i64 0), .pv (.bool false), .pv (.int .u8 0)] := ⟨_, _, Try.zeroValue8, .inl rfl, rfl⟩
theorem fo8_0 : FieldOf Try.prog 8 0 0 := by
  refine ⟨_, _, 0, Try.underlying8, rfl, rfl, ?_⟩
  exact Try.sizeOf2
theorem fv8_0 : FieldV1 Try.prog 8 0 0 := by
  refine ⟨_, _, Try.underlying8, rfl, rfl, ?_⟩
  exact Try.isAgg2
theorem fo8_1 : FieldOf Try.prog 8 1 1 := by
  refine ⟨_, _, 0, Try.underlying8, rfl, rfl, ?_⟩
  exact Try.sizeOf3
theorem fv8_1 : FieldV1 Try.prog 8 1 1 := by
  refine ⟨_, _, Try.underlying8, rfl, rfl, ?_⟩
  exact Try.isAgg3
theorem fo8_2 : FieldOf Try.prog 8 2 2 := by
  refine ⟨_, _, 0, Try.underlying8, rfl, rfl, ?_⟩
  exact Try.sizeOf4
theorem fv8_2 : FieldV1 Try.prog 8 2 2 := by
  refine ⟨_, _, Try.underlying8, rfl, rfl, ?_⟩
  exact Try.isAgg4
theorem fo8_3 : FieldOf Try.prog 8 3 3 := by
  refine ⟨_, _, 0, Try.underlying8, rfl, rfl, ?_⟩
  exact Try.sizeOf6
theorem fv8_3 : FieldV1 Try.prog 8 3 3 := by
  refine ⟨_, _, Try.underlying8, rfl, rfl, ?_⟩
  exact Try.isAgg6
theorem bo8 : BuildOf Try.prog 8 [(0, 1), (1, 1), (2, 1), (3, 1)] [.pv (.int .i64 0), .pv (.int .i64 0), .pv (.bool false), .pv (.int .u8 0)] := ⟨_, #[(0, 1), (1, 1), (2, 1), (3, 1)], _, _, Try.underlying8, Try.zeroValue8, .inl rfl, rfl, fun w => by simp [Try.sizeOf2, Try.sizeOf3, Try.sizeOf4, Try.sizeOf6], rfl⟩
theorem zo9 : ZeroOf Try.prog 9 [.pv (.str ⟨#[]⟩)] := ⟨_, _, Try.zeroValue9, .inl rfl, rfl⟩
theorem zo10 : ZeroOf Try.prog 10 [.pv (.str ⟨#[]⟩)] := ⟨_, _, Try.zeroValue10, .inl rfl, rfl⟩
theorem zo11 : ZeroOf Try.prog 11 [.pv (.str ⟨#[]⟩)] := ⟨_, _, Try.zeroValue11, .inl rfl, rfl⟩
theorem zo12 : ZeroOf Try.prog 12 [.pv (.int .u64 0)] := ⟨_, _, Try.zeroValue12, .inl rfl, rfl⟩
theorem zo13 : ZeroOf Try.prog 13 [.pv (.str ⟨#[]⟩), .pv (.int .u64 0)] := ⟨_, _, Try.zeroValue13, .inl rfl, rfl⟩
theorem fo13_0 : FieldOf Try.prog 13 0 0 := by
  refine ⟨_, _, 0, Try.underlying13, rfl, rfl, ?_⟩
  exact Try.sizeOf9
theorem fv13_0 : FieldV1 Try.prog 13 0 0 := by
  refine ⟨_, _, Try.underlying13, rfl, rfl, ?_⟩
  exact Try.isAgg9
theorem fo13_1 : FieldOf Try.prog 13 1 1 := by
  refine ⟨_, _, 0, Try.underlying13, rfl, rfl, ?_⟩
  exact Try.sizeOf12
theorem fv13_1 : FieldV1 Try.prog 13 1 1 := by
  refine ⟨_, _, Try.underlying13, rfl, rfl, ?_⟩
  exact Try.isAgg12
theorem bo13 : BuildOf Try.prog 13 [(0, 1), (1, 1)] [.pv (.str ⟨#[]⟩), .pv (.int .u64 0)] := ⟨_, #[(0, 1), (1, 1)], _, _, Try.underlying13, Try.zeroValue13, .inl rfl, rfl, fun w => by simp [Try.sizeOf9, Try.sizeOf12], rfl⟩
theorem zo14 : ZeroOf Try.prog 14 [.pv (.str ⟨#[]⟩), .pv (.int .u64 0)] := ⟨_, _, Try.zeroValue14, .inl rfl, rfl⟩
theorem fo14_0 : FieldOf Try.prog 14 0 0 := by
  refine ⟨_, _, 0, Try.underlying14, rfl, rfl, ?_⟩
  exact Try.sizeOf9
theorem fv14_0 : FieldV1 Try.prog 14 0 0 := by
  refine ⟨_, _, Try.underlying14, rfl, rfl, ?_⟩
  exact Try.isAgg9
theorem fo14_1 : FieldOf Try.prog 14 1 1 := by
  refine ⟨_, _, 0, Try.underlying14, rfl, rfl, ?_⟩
  exact Try.sizeOf12
theorem fv14_1 : FieldV1 Try.prog 14 1 1 := by
  refine ⟨_, _, Try.underlying14, rfl, rfl, ?_⟩
  exact Try.isAgg12
theorem bo14 : BuildOf Try.prog 14 [(0, 1), (1, 1)] [.pv (.str ⟨#[]⟩), .pv (.int .u64 0)] := ⟨_, #[(0, 1), (1, 1)], _, _, Try.underlying14, Try.zeroValue14, .inl rfl, rfl, fun w => by simp [Try.sizeOf9, Try.sizeOf12], rfl⟩
theorem zo15 : ZeroOf Try.prog 15 [.pv .nilp] := ⟨_, _, Try.zeroValue15, .inl rfl, rfl⟩
theorem zo16 : ZeroOf Try.prog 16 [.pv .nilp] := ⟨_, _, Try.zeroValue16, .inl rfl, rfl⟩
theorem zo17 : ZeroOf Try.prog 17 [.pv .nilp] := ⟨_, _, Try.zeroValue17, .inl rfl, rfl⟩
theorem zo18 : ZeroOf Try.prog 18 [.pv .nilp] := ⟨_, _, Try.zeroValue18, .inl rfl, rfl⟩
theorem fo18_0 : FieldOf Try.prog 18 0 0 := by
  refine ⟨_, _, 0, Try.underlying18, rfl, rfl, ?_⟩
  exact Try.sizeOf17
theorem fv18_0 : FieldV1 Try.prog 18 0 0 := by
  refine ⟨_, _, Try.underlying18, rfl, rfl, ?_⟩
  exact Try.isAgg17
theorem bo18 : BuildOf Try.prog 18 [(0, 1)] [.pv .nilp] := ⟨_, #[(0, 1)], _, _, Try.underlying18, Try.zeroValue18, .inl rfl, rfl, fun w => by simp [Try.sizeOf17], rfl⟩
theorem zo19 : ZeroOf Try.prog 19 [.pv .nilp] := ⟨_, _, Try.zeroValue19, .inl rfl, rfl⟩
theorem fo19_0 : FieldOf Try.prog 19 0 0 := by
  refine ⟨_, _, 0, Try.underlying19, rfl, rfl, ?_⟩
  exact Try.sizeOf17
theorem fv19_0 : FieldV1 Try.prog 19 0 0 := by
  refine ⟨_, _, Try.underlying19, rfl, rfl, ?_⟩
  exact Try.isAgg17
theorem bo19 : BuildOf Try.prog 19 [(0, 1)] [.pv .nilp] := ⟨_, #[(0, 1)], _, _, Try.underlying19, Try.zeroValue19, .inl rfl, rfl, fun w => by simp [Try.sizeOf17], rfl⟩
theorem zo21 : ZeroOf Try.prog 21 [.pv (.int .i32 0)] := ⟨_, _, Try.zeroValue21, .inl rfl, rfl⟩
theorem zo22 : ZeroOf Try.prog 22 [.pv (.sl [])] := ⟨_, _, Try.zeroValue22, .inl rfl, rfl⟩
theorem zoN22 : ZeroOf Try.prog 22 [.pv .nils] := ⟨_, _, Try.zeroValue22, .inr rfl, rfl⟩
theorem so22 : SliceOf Try.prog 22 38 6 := ⟨Try.underlying22, Try.sizeOf38, by decide, _, Try.zeroValue38⟩
theorem ei38 : EI Try.prog 38 6 88 := EI.mk (z := (Value.agg #[(Value.string ⟨#[]⟩), (Value.int IntKind.i64 (0)), (Value.int IntKind.i64 (0)), (Value.int IntKind.i64 (0)), (Value.slice none (0) (0)), (Value.slice none (0) (0))])) (by kernel_rfl) rfl (by decide) (by decide)
theorem zo23 : ZeroOf Try.prog 23 [.pv (.sl [])] := ⟨_, _, Try.zeroValue23, .inl rfl, rfl⟩
theorem zoN23 : ZeroOf Try.prog 23 [.pv .nils] := ⟨_, _, Try.zeroValue23, .inr rfl, rfl⟩
theorem fo23_0 : FieldOf Try.prog 23 0 0 := by
  refine ⟨_, _, 0, Try.underlying23, rfl, rfl, ?_⟩
  exact Try.sizeOf22
theorem fv23_0 : FieldV1 Try.prog 23 0 0 := by
  refine ⟨_, _, Try.underlying23, rfl, rfl, ?_⟩
  exact Try.isAgg22
theorem bo23 : BuildOf Try.prog 23 [(0, 1)] [.pv (.sl [])] := ⟨_, #[(0, 1)], _, _, Try.underlying23, Try.zeroValue23, .inl rfl, rfl, fun w => by simp [Try.sizeOf22], rfl⟩
theorem boN23 : BuildOf Try.prog 23 [(0, 1)] [.pv .nils] := ⟨_, #[(0, 1)], _, _, Try.underlying23, Try.zeroValue23, .inr rfl, rfl, fun w => by simp [Try.sizeOf22], rfl⟩
theorem zo24 : ZeroOf Try.prog 24 [.pv (.sl [])] := ⟨_, _, Try.zeroValue24, .inl rfl, rfl⟩
theorem zoN24 : ZeroOf Try.prog 24 [.pv .nils] := ⟨_, _, Try.zeroValue24, .inr rfl, rfl⟩
theorem fo24_0 : FieldOf Try.prog 24 0 0 := by
  refine ⟨_, _, 0, Try.underlying24, rfl, rfl, ?_⟩
  exact Try.sizeOf22
theorem fv24_0 : FieldV1 Try.prog 24 0 0 := by
  refine ⟨_, _, Try.underlying24, rfl, rfl, ?_⟩
  exact Try.isAgg22
theorem bo24 : BuildOf Try.prog 24 [(0, 1)] [.pv (.sl [])] := ⟨_, #[(0, 1)], _, _, Try.underlying24, Try.zeroValue24, .inl rfl, rfl, fun w => by simp [Try.sizeOf22], rfl⟩
theorem boN24 : BuildOf Try.prog 24 [(0, 1)] [.pv .nils] := ⟨_, #[(0, 1)], _, _, Try.underlying24, Try.zeroValue24, .inr rfl, rfl, fun w => by simp [Try.sizeOf22], rfl⟩
theorem zo28 : ZeroOf Try.prog 28 [.pv (.sl [])] := ⟨_, _, Try.zeroValue28, .inl rfl, rfl⟩
theorem zoN28 : ZeroOf Try.prog 28 [.pv .nils] := ⟨_, _, Try.zeroValue28, .inr rfl, rfl⟩
theorem so28 : SliceOf Try.prog 28 9 1 := ⟨Try.underlying28, Try.sizeOf9, by decide, _, Try.zeroValue9⟩
theorem ei9 : EI Try.prog 9 1 16 := EI.mk (z := (Value.string ⟨#[]⟩)) (by kernel_rfl) rfl (by decide) (by decide)
theorem zo34 : ZeroOf Try.prog 34 [.pv (.int .i64 0), .pv (.int .i64 0)] := ⟨_, _, Try.zeroValue34, .inl rfl, rfl⟩
theorem fo34_0 : FieldOf Try.prog 34 0 0 := by
  refine ⟨_, _, 0, Try.underlying34, rfl, rfl, ?_⟩
  exact Try.sizeOf3
theorem fv34_0 : FieldV1 Try.prog 34 0 0 := by
  refine ⟨_, _, Try.underlying34, rfl, rfl, ?_⟩
  exact Try.isAgg3
theorem fo34_1 : FieldOf Try.prog 34 1 1 := by
  refine ⟨_, _, 0, Try.underlying34, rfl, rfl, ?_⟩
  exact Try.sizeOf3
theorem fv34_1 : FieldV1 Try.prog 34 1 1 := by
  refine ⟨_, _, Try.underlying34, rfl, rfl, ?_⟩
  exact Try.isAgg3
theorem bo34 : BuildOf Try.prog 34 [(0, 1), (1, 1)] [.pv (.int .i64 0), .pv (.int .i64 0)] := ⟨_, #[(0, 1), (1, 1)], _, _, Try.underlying34, Try.zeroValue34, .inl rfl, rfl, fun w => by simp [Try.sizeOf3], rfl⟩
theorem zo35 : ZeroOf Try.prog 35 [.pv (.int .i64 0), .pv (.int .i64 0)] := ⟨_, _, Try.zeroValue35, .inl rfl, rfl⟩
theorem fo35_0 : FieldOf Try.prog 35 0 0 := by
  refine ⟨_, _, 0, Try.underlying35, rfl, rfl, ?_⟩
  exact Try.sizeOf3
theorem fv35_0 : FieldV1 Try.prog 35 0 0 := by
  refine ⟨_, _, Try.underlying35, rfl, rfl, ?_⟩
  exact Try.isAgg3
theorem fo35_1 : FieldOf Try.prog 35 1 1 := by
  refine ⟨_, _, 0, Try.underlying35, rfl, rfl, ?_⟩
  exact Try.sizeOf3
theorem fv35_1 : FieldV1 Try.prog 35 1 1 := by
  refine ⟨_, _, Try.underlying35, rfl, rfl, ?_⟩
  exact Try.isAgg3
theorem bo35 : BuildOf Try.prog 35 [(0, 1), (1, 1)] [.pv (.int .i64 0), .pv (.int .i64 0)] := ⟨_, #[(0, 1), (1, 1)], _, _, Try.underlying35, Try.zeroValue35, .inl rfl, rfl, fun w => by simp [Try.sizeOf3], rfl⟩
theorem se35 (a0 b0 : Int) (a1 b1 : Int) (w : World) : (Op.equalIn 10000 35 (.agg [.int .i64 a0, .int .i64 a1].toArray) (.agg [.int .i64 b0, .int .i64 b1].toArray)).run Try.prog w = .ok (decide (a0 = b0) && decide (a1 = b1)) w := by
  refine (run_equalIn_struct (P := Try.prog) w 9999 35 _ _ (by simp [Program.fieldsOf, Try.underlying35]) Try.stoodInHeld35).trans ?_
  have h3 : ∀ (d : Nat) (a b : Int) (w : World), (Op.equalIn (d + 1) 3 (.int .i64 a) (.int .i64 b)).run Try.prog w = .ok (decide (a = b)) w := fun d a b w => by rw [run_equalIn_int w d 3 _ _ a b Try.underlying3]; by_cases h : a = b <;> simp [h]
  by_cases e0 : a0 = b0 <;> by_cases e1 : a1 = b1 <;> simp [Program.fieldsOf, Try.underlying35, Op.eqFields, part, h3, Try.isAgg3, e0, e1]
theorem zo36 : ZeroOf Try.prog 36 [.pv (.sl [])] := ⟨_, _, Try.zeroValue36, .inl rfl, rfl⟩
theorem zoN36 : ZeroOf Try.prog 36 [.pv .nils] := ⟨_, _, Try.zeroValue36, .inr rfl, rfl⟩
theorem so36 : SliceOf Try.prog 36 72 2 := ⟨Try.underlying36, Try.sizeOf72, by decide, _, Try.zeroValue72⟩
theorem ei72 : EI Try.prog 72 2 32 := EI.mk (z := (Value.agg #[(Value.string ⟨#[]⟩), (Value.string ⟨#[]⟩)])) (by kernel_rfl) rfl (by decide) (by decide)
theorem zo37 : ZeroOf Try.prog 37 [.pv (.str ⟨#[]⟩), .pv (.int .i64 0), .pv (.int .i64 0), .pv (.int .i64 0), .pv (.sl []), .pv (.sl [])] := ⟨_, _, Try.zeroValue37, .inl rfl, rfl⟩
theorem zoN37 : ZeroOf Try.prog 37 [.pv (.str ⟨#[]⟩), .pv (.int .i64 0), .pv (.int .i64 0), .pv (.int .i64 0), .pv .nils, .pv .nils] := ⟨_, _, Try.zeroValue37, .inr rfl, rfl⟩
theorem fo37_0 : FieldOf Try.prog 37 0 0 := by
  refine ⟨_, _, 0, Try.underlying37, rfl, rfl, ?_⟩
  exact Try.sizeOf9
theorem fv37_0 : FieldV1 Try.prog 37 0 0 := by
  refine ⟨_, _, Try.underlying37, rfl, rfl, ?_⟩
  exact Try.isAgg9
theorem fo37_1 : FieldOf Try.prog 37 1 1 := by
  refine ⟨_, _, 0, Try.underlying37, rfl, rfl, ?_⟩
  exact Try.sizeOf3
theorem fv37_1 : FieldV1 Try.prog 37 1 1 := by
  refine ⟨_, _, Try.underlying37, rfl, rfl, ?_⟩
  exact Try.isAgg3
theorem fo37_2 : FieldOf Try.prog 37 2 2 := by
  refine ⟨_, _, 1, Try.underlying37, rfl, rfl, ?_⟩
  exact Try.sizeOf35
theorem fv37_2 : FieldVn Try.prog 37 2 2 2 := by
  refine ⟨_, _, Try.underlying37, rfl, rfl, ?_, ?_, by decide⟩
  · exact Try.isAgg35
  · exact Try.sizeOf35
theorem fo37_3 : FieldOf Try.prog 37 3 4 := by
  refine ⟨_, _, 0, Try.underlying37, rfl, rfl, ?_⟩
  exact Try.sizeOf28
theorem fv37_3 : FieldV1 Try.prog 37 3 4 := by
  refine ⟨_, _, Try.underlying37, rfl, rfl, ?_⟩
  exact Try.isAgg28
theorem fo37_4 : FieldOf Try.prog 37 4 5 := by
  refine ⟨_, _, 0, Try.underlying37, rfl, rfl, ?_⟩
  exact Try.sizeOf36
theorem fv37_4 : FieldV1 Try.prog 37 4 5 := by
  refine ⟨_, _, Try.underlying37, rfl, rfl, ?_⟩
  exact Try.isAgg36
theorem bo37 : BuildOf Try.prog 37 [(0, 1), (1, 1), (2, 2), (4, 1), (5, 1)] [.pv (.str ⟨#[]⟩), .pv (.int .i64 0), .pv (.int .i64 0), .pv (.int .i64 0), .pv (.sl []), .pv (.sl [])] := ⟨_, #[(0, 1), (1, 1), (2, 2), (4, 1), (5, 1)], _, _, Try.underlying37, Try.zeroValue37, .inl rfl, rfl, fun w => by simp [Try.sizeOf3, Try.sizeOf9, Try.sizeOf28, Try.sizeOf35, Try.sizeOf36], rfl⟩
theorem boN37 : BuildOf Try.prog 37 [(0, 1), (1, 1), (2, 2), (4, 1), (5, 1)] [.pv (.str ⟨#[]⟩), .pv (.int .i64 0), .pv (.int .i64 0), .pv (.int .i64 0), .pv .nils, .pv .nils] := ⟨_, #[(0, 1), (1, 1), (2, 2), (4, 1), (5, 1)], _, _, Try.underlying37, Try.zeroValue37, .inr rfl, rfl, fun w => by simp [Try.sizeOf3, Try.sizeOf9, Try.sizeOf28, Try.sizeOf35, Try.sizeOf36], rfl⟩
theorem zo38 : ZeroOf Try.prog 38 [.pv (.str ⟨#[]⟩), .pv (.int .i64 0), .pv (.int .i64 0), .pv (.int .i64 0), .pv (.sl []), .pv (.sl [])] := ⟨_, _, Try.zeroValue38, .inl rfl, rfl⟩
theorem zoN38 : ZeroOf Try.prog 38 [.pv (.str ⟨#[]⟩), .pv (.int .i64 0), .pv (.int .i64 0), .pv (.int .i64 0), .pv .nils, .pv .nils] := ⟨_, _, Try.zeroValue38, .inr rfl, rfl⟩
theorem fo38_0 : FieldOf Try.prog 38 0 0 := by
  refine ⟨_, _, 0, Try.underlying38, rfl, rfl, ?_⟩
  exact Try.sizeOf9
theorem fv38_0 : FieldV1 Try.prog 38 0 0 := by
  refine ⟨_, _, Try.underlying38, rfl, rfl, ?_⟩
  exact Try.isAgg9
theorem fo38_1 : FieldOf Try.prog 38 1 1 := by
  refine ⟨_, _, 0, Try.underlying38, rfl, rfl, ?_⟩
  exact Try.sizeOf3
theorem fv38_1 : FieldV1 Try.prog 38 1 1 := by
  refine ⟨_, _, Try.underlying38, rfl, rfl, ?_⟩
  exact Try.isAgg3
theorem fo38_2 : FieldOf Try.prog 38 2 2 := by
  refine ⟨_, _, 1, Try.underlying38, rfl, rfl, ?_⟩
  exact Try.sizeOf35
theorem fv38_2 : FieldVn Try.prog 38 2 2 2 := by
  refine ⟨_, _, Try.underlying38, rfl, rfl, ?_, ?_, by decide⟩
  · exact Try.isAgg35
  · exact Try.sizeOf35
theorem fo38_3 : FieldOf Try.prog 38 3 4 := by
  refine ⟨_, _, 0, Try.underlying38, rfl, rfl, ?_⟩
  exact Try.sizeOf28
theorem fv38_3 : FieldV1 Try.prog 38 3 4 := by
  refine ⟨_, _, Try.underlying38, rfl, rfl, ?_⟩
  exact Try.isAgg28
theorem fo38_4 : FieldOf Try.prog 38 4 5 := by
  refine ⟨_, _, 0, Try.underlying38, rfl, rfl, ?_⟩
  exact Try.sizeOf36
theorem fv38_4 : FieldV1 Try.prog 38 4 5 := by
  refine ⟨_, _, Try.underlying38, rfl, rfl, ?_⟩
  exact Try.isAgg36
theorem bo38 : BuildOf Try.prog 38 [(0, 1), (1, 1), (2, 2), (4, 1), (5, 1)] [.pv (.str ⟨#[]⟩), .pv (.int .i64 0), .pv (.int .i64 0), .pv (.int .i64 0), .pv (.sl []), .pv (.sl [])] := ⟨_, #[(0, 1), (1, 1), (2, 2), (4, 1), (5, 1)], _, _, Try.underlying38, Try.zeroValue38, .inl rfl, rfl, fun w => by simp [Try.sizeOf3, Try.sizeOf9, Try.sizeOf28, Try.sizeOf35, Try.sizeOf36], rfl⟩
theorem boN38 : BuildOf Try.prog 38 [(0, 1), (1, 1), (2, 2), (4, 1), (5, 1)] [.pv (.str ⟨#[]⟩), .pv (.int .i64 0), .pv (.int .i64 0), .pv (.int .i64 0), .pv .nils, .pv .nils] := ⟨_, #[(0, 1), (1, 1), (2, 2), (4, 1), (5, 1)], _, _, Try.underlying38, Try.zeroValue38, .inr rfl, rfl, fun w => by simp [Try.sizeOf3, Try.sizeOf9, Try.sizeOf28, Try.sizeOf35, Try.sizeOf36], rfl⟩
theorem zo40 : ZeroOf Try.prog 40 [.pv (.int .i64 0)] := ⟨_, _, Try.zeroValue40, .inl rfl, rfl⟩
theorem zo71 : ZeroOf Try.prog 71 [.pv (.str ⟨#[]⟩), .pv (.str ⟨#[]⟩)] := ⟨_, _, Try.zeroValue71, .inl rfl, rfl⟩
theorem fo71_0 : FieldOf Try.prog 71 0 0 := by
  refine ⟨_, _, 0, Try.underlying71, rfl, rfl, ?_⟩
  exact Try.sizeOf9
theorem fv71_0 : FieldV1 Try.prog 71 0 0 := by
  refine ⟨_, _, Try.underlying71, rfl, rfl, ?_⟩
  exact Try.isAgg9
theorem fo71_1 : FieldOf Try.prog 71 1 1 := by
  refine ⟨_, _, 0, Try.underlying71, rfl, rfl, ?_⟩
  exact Try.sizeOf9
theorem fv71_1 : FieldV1 Try.prog 71 1 1 := by
  refine ⟨_, _, Try.underlying71, rfl, rfl, ?_⟩
  exact Try.isAgg9
theorem bo71 : BuildOf Try.prog 71 [(0, 1), (1, 1)] [.pv (.str ⟨#[]⟩), .pv (.str ⟨#[]⟩)] := ⟨_, #[(0, 1), (1, 1)], _, _, Try.underlying71, Try.zeroValue71, .inl rfl, rfl, fun w => by simp [Try.sizeOf9], rfl⟩
theorem zo72 : ZeroOf Try.prog 72 [.pv (.str ⟨#[]⟩), .pv (.str ⟨#[]⟩)] := ⟨_, _, Try.zeroValue72, .inl rfl, rfl⟩
theorem fo72_0 : FieldOf Try.prog 72 0 0 := by
  refine ⟨_, _, 0, Try.underlying72, rfl, rfl, ?_⟩
  exact Try.sizeOf9
theorem fv72_0 : FieldV1 Try.prog 72 0 0 := by
  refine ⟨_, _, Try.underlying72, rfl, rfl, ?_⟩
  exact Try.isAgg9
theorem fo72_1 : FieldOf Try.prog 72 1 1 := by
  refine ⟨_, _, 0, Try.underlying72, rfl, rfl, ?_⟩
  exact Try.sizeOf9
theorem fv72_1 : FieldV1 Try.prog 72 1 1 := by
  refine ⟨_, _, Try.underlying72, rfl, rfl, ?_⟩
  exact Try.isAgg9
theorem bo72 : BuildOf Try.prog 72 [(0, 1), (1, 1)] [.pv (.str ⟨#[]⟩), .pv (.str ⟨#[]⟩)] := ⟨_, #[(0, 1), (1, 1)], _, _, Try.underlying72, Try.zeroValue72, .inl rfl, rfl, fun w => by simp [Try.sizeOf9], rfl⟩
theorem se72 (a0 b0 : ByteArray) (a1 b1 : ByteArray) (w : World) : (Op.equalIn 10000 72 (.agg [.string a0, .string a1].toArray) (.agg [.string b0, .string b1].toArray)).run Try.prog w = .ok (decide (a0 = b0) && decide (a1 = b1)) w := by
  refine (run_equalIn_struct (P := Try.prog) w 9999 72 _ _ (by simp [Program.fieldsOf, Try.underlying72]) Try.stoodInHeld72).trans ?_
  have h9 : ∀ (d : Nat) (a b : ByteArray) (w : World), (Op.equalIn (d + 1) 9 (.string a) (.string b)).run Try.prog w = .ok (decide (a = b)) w := fun d a b w => by rw [run_equalIn_string w d 9 a b Try.underlying9, list_beq]
  by_cases e0 : a0 = b0 <;> by_cases e1 : a1 = b1 <;> simp [Program.fieldsOf, Try.underlying72, Op.eqFields, part, h9, Try.isAgg9, e0, e1]
theorem zo81 : ZeroOf Try.prog 81 [.pv (.sl [])] := ⟨_, _, Try.zeroValue81, .inl rfl, rfl⟩
theorem zoN81 : ZeroOf Try.prog 81 [.pv .nils] := ⟨_, _, Try.zeroValue81, .inr rfl, rfl⟩
theorem so81 : SliceOf Try.prog 81 36 1 := ⟨Try.underlying81, Try.sizeOf36, by decide, _, Try.zeroValue36⟩
theorem ei36 : EI Try.prog 36 1 24 := EI.mk (z := (Value.slice none (0) (0))) (by kernel_rfl) rfl (by decide) (by decide)
theorem zo90 : ZeroOf Try.prog 90 [.pv (.sl []), .pv (.sl []), .pv (.sl [])] := ⟨_, _, Try.zeroValue90, .inl rfl, rfl⟩
theorem zoN90 : ZeroOf Try.prog 90 [.pv .nils, .pv .nils, .pv .nils] := ⟨_, _, Try.zeroValue90, .inr rfl, rfl⟩
theorem ao90 : ArrayOf Try.prog 90 1 [.pv (.sl []), .pv (.sl []), .pv (.sl [])] := ⟨_, _, _, _, Try.underlying90, Try.zeroValue90, .inl rfl, rfl, Try.sizeOf36⟩
theorem zo91 : ZeroOf Try.prog 91 [.pv .nilm] := ⟨_, _, Try.zeroValue91, .inl rfl, rfl⟩
theorem zo92 : ZeroOf Try.prog 92 [.pv .nilp] := ⟨_, _, Try.zeroValue92, .inl rfl, rfl⟩
theorem zo93 : ZeroOf Try.prog 93 [.pv (.str ⟨#[]⟩), .pv (.str ⟨#[]⟩), .pv (.str ⟨#[]⟩)] := ⟨_, _, Try.zeroValue93, .inl rfl, rfl⟩
theorem ao93 : ArrayOf Try.prog 93 1 [.pv (.str ⟨#[]⟩), .pv (.str ⟨#[]⟩), .pv (.str ⟨#[]⟩)] := ⟨_, _, _, _, Try.underlying93, Try.zeroValue93, .inl rfl, rfl, Try.sizeOf9⟩
theorem zo102 : ZeroOf Try.prog 102 [.pv (.sl [])] := ⟨_, _, Try.zeroValue102, .inl rfl, rfl⟩
theorem zoN102 : ZeroOf Try.prog 102 [.pv .nils] := ⟨_, _, Try.zeroValue102, .inr rfl, rfl⟩
theorem so102 : SliceOf Try.prog 102 109 3 := ⟨Try.underlying102, Try.sizeOf109, by decide, _, Try.zeroValue109⟩
theorem ei109 : EI Try.prog 109 3 32 := EI.mk (z := (Value.agg #[(Value.int IntKind.i64 (0)), (Value.string ⟨#[]⟩), (Value.int IntKind.i64 (0))])) (by kernel_rfl) rfl (by decide) (by decide)
theorem zo108 : ZeroOf Try.prog 108 [.pv (.int .i64 0), .pv (.str ⟨#[]⟩), .pv (.int .i64 0)] := ⟨_, _, Try.zeroValue108, .inl rfl, rfl⟩
theorem fo108_0 : FieldOf Try.prog 108 0 0 := by
  refine ⟨_, _, 0, Try.underlying108, rfl, rfl, ?_⟩
  exact Try.sizeOf3
theorem fv108_0 : FieldV1 Try.prog 108 0 0 := by
  refine ⟨_, _, Try.underlying108, rfl, rfl, ?_⟩
  exact Try.isAgg3
theorem fo108_1 : FieldOf Try.prog 108 1 1 := by
  refine ⟨_, _, 0, Try.underlying108, rfl, rfl, ?_⟩
  exact Try.sizeOf9
theorem fv108_1 : FieldV1 Try.prog 108 1 1 := by
  refine ⟨_, _, Try.underlying108, rfl, rfl, ?_⟩
  exact Try.isAgg9
theorem fo108_2 : FieldOf Try.prog 108 2 2 := by
  refine ⟨_, _, 0, Try.underlying108, rfl, rfl, ?_⟩
  exact Try.sizeOf3
theorem fv108_2 : FieldV1 Try.prog 108 2 2 := by
  refine ⟨_, _, Try.underlying108, rfl, rfl, ?_⟩
  exact Try.isAgg3
theorem bo108 : BuildOf Try.prog 108 [(0, 1), (1, 1), (2, 1)] [.pv (.int .i64 0), .pv (.str ⟨#[]⟩), .pv (.int .i64 0)] := ⟨_, #[(0, 1), (1, 1), (2, 1)], _, _, Try.underlying108, Try.zeroValue108, .inl rfl, rfl, fun w => by simp [Try.sizeOf3, Try.sizeOf9], rfl⟩
theorem zo109 : ZeroOf Try.prog 109 [.pv (.int .i64 0), .pv (.str ⟨#[]⟩), .pv (.int .i64 0)] := ⟨_, _, Try.zeroValue109, .inl rfl, rfl⟩
theorem fo109_0 : FieldOf Try.prog 109 0 0 := by
  refine ⟨_, _, 0, Try.underlying109, rfl, rfl, ?_⟩
  exact Try.sizeOf3
theorem fv109_0 : FieldV1 Try.prog 109 0 0 := by
  refine ⟨_, _, Try.underlying109, rfl, rfl, ?_⟩
  exact Try.isAgg3
theorem fo109_1 : FieldOf Try.prog 109 1 1 := by
  refine ⟨_, _, 0, Try.underlying109, rfl, rfl, ?_⟩
  exact Try.sizeOf9
theorem fv109_1 : FieldV1 Try.prog 109 1 1 := by
  refine ⟨_, _, Try.underlying109, rfl, rfl, ?_⟩
  exact Try.isAgg9
theorem fo109_2 : FieldOf Try.prog 109 2 2 := by
  refine ⟨_, _, 0, Try.underlying109, rfl, rfl, ?_⟩
  exact Try.sizeOf3
theorem fv109_2 : FieldV1 Try.prog 109 2 2 := by
  refine ⟨_, _, Try.underlying109, rfl, rfl, ?_⟩
  exact Try.isAgg3
theorem bo109 : BuildOf Try.prog 109 [(0, 1), (1, 1), (2, 1)] [.pv (.int .i64 0), .pv (.str ⟨#[]⟩), .pv (.int .i64 0)] := ⟨_, #[(0, 1), (1, 1), (2, 1)], _, _, Try.underlying109, Try.zeroValue109, .inl rfl, rfl, fun w => by simp [Try.sizeOf3, Try.sizeOf9], rfl⟩
theorem se109 (a0 b0 : Int) (a1 b1 : ByteArray) (a2 b2 : Int) (w : World) : (Op.equalIn 10000 109 (.agg [.int .i64 a0, .string a1, .int .i64 a2].toArray) (.agg [.int .i64 b0, .string b1, .int .i64 b2].toArray)).run Try.prog w = .ok (decide (a0 = b0) && decide (a1 = b1) && decide (a2 = b2)) w := by
  refine (run_equalIn_struct (P := Try.prog) w 9999 109 _ _ (by simp [Program.fieldsOf, Try.underlying109]) Try.stoodInHeld109).trans ?_
  have h3 : ∀ (d : Nat) (a b : Int) (w : World), (Op.equalIn (d + 1) 3 (.int .i64 a) (.int .i64 b)).run Try.prog w = .ok (decide (a = b)) w := fun d a b w => by rw [run_equalIn_int w d 3 _ _ a b Try.underlying3]; by_cases h : a = b <;> simp [h]
  have h9 : ∀ (d : Nat) (a b : ByteArray) (w : World), (Op.equalIn (d + 1) 9 (.string a) (.string b)).run Try.prog w = .ok (decide (a = b)) w := fun d a b w => by rw [run_equalIn_string w d 9 a b Try.underlying9, list_beq]
  by_cases e0 : a0 = b0 <;> by_cases e1 : a1 = b1 <;> by_cases e2 : a2 = b2 <;> simp [Program.fieldsOf, Try.underlying109, Op.eqFields, part, h3, Try.isAgg3, h9, Try.isAgg9, e0, e1, e2]
theorem zo110 : ZeroOf Try.prog 110 [.pv .nilm] := ⟨_, _, Try.zeroValue110, .inl rfl, rfl⟩
theorem zo118 : ZeroOf Try.prog 118 [.pv (.sl [])] := ⟨_, _, Try.zeroValue118, .inl rfl, rfl⟩
theorem zoN118 : ZeroOf Try.prog 118 [.pv .nils] := ⟨_, _, Try.zeroValue118, .inr rfl, rfl⟩
theorem so118 : SliceOf Try.prog 118 24 1 := ⟨Try.underlying118, Try.sizeOf24, by decide, _, Try.zeroValue24⟩
theorem ei24 : EI Try.prog 24 1 24 := EI.mk (z := (Value.agg #[(Value.slice none (0) (0))])) (by kernel_rfl) rfl (by decide) (by decide)
theorem zo125 : ZeroOf Try.prog 125 [.pv (.int .u64 0)] := ⟨_, _, Try.zeroValue125, .inl rfl, rfl⟩
theorem zo129 : ZeroOf Try.prog 129 [.pv .nilp] := ⟨_, _, Try.zeroValue129, .inl rfl, rfl⟩
theorem zo130 : ZeroOf Try.prog 130 [.pv (.sl [])] := ⟨_, _, Try.zeroValue130, .inl rfl, rfl⟩
theorem zoN130 : ZeroOf Try.prog 130 [.pv .nils] := ⟨_, _, Try.zeroValue130, .inr rfl, rfl⟩
theorem so130 : SliceOf Try.prog 130 5 1 := ⟨Try.underlying130, Try.sizeOf5, by decide, _, Try.zeroValue5⟩
theorem ei5 : EI Try.prog 5 1 1 := EI.mk (z := (Value.int IntKind.u8 (0))) (by kernel_rfl) rfl (by decide) (by decide)
theorem zo131 : ZeroOf Try.prog 131 [.pv .nilp, .pv (.sl [])] := ⟨_, _, Try.zeroValue131, .inl rfl, rfl⟩
theorem zoN131 : ZeroOf Try.prog 131 [.pv .nilp, .pv .nils] := ⟨_, _, Try.zeroValue131, .inr rfl, rfl⟩
theorem fo131_0 : FieldOf Try.prog 131 0 0 := by
  refine ⟨_, _, 0, Try.underlying131, rfl, rfl, ?_⟩
  exact Try.sizeOf129
theorem fv131_0 : FieldV1 Try.prog 131 0 0 := by
  refine ⟨_, _, Try.underlying131, rfl, rfl, ?_⟩
  exact Try.isAgg129
theorem fo131_1 : FieldOf Try.prog 131 1 1 := by
  refine ⟨_, _, 0, Try.underlying131, rfl, rfl, ?_⟩
  exact Try.sizeOf130
theorem fv131_1 : FieldV1 Try.prog 131 1 1 := by
  refine ⟨_, _, Try.underlying131, rfl, rfl, ?_⟩
  exact Try.isAgg130
theorem bo131 : BuildOf Try.prog 131 [(0, 1), (1, 1)] [.pv .nilp, .pv (.sl [])] := ⟨_, #[(0, 1), (1, 1)], _, _, Try.underlying131, Try.zeroValue131, .inl rfl, rfl, fun w => by simp [Try.sizeOf129, Try.sizeOf130], rfl⟩
theorem boN131 : BuildOf Try.prog 131 [(0, 1), (1, 1)] [.pv .nilp, .pv .nils] := ⟨_, #[(0, 1), (1, 1)], _, _, Try.underlying131, Try.zeroValue131, .inr rfl, rfl, fun w => by simp [Try.sizeOf129, Try.sizeOf130], rfl⟩
theorem zo132 : ZeroOf Try.prog 132 [.pv .nilp, .pv (.sl [])] := ⟨_, _, Try.zeroValue132, .inl rfl, rfl⟩
theorem zoN132 : ZeroOf Try.prog 132 [.pv .nilp, .pv .nils] := ⟨_, _, Try.zeroValue132, .inr rfl, rfl⟩
theorem fo132_0 : FieldOf Try.prog 132 0 0 := by
  refine ⟨_, _, 0, Try.underlying132, rfl, rfl, ?_⟩
  exact Try.sizeOf129
theorem fv132_0 : FieldV1 Try.prog 132 0 0 := by
  refine ⟨_, _, Try.underlying132, rfl, rfl, ?_⟩
  exact Try.isAgg129
theorem fo132_1 : FieldOf Try.prog 132 1 1 := by
  refine ⟨_, _, 0, Try.underlying132, rfl, rfl, ?_⟩
  exact Try.sizeOf130
theorem fv132_1 : FieldV1 Try.prog 132 1 1 := by
  refine ⟨_, _, Try.underlying132, rfl, rfl, ?_⟩
  exact Try.isAgg130
theorem bo132 : BuildOf Try.prog 132 [(0, 1), (1, 1)] [.pv .nilp, .pv (.sl [])] := ⟨_, #[(0, 1), (1, 1)], _, _, Try.underlying132, Try.zeroValue132, .inl rfl, rfl, fun w => by simp [Try.sizeOf129, Try.sizeOf130], rfl⟩
theorem boN132 : BuildOf Try.prog 132 [(0, 1), (1, 1)] [.pv .nilp, .pv .nils] := ⟨_, #[(0, 1), (1, 1)], _, _, Try.underlying132, Try.zeroValue132, .inr rfl, rfl, fun w => by simp [Try.sizeOf129, Try.sizeOf130], rfl⟩
theorem zo143 : ZeroOf Try.prog 143 [.pv (.int .i64 0), .pv (.str ⟨#[]⟩), .pv (.int .i64 0), .pv (.int .i64 0)] := ⟨_, _, Try.zeroValue143, .inl rfl, rfl⟩
theorem fo143_0 : FieldOf Try.prog 143 0 0 := by
  refine ⟨_, _, 2, Try.underlying143, rfl, rfl, ?_⟩
  exact Try.sizeOf109
theorem fv143_0 : FieldVn Try.prog 143 0 0 3 := by
  refine ⟨_, _, Try.underlying143, rfl, rfl, ?_, ?_, by decide⟩
  · exact Try.isAgg109
  · exact Try.sizeOf109
theorem fo143_1 : FieldOf Try.prog 143 1 3 := by
  refine ⟨_, _, 0, Try.underlying143, rfl, rfl, ?_⟩
  exact Try.sizeOf40
theorem fv143_1 : FieldV1 Try.prog 143 1 3 := by
  refine ⟨_, _, Try.underlying143, rfl, rfl, ?_⟩
  exact Try.isAgg40
theorem bo143 : BuildOf Try.prog 143 [(0, 3), (3, 1)] [.pv (.int .i64 0), .pv (.str ⟨#[]⟩), .pv (.int .i64 0), .pv (.int .i64 0)] := ⟨_, #[(0, 3), (3, 1)], _, _, Try.underlying143, Try.zeroValue143, .inl rfl, rfl, fun w => by simp [Try.sizeOf40, Try.sizeOf109], rfl⟩
theorem zo144 : ZeroOf Try.prog 144 [.pv (.int .i64 0), .pv (.str ⟨#[]⟩), .pv (.int .i64 0), .pv (.int .i64 0)] := ⟨_, _, Try.zeroValue144, .inl rfl, rfl⟩
theorem fo144_0 : FieldOf Try.prog 144 0 0 := by
  refine ⟨_, _, 2, Try.underlying144, rfl, rfl, ?_⟩
  exact Try.sizeOf109
theorem fv144_0 : FieldVn Try.prog 144 0 0 3 := by
  refine ⟨_, _, Try.underlying144, rfl, rfl, ?_, ?_, by decide⟩
  · exact Try.isAgg109
  · exact Try.sizeOf109
theorem fo144_1 : FieldOf Try.prog 144 1 3 := by
  refine ⟨_, _, 0, Try.underlying144, rfl, rfl, ?_⟩
  exact Try.sizeOf40
theorem fv144_1 : FieldV1 Try.prog 144 1 3 := by
  refine ⟨_, _, Try.underlying144, rfl, rfl, ?_⟩
  exact Try.isAgg40
theorem bo144 : BuildOf Try.prog 144 [(0, 3), (3, 1)] [.pv (.int .i64 0), .pv (.str ⟨#[]⟩), .pv (.int .i64 0), .pv (.int .i64 0)] := ⟨_, #[(0, 3), (3, 1)], _, _, Try.underlying144, Try.zeroValue144, .inl rfl, rfl, fun w => by simp [Try.sizeOf40, Try.sizeOf109], rfl⟩
theorem zo151 : ZeroOf Try.prog 151 [.pv (.str ⟨#[]⟩), .pv (.str ⟨#[]⟩), .pv (.str ⟨#[]⟩), .pv (.str ⟨#[]⟩), .pv (.str ⟨#[]⟩), .pv (.str ⟨#[]⟩)] := ⟨_, _, Try.zeroValue151, .inl rfl, rfl⟩
theorem ao151 : ArrayOf Try.prog 151 1 [.pv (.str ⟨#[]⟩), .pv (.str ⟨#[]⟩), .pv (.str ⟨#[]⟩), .pv (.str ⟨#[]⟩), .pv (.str ⟨#[]⟩), .pv (.str ⟨#[]⟩)] := ⟨_, _, _, _, Try.underlying151, Try.zeroValue151, .inl rfl, rfl, Try.sizeOf9⟩
theorem zo152 : ZeroOf Try.prog 152 [.pv (.int .i64 0), .pv (.int .i64 0), .pv (.int .i64 0), .pv (.int .i64 0), .pv (.int .i64 0), .pv (.int .i64 0)] := ⟨_, _, Try.zeroValue152, .inl rfl, rfl⟩
theorem ao152 : ArrayOf Try.prog 152 1 [.pv (.int .i64 0), .pv (.int .i64 0), .pv (.int .i64 0), .pv (.int .i64 0), .pv (.int .i64 0), .pv (.int .i64 0)] := ⟨_, _, _, _, Try.underlying152, Try.zeroValue152, .inl rfl, rfl, Try.sizeOf3⟩
theorem zo156 : ZeroOf Try.prog 156 [.pv .nilp] := ⟨_, _, Try.zeroValue156, .inl rfl, rfl⟩
theorem zo165 : ZeroOf Try.prog 165 [.pv (.int .i64 0)] := ⟨_, _, Try.zeroValue165, .inl rfl, rfl⟩
theorem zo173 : ZeroOf Try.prog 173 [.pv (.int .u32 0)] := ⟨_, _, Try.zeroValue173, .inl rfl, rfl⟩
theorem zo175 : ZeroOf Try.prog 175 [.pv (.int .u64 0)] := ⟨_, _, Try.zeroValue175, .inl rfl, rfl⟩
theorem zo178 : ZeroOf Try.prog 178 [.pv .nilp] := ⟨_, _, Try.zeroValue178, .inl rfl, rfl⟩
theorem zo181 : ZeroOf Try.prog 181 [.pv (.int .u64 0)] := ⟨_, _, Try.zeroValue181, .inl rfl, rfl⟩
theorem zo185 : ZeroOf Try.prog 185 [.pv .nilp] := ⟨_, _, Try.zeroValue185, .inl rfl, rfl⟩
theorem zo187 : ZeroOf Try.prog 187 [.pv .nilp] := ⟨_, _, Try.zeroValue187, .inl rfl, rfl⟩
theorem zo190 : ZeroOf Try.prog 190 [.pv .nilp, .pv .nilp, .pv .nilp, .pv (.str ⟨#[]⟩)] := ⟨_, _, Try.zeroValue190, .inl rfl, rfl⟩
theorem fo190_0 : FieldOf Try.prog 190 0 0 := by
  refine ⟨_, _, 0, Try.underlying190, rfl, rfl, ?_⟩
  exact Try.sizeOf17
theorem fv190_0 : FieldV1 Try.prog 190 0 0 := by
  refine ⟨_, _, Try.underlying190, rfl, rfl, ?_⟩
  exact Try.isAgg17
theorem fo190_1 : FieldOf Try.prog 190 1 1 := by
  refine ⟨_, _, 0, Try.underlying190, rfl, rfl, ?_⟩
  exact Try.sizeOf17
theorem fv190_1 : FieldV1 Try.prog 190 1 1 := by
  refine ⟨_, _, Try.underlying190, rfl, rfl, ?_⟩
  exact Try.isAgg17
theorem fo190_2 : FieldOf Try.prog 190 2 2 := by
  refine ⟨_, _, 0, Try.underlying190, rfl, rfl, ?_⟩
  exact Try.sizeOf17
theorem fv190_2 : FieldV1 Try.prog 190 2 2 := by
  refine ⟨_, _, Try.underlying190, rfl, rfl, ?_⟩
  exact Try.isAgg17
theorem fo190_3 : FieldOf Try.prog 190 3 3 := by
  refine ⟨_, _, 0, Try.underlying190, rfl, rfl, ?_⟩
  exact Try.sizeOf9
theorem fv190_3 : FieldV1 Try.prog 190 3 3 := by
  refine ⟨_, _, Try.underlying190, rfl, rfl, ?_⟩
  exact Try.isAgg9
theorem bo190 : BuildOf Try.prog 190 [(0, 1), (1, 1), (2, 1), (3, 1)] [.pv .nilp, .pv .nilp, .pv .nilp, .pv (.str ⟨#[]⟩)] := ⟨_, #[(0, 1), (1, 1), (2, 1), (3, 1)], _, _, Try.underlying190, Try.zeroValue190, .inl rfl, rfl, fun w => by simp [Try.sizeOf9, Try.sizeOf17], rfl⟩
theorem zo191 : ZeroOf Try.prog 191 [.pv .nilp, .pv .nilp, .pv .nilp, .pv (.str ⟨#[]⟩)] := ⟨_, _, Try.zeroValue191, .inl rfl, rfl⟩
theorem fo191_0 : FieldOf Try.prog 191 0 0 := by
  refine ⟨_, _, 0, Try.underlying191, rfl, rfl, ?_⟩
  exact Try.sizeOf17
theorem fv191_0 : FieldV1 Try.prog 191 0 0 := by
  refine ⟨_, _, Try.underlying191, rfl, rfl, ?_⟩
  exact Try.isAgg17
theorem fo191_1 : FieldOf Try.prog 191 1 1 := by
  refine ⟨_, _, 0, Try.underlying191, rfl, rfl, ?_⟩
  exact Try.sizeOf17
theorem fv191_1 : FieldV1 Try.prog 191 1 1 := by
  refine ⟨_, _, Try.underlying191, rfl, rfl, ?_⟩
  exact Try.isAgg17
theorem fo191_2 : FieldOf Try.prog 191 2 2 := by
  refine ⟨_, _, 0, Try.underlying191, rfl, rfl, ?_⟩
  exact Try.sizeOf17
theorem fv191_2 : FieldV1 Try.prog 191 2 2 := by
  refine ⟨_, _, Try.underlying191, rfl, rfl, ?_⟩
  exact Try.isAgg17
theorem fo191_3 : FieldOf Try.prog 191 3 3 := by
  refine ⟨_, _, 0, Try.underlying191, rfl, rfl, ?_⟩
  exact Try.sizeOf9
theorem fv191_3 : FieldV1 Try.prog 191 3 3 := by
  refine ⟨_, _, Try.underlying191, rfl, rfl, ?_⟩
  exact Try.isAgg9
theorem bo191 : BuildOf Try.prog 191 [(0, 1), (1, 1), (2, 1), (3, 1)] [.pv .nilp, .pv .nilp, .pv .nilp, .pv (.str ⟨#[]⟩)] := ⟨_, #[(0, 1), (1, 1), (2, 1), (3, 1)], _, _, Try.underlying191, Try.zeroValue191, .inl rfl, rfl, fun w => by simp [Try.sizeOf9, Try.sizeOf17], rfl⟩
theorem zo196 : ZeroOf Try.prog 196 [.pv (.int .u8 0)] := ⟨_, _, Try.zeroValue196, .inl rfl, rfl⟩
theorem zo197 : ZeroOf Try.prog 197 [.pv (.int .u8 0)] := ⟨_, _, Try.zeroValue197, .inl rfl, rfl⟩
theorem zo199 : ZeroOf Try.prog 199 [.pv (.int .i32 0)] := ⟨_, _, Try.zeroValue199, .inl rfl, rfl⟩
theorem zo200 : ZeroOf Try.prog 200 [.pv (.int .i32 0)] := ⟨_, _, Try.zeroValue200, .inl rfl, rfl⟩
theorem zo201 : ZeroOf Try.prog 201 [.pv (.int .u64 0), .pv (.int .u64 0), .pv (.int .u32 0), .pv (.int .u8 0), .pv (.int .u8 0), .pv (.int .u8 0), .pv (.int .u8 0), .pv .nilfn, .pv .nilp, .pv (.int .i32 0), .pv (.int .i32 0)] := ⟨_, _, Try.zeroValue201, .inl rfl, rfl⟩
theorem fo201_0 : FieldOf Try.prog 201 0 0 := by
  refine ⟨_, _, 0, Try.underlying201, rfl, rfl, ?_⟩
  exact Try.sizeOf12
theorem fv201_0 : FieldV1 Try.prog 201 0 0 := by
  refine ⟨_, _, Try.underlying201, rfl, rfl, ?_⟩
  exact Try.isAgg12
theorem fo201_1 : FieldOf Try.prog 201 1 1 := by
  refine ⟨_, _, 0, Try.underlying201, rfl, rfl, ?_⟩
  exact Try.sizeOf12
theorem fv201_1 : FieldV1 Try.prog 201 1 1 := by
  refine ⟨_, _, Try.underlying201, rfl, rfl, ?_⟩
  exact Try.isAgg12
theorem fo201_2 : FieldOf Try.prog 201 2 2 := by
  refine ⟨_, _, 0, Try.underlying201, rfl, rfl, ?_⟩
  exact Try.sizeOf173
theorem fv201_2 : FieldV1 Try.prog 201 2 2 := by
  refine ⟨_, _, Try.underlying201, rfl, rfl, ?_⟩
  exact Try.isAgg173
theorem fo201_3 : FieldOf Try.prog 201 3 3 := by
  refine ⟨_, _, 0, Try.underlying201, rfl, rfl, ?_⟩
  exact Try.sizeOf196
theorem fv201_3 : FieldV1 Try.prog 201 3 3 := by
  refine ⟨_, _, Try.underlying201, rfl, rfl, ?_⟩
  exact Try.isAgg196
theorem fo201_4 : FieldOf Try.prog 201 4 4 := by
  refine ⟨_, _, 0, Try.underlying201, rfl, rfl, ?_⟩
  exact Try.sizeOf5
theorem fv201_4 : FieldV1 Try.prog 201 4 4 := by
  refine ⟨_, _, Try.underlying201, rfl, rfl, ?_⟩
  exact Try.isAgg5
theorem fo201_5 : FieldOf Try.prog 201 5 5 := by
  refine ⟨_, _, 0, Try.underlying201, rfl, rfl, ?_⟩
  exact Try.sizeOf5
theorem fv201_5 : FieldV1 Try.prog 201 5 5 := by
  refine ⟨_, _, Try.underlying201, rfl, rfl, ?_⟩
  exact Try.isAgg5
theorem fo201_6 : FieldOf Try.prog 201 6 6 := by
  refine ⟨_, _, 0, Try.underlying201, rfl, rfl, ?_⟩
  exact Try.sizeOf197
theorem fv201_6 : FieldV1 Try.prog 201 6 6 := by
  refine ⟨_, _, Try.underlying201, rfl, rfl, ?_⟩
  exact Try.isAgg197
theorem fo201_7 : FieldOf Try.prog 201 7 7 := by
  refine ⟨_, _, 0, Try.underlying201, rfl, rfl, ?_⟩
  exact Try.sizeOf198
theorem fv201_7 : FieldV1 Try.prog 201 7 7 := by
  refine ⟨_, _, Try.underlying201, rfl, rfl, ?_⟩
  exact Try.isAgg198
theorem fo201_8 : FieldOf Try.prog 201 8 8 := by
  refine ⟨_, _, 0, Try.underlying201, rfl, rfl, ?_⟩
  exact Try.sizeOf156
theorem fv201_8 : FieldV1 Try.prog 201 8 8 := by
  refine ⟨_, _, Try.underlying201, rfl, rfl, ?_⟩
  exact Try.isAgg156
theorem fo201_9 : FieldOf Try.prog 201 9 9 := by
  refine ⟨_, _, 0, Try.underlying201, rfl, rfl, ?_⟩
  exact Try.sizeOf199
theorem fv201_9 : FieldV1 Try.prog 201 9 9 := by
  refine ⟨_, _, Try.underlying201, rfl, rfl, ?_⟩
  exact Try.isAgg199
theorem fo201_10 : FieldOf Try.prog 201 10 10 := by
  refine ⟨_, _, 0, Try.underlying201, rfl, rfl, ?_⟩
  exact Try.sizeOf200
theorem fv201_10 : FieldV1 Try.prog 201 10 10 := by
  refine ⟨_, _, Try.underlying201, rfl, rfl, ?_⟩
  exact Try.isAgg200
theorem bo201 : BuildOf Try.prog 201 [(0, 1), (1, 1), (2, 1), (3, 1), (4, 1), (5, 1), (6, 1), (7, 1), (8, 1), (9, 1), (10, 1)] [.pv (.int .u64 0), .pv (.int .u64 0), .pv (.int .u32 0), .pv (.int .u8 0), .pv (.int .u8 0), .pv (.int .u8 0), .pv (.int .u8 0), .pv .nilfn, .pv .nilp, .pv (.int .i32 0), .pv (.int .i32 0)] := ⟨_, #[(0, 1), (1, 1), (2, 1), (3, 1), (4, 1), (5, 1), (6, 1), (7, 1), (8, 1), (9, 1), (10, 1)], _, _, Try.underlying201, Try.zeroValue201, .inl rfl, rfl, fun w => by simp [Try.sizeOf5, Try.sizeOf12, Try.sizeOf156, Try.sizeOf173, Try.sizeOf196, Try.sizeOf197, Try.sizeOf198, Try.sizeOf199, Try.sizeOf200], rfl⟩
theorem zo202 : ZeroOf Try.prog 202 [.pv (.int .u64 0), .pv (.int .u64 0), .pv (.int .u32 0), .pv (.int .u8 0), .pv (.int .u8 0), .pv (.int .u8 0), .pv (.int .u8 0), .pv .nilfn, .pv .nilp, .pv (.int .i32 0), .pv (.int .i32 0)] := ⟨_, _, Try.zeroValue202, .inl rfl, rfl⟩
theorem fo202_0 : FieldOf Try.prog 202 0 0 := by
  refine ⟨_, _, 0, Try.underlying202, rfl, rfl, ?_⟩
  exact Try.sizeOf12
theorem fv202_0 : FieldV1 Try.prog 202 0 0 := by
  refine ⟨_, _, Try.underlying202, rfl, rfl, ?_⟩
  exact Try.isAgg12
theorem fo202_1 : FieldOf Try.prog 202 1 1 := by
  refine ⟨_, _, 0, Try.underlying202, rfl, rfl, ?_⟩
  exact Try.sizeOf12
theorem fv202_1 : FieldV1 Try.prog 202 1 1 := by
  refine ⟨_, _, Try.underlying202, rfl, rfl, ?_⟩
  exact Try.isAgg12
theorem fo202_2 : FieldOf Try.prog 202 2 2 := by
  refine ⟨_, _, 0, Try.underlying202, rfl, rfl, ?_⟩
  exact Try.sizeOf173
theorem fv202_2 : FieldV1 Try.prog 202 2 2 := by
  refine ⟨_, _, Try.underlying202, rfl, rfl, ?_⟩
  exact Try.isAgg173
theorem fo202_3 : FieldOf Try.prog 202 3 3 := by
  refine ⟨_, _, 0, Try.underlying202, rfl, rfl, ?_⟩
  exact Try.sizeOf196
theorem fv202_3 : FieldV1 Try.prog 202 3 3 := by
  refine ⟨_, _, Try.underlying202, rfl, rfl, ?_⟩
  exact Try.isAgg196
theorem fo202_4 : FieldOf Try.prog 202 4 4 := by
  refine ⟨_, _, 0, Try.underlying202, rfl, rfl, ?_⟩
  exact Try.sizeOf5
theorem fv202_4 : FieldV1 Try.prog 202 4 4 := by
  refine ⟨_, _, Try.underlying202, rfl, rfl, ?_⟩
  exact Try.isAgg5
theorem fo202_5 : FieldOf Try.prog 202 5 5 := by
  refine ⟨_, _, 0, Try.underlying202, rfl, rfl, ?_⟩
  exact Try.sizeOf5
theorem fv202_5 : FieldV1 Try.prog 202 5 5 := by
  refine ⟨_, _, Try.underlying202, rfl, rfl, ?_⟩
  exact Try.isAgg5
theorem fo202_6 : FieldOf Try.prog 202 6 6 := by
  refine ⟨_, _, 0, Try.underlying202, rfl, rfl, ?_⟩
  exact Try.sizeOf197
theorem fv202_6 : FieldV1 Try.prog 202 6 6 := by
  refine ⟨_, _, Try.underlying202, rfl, rfl, ?_⟩
  exact Try.isAgg197
theorem fo202_7 : FieldOf Try.prog 202 7 7 := by
  refine ⟨_, _, 0, Try.underlying202, rfl, rfl, ?_⟩
  exact Try.sizeOf198
theorem fv202_7 : FieldV1 Try.prog 202 7 7 := by
  refine ⟨_, _, Try.underlying202, rfl, rfl, ?_⟩
  exact Try.isAgg198
theorem fo202_8 : FieldOf Try.prog 202 8 8 := by
  refine ⟨_, _, 0, Try.underlying202, rfl, rfl, ?_⟩
  exact Try.sizeOf156
theorem fv202_8 : FieldV1 Try.prog 202 8 8 := by
  refine ⟨_, _, Try.underlying202, rfl, rfl, ?_⟩
  exact Try.isAgg156
theorem fo202_9 : FieldOf Try.prog 202 9 9 := by
  refine ⟨_, _, 0, Try.underlying202, rfl, rfl, ?_⟩
  exact Try.sizeOf199
theorem fv202_9 : FieldV1 Try.prog 202 9 9 := by
  refine ⟨_, _, Try.underlying202, rfl, rfl, ?_⟩
  exact Try.isAgg199
theorem fo202_10 : FieldOf Try.prog 202 10 10 := by
  refine ⟨_, _, 0, Try.underlying202, rfl, rfl, ?_⟩
  exact Try.sizeOf200
theorem fv202_10 : FieldV1 Try.prog 202 10 10 := by
  refine ⟨_, _, Try.underlying202, rfl, rfl, ?_⟩
  exact Try.isAgg200
theorem bo202 : BuildOf Try.prog 202 [(0, 1), (1, 1), (2, 1), (3, 1), (4, 1), (5, 1), (6, 1), (7, 1), (8, 1), (9, 1), (10, 1)] [.pv (.int .u64 0), .pv (.int .u64 0), .pv (.int .u32 0), .pv (.int .u8 0), .pv (.int .u8 0), .pv (.int .u8 0), .pv (.int .u8 0), .pv .nilfn, .pv .nilp, .pv (.int .i32 0), .pv (.int .i32 0)] := ⟨_, #[(0, 1), (1, 1), (2, 1), (3, 1), (4, 1), (5, 1), (6, 1), (7, 1), (8, 1), (9, 1), (10, 1)], _, _, Try.underlying202, Try.zeroValue202, .inl rfl, rfl, fun w => by simp [Try.sizeOf5, Try.sizeOf12, Try.sizeOf156, Try.sizeOf173, Try.sizeOf196, Try.sizeOf197, Try.sizeOf198, Try.sizeOf199, Try.sizeOf200], rfl⟩
end Go.Proofs.Ytdgoodjhndeojaa
