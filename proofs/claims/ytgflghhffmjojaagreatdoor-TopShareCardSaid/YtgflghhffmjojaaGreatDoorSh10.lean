/- TopShare is true in the evaluator. No conditions. -/
import Derived.Test.YtgflghhffmjojaaGreatDoorSh1
import Derived.Test.YtgflghhffmjojaaGreatDoorSh2
import Derived.Test.YtgflghhffmjojaaGreatDoorSh3
import Derived.Test.YtgflghhffmjojaaGreatDoorSh4
import Derived.Test.YtgflghhffmjojaaGreatDoorSh5
import Derived.Test.YtgflghhffmjojaaGreatDoorSh6
import Derived.Test.YtgflghhffmjojaaGreatDoorSh7
import Derived.Test.YtgflghhffmjojaaGreatDoorSh8
import Derived.Test.YtgflghhffmjojaaGreatDoorSh9
set_option linter.unusedVariables false
set_option maxRecDepth 100000
namespace Go.Proofs.YtgflghhffmjojaaGreatDoor.share
open Go Go.Ab
theorem v0 (x ob os ow oz ot : Int) : (List.range 63).map (FE.at ((wrN 0).f (.int .u32 0) ((wrN 20).f (.int .u32 0) ((wrN 19).f (.int .u32 x) (envK (EB x ob os ow oz ot) 0))))) = Eb0 x ob os ow oz ot := by kernel_rfl
theorem v1 (x ob os ow oz ot : Int) : (List.range 63).map (FE.at ((wrN 0).f (.int .u32 1) ((wrN 20).f (.int .u32 1) ((wrN 19).f (.int .u32 x) (envK (EB x ob os ow oz ot) 0))))) = Eb1 x ob os ow oz ot := by kernel_rfl
theorem v2 (x ob os ow oz ot : Int) : (List.range 63).map (FE.at ((wrN 0).f (.int .u32 2) ((wrN 20).f (.int .u32 2) ((wrN 19).f (.int .u32 x) (envK (EB x ob os ow oz ot) 0))))) = Eb2 x ob os ow oz ot := by kernel_rfl
theorem v3 (x ob os ow oz ot : Int) : (List.range 63).map (FE.at ((wrN 0).f (.int .u32 3) ((wrN 20).f (.int .u32 3) ((wrN 19).f (.int .u32 x) (envK (EB x ob os ow oz ot) 0))))) = Eb3 x ob os ow oz ot := by kernel_rfl
theorem v4 (x ob os ow oz ot : Int) : (List.range 63).map (FE.at ((wrN 0).f (.int .u32 4) ((wrN 20).f (.int .u32 4) ((wrN 19).f (.int .u32 x) (envK (EB x ob os ow oz ot) 0))))) = Eb4 x ob os ow oz ot := by kernel_rfl
theorem v5 (x ob os ow oz ot : Int) : (List.range 63).map (FE.at ((wrN 0).f (.int .u32 5) ((wrN 20).f (.int .u32 5) ((wrN 19).f (.int .u32 x) (envK (EB x ob os ow oz ot) 0))))) = Eb5 x ob os ow oz ot := by kernel_rfl
theorem v6 (x ob os ow oz ot : Int) : (List.range 63).map (FE.at ((wrN 0).f (.int .u32 6) ((wrN 20).f (.int .u32 6) ((wrN 19).f (.int .u32 x) (envK (EB x ob os ow oz ot) 0))))) = Eb6 x ob os ow oz ot := by kernel_rfl
theorem v7 (x ob os ow oz ot : Int) : (List.range 63).map (FE.at ((wrN 0).f (.int .u32 7) ((wrN 20).f (.int .u32 7) ((wrN 19).f (.int .u32 x) (envK (EB x ob os ow oz ot) 0))))) = Eb7 x ob os ow oz ot := by kernel_rfl
theorem says (x ob os ow oz ot : Int) (h : 0 ≤ x) : ∃ s', ev3 600 8 [.int .u32 x, .agg [.int .i64 ob, .int .i64 os, .int .i64 ow, .int .i64 oz, .int .i64 ot]] St.nil = some (.bool true, s') := by
  refine all_ev x ob os ow oz ot fun e s hE hS => ?_
  have h8 : x.tmod 8 = 0 ∨ x.tmod 8 = 1 ∨ x.tmod 8 = 2 ∨ x.tmod 8 = 3 ∨ x.tmod 8 = 4 ∨ x.tmod 8 = 5 ∨ x.tmod 8 = 6 ∨ x.tmod 8 = 7 := by
    rw [Int.tmod_eq_emod_of_nonneg h]; omega
  rcases h8 with e1 | e1 | e1 | e1 | e1 | e1 | e1 | e1 <;> rw [e1] at hE
  · exact tail (q0 x ob os ow oz ot) (q0_0 x ob os ow oz ot) (q0_1 x ob os ow oz ot) (q0_2 x ob os ow oz ot) (q0_3 x ob os ow oz ot) rfl (RE.vals hE (v0 x ob os ow oz ot)) hS
  · exact tail (q1 x ob os ow oz ot) (q1_0 x ob os ow oz ot) (q1_1 x ob os ow oz ot) (q1_2 x ob os ow oz ot) (q1_3 x ob os ow oz ot) rfl (RE.vals hE (v1 x ob os ow oz ot)) hS
  · exact tail (q2 x ob os ow oz ot) (q2_0 x ob os ow oz ot) (q2_1 x ob os ow oz ot) (q2_2 x ob os ow oz ot) (q2_3 x ob os ow oz ot) rfl (RE.vals hE (v2 x ob os ow oz ot)) hS
  · exact tail (q3 x ob os ow oz ot) (q3_0 x ob os ow oz ot) (q3_1 x ob os ow oz ot) (q3_2 x ob os ow oz ot) (q3_3 x ob os ow oz ot) rfl (RE.vals hE (v3 x ob os ow oz ot)) hS
  · exact tail (q4 x ob os ow oz ot) (q4_0 x ob os ow oz ot) (q4_1 x ob os ow oz ot) (q4_2 x ob os ow oz ot) (q4_3 x ob os ow oz ot) rfl (RE.vals hE (v4 x ob os ow oz ot)) hS
  · exact tail (q5 x ob os ow oz ot) (q5_0 x ob os ow oz ot) (q5_1 x ob os ow oz ot) (q5_2 x ob os ow oz ot) (q5_3 x ob os ow oz ot) rfl (RE.vals hE (v5 x ob os ow oz ot)) hS
  · exact tail (q6 x ob os ow oz ot) (q6_0 x ob os ow oz ot) (q6_1 x ob os ow oz ot) (q6_2 x ob os ow oz ot) (q6_3 x ob os ow oz ot) rfl (RE.vals hE (v6 x ob os ow oz ot)) hS
  · exact tail (q7 x ob os ow oz ot) (q7_0 x ob os ow oz ot) (q7_1 x ob os ow oz ot) (q7_2 x ob os ow oz ot) (q7_3 x ob os ow oz ot) rfl (RE.vals hE (v7 x ob os ow oz ot)) hS
end Go.Proofs.YtgflghhffmjojaaGreatDoor.share
