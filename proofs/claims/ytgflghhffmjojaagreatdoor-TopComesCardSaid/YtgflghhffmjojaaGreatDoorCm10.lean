/- TopComes is true in the evaluator. No conditions. -/
import Derived.Test.YtgflghhffmjojaaGreatDoorCm9
import Derived.Test.YtgflghhffmjojaaGreatDoorCm1b
import Derived.Test.YtgflghhffmjojaaGreatDoorCm2b
import Derived.Test.YtgflghhffmjojaaGreatDoorCm3b
set_option linter.unusedVariables false
set_option maxRecDepth 100000
namespace Go.Proofs.YtgflghhffmjojaaGreatDoor.comes
open Go Go.Ab
theorem v0 (x ob os ow oz ot : Int) : (List.range 89).map (FE.at ((wrN 0).f (.int .i64 3) ((wrN 19).f (.int .i64 3) ((wrN 18).f (.int .i64 0) ((wrN 17).f (.int .i64 x) (envK (EA x ob os ow oz ot) 0)))))) = Eb0 x ob os ow oz ot := by kernel_rfl
theorem t0 (x ob os ow oz ot : Int) {e : Env} {s : St} (hE : RE 89 ((wrN 0).f (.int .i64 (3 + 0)) ((wrN 19).f (.int .i64 (3 + 0)) ((wrN 18).f (.int .i64 0) ((wrN 17).f (.int .i64 x) (envK (EA x ob os ow oz ot) 0))))) e) (hS : RS (mkS 5005 (BA x ob os ow oz ot)) s) :
    ∃ e' s', seqR (cv (.seq (.seq c4 c5) cX) e s) (fun e s => seqR (cv (.seq c8 c9) e s) (fun e s => seqR (blockR 2 (iter (cv M7b3) M7b3l 599 e s)) (cv M7r3))) = some (.ret, e', s') ∧ e'.at 4 = .bool true :=
  tail (q0 x ob os ow oz ot) (good_log (ob := ob) (os := os) (ow := ow) (oz := oz) (ot := ot) (by simp)) (q0_k x ob os ow oz ot)
    (fun e s h h' => round (q0_0a x ob os ow oz ot) (q0_0f x ob os ow oz ot) (q0_0g x ob os ow oz ot) (q0_0h x ob os ow oz ot) (q0_0x x ob os ow oz ot) (q0_0y x ob os ow oz ot) (q0_0z x ob os ow oz ot) h h')
    (fun e s h h' => round (q0_1a x ob os ow oz ot) (q0_1f x ob os ow oz ot) (q0_1g x ob os ow oz ot) (q0_1h x ob os ow oz ot) (q0_1x x ob os ow oz ot) (q0_1y x ob os ow oz ot) (q0_1z x ob os ow oz ot) h h')
    (q0_e x ob os ow oz ot) (q0_d x ob os ow oz ot) rfl (RE.vals hE (v0 x ob os ow oz ot)) hS
theorem v1 (x ob os ow oz ot : Int) : (List.range 89).map (FE.at ((wrN 0).f (.int .i64 4) ((wrN 19).f (.int .i64 4) ((wrN 18).f (.int .i64 1) ((wrN 17).f (.int .i64 x) (envK (EA x ob os ow oz ot) 0)))))) = Eb1 x ob os ow oz ot := by kernel_rfl
theorem t1 (x ob os ow oz ot : Int) {e : Env} {s : St} (hE : RE 89 ((wrN 0).f (.int .i64 (3 + 1)) ((wrN 19).f (.int .i64 (3 + 1)) ((wrN 18).f (.int .i64 1) ((wrN 17).f (.int .i64 x) (envK (EA x ob os ow oz ot) 0))))) e) (hS : RS (mkS 5005 (BA x ob os ow oz ot)) s) :
    ∃ e' s', seqR (cv (.seq (.seq c4 c5) cX) e s) (fun e s => seqR (cv (.seq c8 c9) e s) (fun e s => seqR (blockR 2 (iter (cv M7b3) M7b3l 599 e s)) (cv M7r3))) = some (.ret, e', s') ∧ e'.at 4 = .bool true :=
  tail (q1 x ob os ow oz ot) (good_log (ob := ob) (os := os) (ow := ow) (oz := oz) (ot := ot) (by simp)) (q1_k x ob os ow oz ot)
    (fun e s h h' => round (q1_0a x ob os ow oz ot) (q1_0f x ob os ow oz ot) (q1_0g x ob os ow oz ot) (q1_0h x ob os ow oz ot) (q1_0x x ob os ow oz ot) (q1_0y x ob os ow oz ot) (q1_0z x ob os ow oz ot) h h')
    (fun e s h h' => round (q1_1a x ob os ow oz ot) (q1_1f x ob os ow oz ot) (q1_1g x ob os ow oz ot) (q1_1h x ob os ow oz ot) (q1_1x x ob os ow oz ot) (q1_1y x ob os ow oz ot) (q1_1z x ob os ow oz ot) h h')
    (q1_e x ob os ow oz ot) (q1_d x ob os ow oz ot) rfl (RE.vals hE (v1 x ob os ow oz ot)) hS
theorem v2 (x ob os ow oz ot : Int) : (List.range 89).map (FE.at ((wrN 0).f (.int .i64 5) ((wrN 19).f (.int .i64 5) ((wrN 18).f (.int .i64 2) ((wrN 17).f (.int .i64 x) (envK (EA x ob os ow oz ot) 0)))))) = Eb2 x ob os ow oz ot := by kernel_rfl
theorem t2 (x ob os ow oz ot : Int) {e : Env} {s : St} (hE : RE 89 ((wrN 0).f (.int .i64 (3 + 2)) ((wrN 19).f (.int .i64 (3 + 2)) ((wrN 18).f (.int .i64 2) ((wrN 17).f (.int .i64 x) (envK (EA x ob os ow oz ot) 0))))) e) (hS : RS (mkS 5005 (BA x ob os ow oz ot)) s) :
    ∃ e' s', seqR (cv (.seq (.seq c4 c5) cX) e s) (fun e s => seqR (cv (.seq c8 c9) e s) (fun e s => seqR (blockR 2 (iter (cv M7b3) M7b3l 599 e s)) (cv M7r3))) = some (.ret, e', s') ∧ e'.at 4 = .bool true :=
  tail (q2 x ob os ow oz ot) (good_log (ob := ob) (os := os) (ow := ow) (oz := oz) (ot := ot) (by simp)) (q2_k x ob os ow oz ot)
    (fun e s h h' => round (q2_0a x ob os ow oz ot) (q2_0f x ob os ow oz ot) (q2_0g x ob os ow oz ot) (q2_0h x ob os ow oz ot) (q2_0x x ob os ow oz ot) (q2_0y x ob os ow oz ot) (q2_0z x ob os ow oz ot) h h')
    (fun e s h h' => round (q2_1a x ob os ow oz ot) (q2_1f x ob os ow oz ot) (q2_1g x ob os ow oz ot) (q2_1h x ob os ow oz ot) (q2_1x x ob os ow oz ot) (q2_1y x ob os ow oz ot) (q2_1z x ob os ow oz ot) h h')
    (q2_e x ob os ow oz ot) (q2_d x ob os ow oz ot) rfl (RE.vals hE (v2 x ob os ow oz ot)) hS
theorem says (x ob os ow oz ot : Int) : ∃ s', ev3 600 7 [.int .i64 x, .agg [.int .i64 ob, .int .i64 os, .int .i64 ow, .int .i64 oz, .int .i64 ot]] St.nil = some (.bool true, s') := by
  obtain ⟨r, h3, hr⟩ := small_ev x
  refine all_ev x ob os ow oz ot r hr h3 fun e s hE hS => ?_
  rcases h3 with rfl | rfl | rfl
  · exact t0 x ob os ow oz ot hE hS
  · exact t1 x ob os ow oz ot hE hS
  · exact t2 x ob os ow oz ot hE hS
end Go.Proofs.YtgflghhffmjojaaGreatDoor.comes
