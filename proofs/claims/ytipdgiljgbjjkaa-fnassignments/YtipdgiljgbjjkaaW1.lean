/-
  Walks: each Go function, called with what reads as plain data, returns what its plain program computes.
  Conditions: None beyond the given statement.
-/
import Derived.Test.YtipdgiljgbjjkaaW0
namespace Go.Proofs.Ytipdgiljgbjjkaa
open Go
attribute [local irreducible] setL setB opA fineI idleI fineB evB okB markB markBs readyB readyBs chainB lk rho pickL dropSlot tailOK
set_option maxRecDepth 100000 in
set_option maxHeartbeats 4000000 in
theorem w_math_bits_OnesCount64 (h : Heap) (x_ : Int) (n : Nat) (r : Int) (hF : math_bits_OnesCount64 x_ n = some r) :
    Fn Try.prog 185 #[.int .u64 x_] h fun v h' => v = .int .i64 r ∧ h' = h := by
  unfold math_bits_OnesCount64 at hF
  refine Fn_enter (args := [.int .u64 x_]) Try.func185 rfl (by kernel_rfl) (by kernel_rfl) (fun w0 _ => ?_)
  refine Run_seq ?_
  refine Run_reg 1 (by kernel_rfl) (L' := [(0, .int .u64 x_)]) ?_ ?_
  · refine QRun_b [.int .i64 0] 0 _ (by kernel_rfl) (fun w => by kernel_rfl) ?_
    exact QRun_done [0] (by kernel_rfl) (by kernel_rfl)
  refine Run_seq ?_
  obtain ⟨u1, hz1, hF⟩ := M.bind_some hF
  have hz1 := M.guard_some hz1
  refine Run_reg 7 (by kernel_rfl) (L' := [(0, .int .u64 (IntKind.u64.wrap ((ibit .and .u64 (ishr .u64 x_ 1) 6148914691236517205) + (ibit .and .u64 x_ 6148914691236517205))))]) ?_ ?_
  · refine QRun_b [.int .u64 x_] 0 _ (by kernel_rfl) (fun w => by kernel_rfl) ?_
    refine QRun_y (.int .u64 (ishr .u64 x_ 1)) (by kernel_rfl) (Y_shr (k := .u64) (x := x_) (kk := .u64) (y := 1) (by kernel_rfl) hz1) ?_
    refine QRun_b [.int .u64 (ibit .and .u64 (ishr .u64 x_ 1) 6148914691236517205), .int .u64 x_, .int .u64 (ibit .and .u64 x_ 6148914691236517205), .int .u64 (IntKind.u64.wrap ((ibit .and .u64 (ishr .u64 x_ 1) 6148914691236517205) + (ibit .and .u64 x_ 6148914691236517205))), .int .u64 (IntKind.u64.wrap ((ibit .and .u64 (ishr .u64 x_ 1) 6148914691236517205) + (ibit .and .u64 x_ 6148914691236517205)))] 2 _ (by kernel_rfl) (fun w => by kernel_rfl) ?_
    exact QRun_done [0] (by kernel_rfl) (by kernel_rfl)
  refine Run_seq ?_
  obtain ⟨u2, hz2, hF⟩ := M.bind_some hF
  have hz2 := M.guard_some hz2
  refine Run_reg 7 (by kernel_rfl) (L' := [(0, .int .u64 (IntKind.u64.wrap ((ibit .and .u64 (ishr .u64 (IntKind.u64.wrap ((ibit .and .u64 (ishr .u64 x_ 1) 6148914691236517205) + (ibit .and .u64 x_ 6148914691236517205))) 2) 3689348814741910323) + (ibit .and .u64 (IntKind.u64.wrap ((ibit .and .u64 (ishr .u64 x_ 1) 6148914691236517205) + (ibit .and .u64 x_ 6148914691236517205))) 3689348814741910323))))]) ?_ ?_
  · refine QRun_b [.int .u64 (IntKind.u64.wrap ((ibit .and .u64 (ishr .u64 x_ 1) 6148914691236517205) + (ibit .and .u64 x_ 6148914691236517205)))] 0 _ (by kernel_rfl) (fun w => by kernel_rfl) ?_
    refine QRun_y (.int .u64 (ishr .u64 (IntKind.u64.wrap ((ibit .and .u64 (ishr .u64 x_ 1) 6148914691236517205) + (ibit .and .u64 x_ 6148914691236517205))) 2)) (by kernel_rfl) (Y_shr (k := .u64) (x := IntKind.u64.wrap ((ibit .and .u64 (ishr .u64 x_ 1) 6148914691236517205) + (ibit .and .u64 x_ 6148914691236517205))) (kk := .u64) (y := 2) (by kernel_rfl) hz2) ?_
    refine QRun_b [.int .u64 (ibit .and .u64 (ishr .u64 (IntKind.u64.wrap ((ibit .and .u64 (ishr .u64 x_ 1) 6148914691236517205) + (ibit .and .u64 x_ 6148914691236517205))) 2) 3689348814741910323), .int .u64 (IntKind.u64.wrap ((ibit .and .u64 (ishr .u64 x_ 1) 6148914691236517205) + (ibit .and .u64 x_ 6148914691236517205))), .int .u64 (ibit .and .u64 (IntKind.u64.wrap ((ibit .and .u64 (ishr .u64 x_ 1) 6148914691236517205) + (ibit .and .u64 x_ 6148914691236517205))) 3689348814741910323), .int .u64 (IntKind.u64.wrap ((ibit .and .u64 (ishr .u64 (IntKind.u64.wrap ((ibit .and .u64 (ishr .u64 x_ 1) 6148914691236517205) + (ibit .and .u64 x_ 6148914691236517205))) 2) 3689348814741910323) + (ibit .and .u64 (IntKind.u64.wrap ((ibit .and .u64 (ishr .u64 x_ 1) 6148914691236517205) + (ibit .and .u64 x_ 6148914691236517205))) 3689348814741910323))), .int .u64 (IntKind.u64.wrap ((ibit .and .u64 (ishr .u64 (IntKind.u64.wrap ((ibit .and .u64 (ishr .u64 x_ 1) 6148914691236517205) + (ibit .and .u64 x_ 6148914691236517205))) 2) 3689348814741910323) + (ibit .and .u64 (IntKind.u64.wrap ((ibit .and .u64 (ishr .u64 x_ 1) 6148914691236517205) + (ibit .and .u64 x_ 6148914691236517205))) 3689348814741910323)))] 2 _ (by kernel_rfl) (fun w => by kernel_rfl) ?_
    exact QRun_done [0] (by kernel_rfl) (by kernel_rfl)
  refine Run_seq ?_
  obtain ⟨u3, hz3, hF⟩ := M.bind_some hF
  have hz3 := M.guard_some hz3
  refine Run_reg 6 (by kernel_rfl) (L' := [(0, .int .u64 (ibit .and .u64 (IntKind.u64.wrap ((ishr .u64 (IntKind.u64.wrap ((ibit .and .u64 (ishr .u64 (IntKind.u64.wrap ((ibit .and .u64 (ishr .u64 x_ 1) 6148914691236517205) + (ibit .and .u64 x_ 6148914691236517205))) 2) 3689348814741910323) + (ibit .and .u64 (IntKind.u64.wrap ((ibit .and .u64 (ishr .u64 x_ 1) 6148914691236517205) + (ibit .and .u64 x_ 6148914691236517205))) 3689348814741910323))) 4) + (IntKind.u64.wrap ((ibit .and .u64 (ishr .u64 (IntKind.u64.wrap ((ibit .and .u64 (ishr .u64 x_ 1) 6148914691236517205) + (ibit .and .u64 x_ 6148914691236517205))) 2) 3689348814741910323) + (ibit .and .u64 (IntKind.u64.wrap ((ibit .and .u64 (ishr .u64 x_ 1) 6148914691236517205) + (ibit .and .u64 x_ 6148914691236517205))) 3689348814741910323))))) 1085102592571150095))]) ?_ ?_
  · refine QRun_b [.int .u64 (IntKind.u64.wrap ((ibit .and .u64 (ishr .u64 (IntKind.u64.wrap ((ibit .and .u64 (ishr .u64 x_ 1) 6148914691236517205) + (ibit .and .u64 x_ 6148914691236517205))) 2) 3689348814741910323) + (ibit .and .u64 (IntKind.u64.wrap ((ibit .and .u64 (ishr .u64 x_ 1) 6148914691236517205) + (ibit .and .u64 x_ 6148914691236517205))) 3689348814741910323)))] 0 _ (by kernel_rfl) (fun w => by kernel_rfl) ?_
    refine QRun_y (.int .u64 (ishr .u64 (IntKind.u64.wrap ((ibit .and .u64 (ishr .u64 (IntKind.u64.wrap ((ibit .and .u64 (ishr .u64 x_ 1) 6148914691236517205) + (ibit .and .u64 x_ 6148914691236517205))) 2) 3689348814741910323) + (ibit .and .u64 (IntKind.u64.wrap ((ibit .and .u64 (ishr .u64 x_ 1) 6148914691236517205) + (ibit .and .u64 x_ 6148914691236517205))) 3689348814741910323))) 4)) (by kernel_rfl) (Y_shr (k := .u64) (x := IntKind.u64.wrap ((ibit .and .u64 (ishr .u64 (IntKind.u64.wrap ((ibit .and .u64 (ishr .u64 x_ 1) 6148914691236517205) + (ibit .and .u64 x_ 6148914691236517205))) 2) 3689348814741910323) + (ibit .and .u64 (IntKind.u64.wrap ((ibit .and .u64 (ishr .u64 x_ 1) 6148914691236517205) + (ibit .and .u64 x_ 6148914691236517205))) 3689348814741910323))) (kk := .u64) (y := 4) (by kernel_rfl) hz3) ?_
    refine QRun_b [.int .u64 (IntKind.u64.wrap ((ibit .and .u64 (ishr .u64 (IntKind.u64.wrap ((ibit .and .u64 (ishr .u64 x_ 1) 6148914691236517205) + (ibit .and .u64 x_ 6148914691236517205))) 2) 3689348814741910323) + (ibit .and .u64 (IntKind.u64.wrap ((ibit .and .u64 (ishr .u64 x_ 1) 6148914691236517205) + (ibit .and .u64 x_ 6148914691236517205))) 3689348814741910323))), .int .u64 (IntKind.u64.wrap ((ishr .u64 (IntKind.u64.wrap ((ibit .and .u64 (ishr .u64 (IntKind.u64.wrap ((ibit .and .u64 (ishr .u64 x_ 1) 6148914691236517205) + (ibit .and .u64 x_ 6148914691236517205))) 2) 3689348814741910323) + (ibit .and .u64 (IntKind.u64.wrap ((ibit .and .u64 (ishr .u64 x_ 1) 6148914691236517205) + (ibit .and .u64 x_ 6148914691236517205))) 3689348814741910323))) 4) + (IntKind.u64.wrap ((ibit .and .u64 (ishr .u64 (IntKind.u64.wrap ((ibit .and .u64 (ishr .u64 x_ 1) 6148914691236517205) + (ibit .and .u64 x_ 6148914691236517205))) 2) 3689348814741910323) + (ibit .and .u64 (IntKind.u64.wrap ((ibit .and .u64 (ishr .u64 x_ 1) 6148914691236517205) + (ibit .and .u64 x_ 6148914691236517205))) 3689348814741910323))))), .int .u64 (ibit .and .u64 (IntKind.u64.wrap ((ishr .u64 (IntKind.u64.wrap ((ibit .and .u64 (ishr .u64 (IntKind.u64.wrap ((ibit .and .u64 (ishr .u64 x_ 1) 6148914691236517205) + (ibit .and .u64 x_ 6148914691236517205))) 2) 3689348814741910323) + (ibit .and .u64 (IntKind.u64.wrap ((ibit .and .u64 (ishr .u64 x_ 1) 6148914691236517205) + (ibit .and .u64 x_ 6148914691236517205))) 3689348814741910323))) 4) + (IntKind.u64.wrap ((ibit .and .u64 (ishr .u64 (IntKind.u64.wrap ((ibit .and .u64 (ishr .u64 x_ 1) 6148914691236517205) + (ibit .and .u64 x_ 6148914691236517205))) 2) 3689348814741910323) + (ibit .and .u64 (IntKind.u64.wrap ((ibit .and .u64 (ishr .u64 x_ 1) 6148914691236517205) + (ibit .and .u64 x_ 6148914691236517205))) 3689348814741910323))))) 1085102592571150095), .int .u64 (ibit .and .u64 (IntKind.u64.wrap ((ishr .u64 (IntKind.u64.wrap ((ibit .and .u64 (ishr .u64 (IntKind.u64.wrap ((ibit .and .u64 (ishr .u64 x_ 1) 6148914691236517205) + (ibit .and .u64 x_ 6148914691236517205))) 2) 3689348814741910323) + (ibit .and .u64 (IntKind.u64.wrap ((ibit .and .u64 (ishr .u64 x_ 1) 6148914691236517205) + (ibit .and .u64 x_ 6148914691236517205))) 3689348814741910323))) 4) + (IntKind.u64.wrap ((ibit .and .u64 (ishr .u64 (IntKind.u64.wrap ((ibit .and .u64 (ishr .u64 x_ 1) 6148914691236517205) + (ibit .and .u64 x_ 6148914691236517205))) 2) 3689348814741910323) + (ibit .and .u64 (IntKind.u64.wrap ((ibit .and .u64 (ishr .u64 x_ 1) 6148914691236517205) + (ibit .and .u64 x_ 6148914691236517205))) 3689348814741910323))))) 1085102592571150095)] 2 _ (by kernel_rfl) (fun w => by kernel_rfl) ?_
    exact QRun_done [0] (by kernel_rfl) (by kernel_rfl)
  refine Run_seq ?_
  obtain ⟨u4, hz4, hF⟩ := M.bind_some hF
  have hz4 := M.guard_some hz4
  refine Run_reg 5 (by kernel_rfl) (L' := [(0, .int .u64 (IntKind.u64.wrap ((ibit .and .u64 (IntKind.u64.wrap ((ishr .u64 (IntKind.u64.wrap ((ibit .and .u64 (ishr .u64 (IntKind.u64.wrap ((ibit .and .u64 (ishr .u64 x_ 1) 6148914691236517205) + (ibit .and .u64 x_ 6148914691236517205))) 2) 3689348814741910323) + (ibit .and .u64 (IntKind.u64.wrap ((ibit .and .u64 (ishr .u64 x_ 1) 6148914691236517205) + (ibit .and .u64 x_ 6148914691236517205))) 3689348814741910323))) 4) + (IntKind.u64.wrap ((ibit .and .u64 (ishr .u64 (IntKind.u64.wrap ((ibit .and .u64 (ishr .u64 x_ 1) 6148914691236517205) + (ibit .and .u64 x_ 6148914691236517205))) 2) 3689348814741910323) + (ibit .and .u64 (IntKind.u64.wrap ((ibit .and .u64 (ishr .u64 x_ 1) 6148914691236517205) + (ibit .and .u64 x_ 6148914691236517205))) 3689348814741910323))))) 1085102592571150095) + (ishr .u64 (ibit .and .u64 (IntKind.u64.wrap ((ishr .u64 (IntKind.u64.wrap ((ibit .and .u64 (ishr .u64 (IntKind.u64.wrap ((ibit .and .u64 (ishr .u64 x_ 1) 6148914691236517205) + (ibit .and .u64 x_ 6148914691236517205))) 2) 3689348814741910323) + (ibit .and .u64 (IntKind.u64.wrap ((ibit .and .u64 (ishr .u64 x_ 1) 6148914691236517205) + (ibit .and .u64 x_ 6148914691236517205))) 3689348814741910323))) 4) + (IntKind.u64.wrap ((ibit .and .u64 (ishr .u64 (IntKind.u64.wrap ((ibit .and .u64 (ishr .u64 x_ 1) 6148914691236517205) + (ibit .and .u64 x_ 6148914691236517205))) 2) 3689348814741910323) + (ibit .and .u64 (IntKind.u64.wrap ((ibit .and .u64 (ishr .u64 x_ 1) 6148914691236517205) + (ibit .and .u64 x_ 6148914691236517205))) 3689348814741910323))))) 1085102592571150095) 8))))]) ?_ ?_
  · refine QRun_b [.int .u64 (ibit .and .u64 (IntKind.u64.wrap ((ishr .u64 (IntKind.u64.wrap ((ibit .and .u64 (ishr .u64 (IntKind.u64.wrap ((ibit .and .u64 (ishr .u64 x_ 1) 6148914691236517205) + (ibit .and .u64 x_ 6148914691236517205))) 2) 3689348814741910323) + (ibit .and .u64 (IntKind.u64.wrap ((ibit .and .u64 (ishr .u64 x_ 1) 6148914691236517205) + (ibit .and .u64 x_ 6148914691236517205))) 3689348814741910323))) 4) + (IntKind.u64.wrap ((ibit .and .u64 (ishr .u64 (IntKind.u64.wrap ((ibit .and .u64 (ishr .u64 x_ 1) 6148914691236517205) + (ibit .and .u64 x_ 6148914691236517205))) 2) 3689348814741910323) + (ibit .and .u64 (IntKind.u64.wrap ((ibit .and .u64 (ishr .u64 x_ 1) 6148914691236517205) + (ibit .and .u64 x_ 6148914691236517205))) 3689348814741910323))))) 1085102592571150095), .int .u64 (ibit .and .u64 (IntKind.u64.wrap ((ishr .u64 (IntKind.u64.wrap ((ibit .and .u64 (ishr .u64 (IntKind.u64.wrap ((ibit .and .u64 (ishr .u64 x_ 1) 6148914691236517205) + (ibit .and .u64 x_ 6148914691236517205))) 2) 3689348814741910323) + (ibit .and .u64 (IntKind.u64.wrap ((ibit .and .u64 (ishr .u64 x_ 1) 6148914691236517205) + (ibit .and .u64 x_ 6148914691236517205))) 3689348814741910323))) 4) + (IntKind.u64.wrap ((ibit .and .u64 (ishr .u64 (IntKind.u64.wrap ((ibit .and .u64 (ishr .u64 x_ 1) 6148914691236517205) + (ibit .and .u64 x_ 6148914691236517205))) 2) 3689348814741910323) + (ibit .and .u64 (IntKind.u64.wrap ((ibit .and .u64 (ishr .u64 x_ 1) 6148914691236517205) + (ibit .and .u64 x_ 6148914691236517205))) 3689348814741910323))))) 1085102592571150095)] 0 _ (by kernel_rfl) (fun w => by kernel_rfl) ?_
    refine QRun_y (.int .u64 (ishr .u64 (ibit .and .u64 (IntKind.u64.wrap ((ishr .u64 (IntKind.u64.wrap ((ibit .and .u64 (ishr .u64 (IntKind.u64.wrap ((ibit .and .u64 (ishr .u64 x_ 1) 6148914691236517205) + (ibit .and .u64 x_ 6148914691236517205))) 2) 3689348814741910323) + (ibit .and .u64 (IntKind.u64.wrap ((ibit .and .u64 (ishr .u64 x_ 1) 6148914691236517205) + (ibit .and .u64 x_ 6148914691236517205))) 3689348814741910323))) 4) + (IntKind.u64.wrap ((ibit .and .u64 (ishr .u64 (IntKind.u64.wrap ((ibit .and .u64 (ishr .u64 x_ 1) 6148914691236517205) + (ibit .and .u64 x_ 6148914691236517205))) 2) 3689348814741910323) + (ibit .and .u64 (IntKind.u64.wrap ((ibit .and .u64 (ishr .u64 x_ 1) 6148914691236517205) + (ibit .and .u64 x_ 6148914691236517205))) 3689348814741910323))))) 1085102592571150095) 8)) (by kernel_rfl) (Y_shr (k := .u64) (x := ibit .and .u64 (IntKind.u64.wrap ((ishr .u64 (IntKind.u64.wrap ((ibit .and .u64 (ishr .u64 (IntKind.u64.wrap ((ibit .and .u64 (ishr .u64 x_ 1) 6148914691236517205) + (ibit .and .u64 x_ 6148914691236517205))) 2) 3689348814741910323) + (ibit .and .u64 (IntKind.u64.wrap ((ibit .and .u64 (ishr .u64 x_ 1) 6148914691236517205) + (ibit .and .u64 x_ 6148914691236517205))) 3689348814741910323))) 4) + (IntKind.u64.wrap ((ibit .and .u64 (ishr .u64 (IntKind.u64.wrap ((ibit .and .u64 (ishr .u64 x_ 1) 6148914691236517205) + (ibit .and .u64 x_ 6148914691236517205))) 2) 3689348814741910323) + (ibit .and .u64 (IntKind.u64.wrap ((ibit .and .u64 (ishr .u64 x_ 1) 6148914691236517205) + (ibit .and .u64 x_ 6148914691236517205))) 3689348814741910323))))) 1085102592571150095) (kk := .u64) (y := 8) (by kernel_rfl) hz4) ?_
    refine QRun_b [.int .u64 (IntKind.u64.wrap ((ibit .and .u64 (IntKind.u64.wrap ((ishr .u64 (IntKind.u64.wrap ((ibit .and .u64 (ishr .u64 (IntKind.u64.wrap ((ibit .and .u64 (ishr .u64 x_ 1) 6148914691236517205) + (ibit .and .u64 x_ 6148914691236517205))) 2) 3689348814741910323) + (ibit .and .u64 (IntKind.u64.wrap ((ibit .and .u64 (ishr .u64 x_ 1) 6148914691236517205) + (ibit .and .u64 x_ 6148914691236517205))) 3689348814741910323))) 4) + (IntKind.u64.wrap ((ibit .and .u64 (ishr .u64 (IntKind.u64.wrap ((ibit .and .u64 (ishr .u64 x_ 1) 6148914691236517205) + (ibit .and .u64 x_ 6148914691236517205))) 2) 3689348814741910323) + (ibit .and .u64 (IntKind.u64.wrap ((ibit .and .u64 (ishr .u64 x_ 1) 6148914691236517205) + (ibit .and .u64 x_ 6148914691236517205))) 3689348814741910323))))) 1085102592571150095) + (ishr .u64 (ibit .and .u64 (IntKind.u64.wrap ((ishr .u64 (IntKind.u64.wrap ((ibit .and .u64 (ishr .u64 (IntKind.u64.wrap ((ibit .and .u64 (ishr .u64 x_ 1) 6148914691236517205) + (ibit .and .u64 x_ 6148914691236517205))) 2) 3689348814741910323) + (ibit .and .u64 (IntKind.u64.wrap ((ibit .and .u64 (ishr .u64 x_ 1) 6148914691236517205) + (ibit .and .u64 x_ 6148914691236517205))) 3689348814741910323))) 4) + (IntKind.u64.wrap ((ibit .and .u64 (ishr .u64 (IntKind.u64.wrap ((ibit .and .u64 (ishr .u64 x_ 1) 6148914691236517205) + (ibit .and .u64 x_ 6148914691236517205))) 2) 3689348814741910323) + (ibit .and .u64 (IntKind.u64.wrap ((ibit .and .u64 (ishr .u64 x_ 1) 6148914691236517205) + (ibit .and .u64 x_ 6148914691236517205))) 3689348814741910323))))) 1085102592571150095) 8))), .int .u64 (IntKind.u64.wrap ((ibit .and .u64 (IntKind.u64.wrap ((ishr .u64 (IntKind.u64.wrap ((ibit .and .u64 (ishr .u64 (IntKind.u64.wrap ((ibit .and .u64 (ishr .u64 x_ 1) 6148914691236517205) + (ibit .and .u64 x_ 6148914691236517205))) 2) 3689348814741910323) + (ibit .and .u64 (IntKind.u64.wrap ((ibit .and .u64 (ishr .u64 x_ 1) 6148914691236517205) + (ibit .and .u64 x_ 6148914691236517205))) 3689348814741910323))) 4) + (IntKind.u64.wrap ((ibit .and .u64 (ishr .u64 (IntKind.u64.wrap ((ibit .and .u64 (ishr .u64 x_ 1) 6148914691236517205) + (ibit .and .u64 x_ 6148914691236517205))) 2) 3689348814741910323) + (ibit .and .u64 (IntKind.u64.wrap ((ibit .and .u64 (ishr .u64 x_ 1) 6148914691236517205) + (ibit .and .u64 x_ 6148914691236517205))) 3689348814741910323))))) 1085102592571150095) + (ishr .u64 (ibit .and .u64 (IntKind.u64.wrap ((ishr .u64 (IntKind.u64.wrap ((ibit .and .u64 (ishr .u64 (IntKind.u64.wrap ((ibit .and .u64 (ishr .u64 x_ 1) 6148914691236517205) + (ibit .and .u64 x_ 6148914691236517205))) 2) 3689348814741910323) + (ibit .and .u64 (IntKind.u64.wrap ((ibit .and .u64 (ishr .u64 x_ 1) 6148914691236517205) + (ibit .and .u64 x_ 6148914691236517205))) 3689348814741910323))) 4) + (IntKind.u64.wrap ((ibit .and .u64 (ishr .u64 (IntKind.u64.wrap ((ibit .and .u64 (ishr .u64 x_ 1) 6148914691236517205) + (ibit .and .u64 x_ 6148914691236517205))) 2) 3689348814741910323) + (ibit .and .u64 (IntKind.u64.wrap ((ibit .and .u64 (ishr .u64 x_ 1) 6148914691236517205) + (ibit .and .u64 x_ 6148914691236517205))) 3689348814741910323))))) 1085102592571150095) 8)))] 3 _ (by kernel_rfl) (fun w => by kernel_rfl) ?_
    exact QRun_done [0] (by kernel_rfl) (by kernel_rfl)
  refine Run_seq ?_
  obtain ⟨u5, hz5, hF⟩ := M.bind_some hF
  have hz5 := M.guard_some hz5
  refine Run_reg 5 (by kernel_rfl) (L' := [(0, .int .u64 (IntKind.u64.wrap ((IntKind.u64.wrap ((ibit .and .u64 (IntKind.u64.wrap ((ishr .u64 (IntKind.u64.wrap ((ibit .and .u64 (ishr .u64 (IntKind.u64.wrap ((ibit .and .u64 (ishr .u64 x_ 1) 6148914691236517205) + (ibit .and .u64 x_ 6148914691236517205))) 2) 3689348814741910323) + (ibit .and .u64 (IntKind.u64.wrap ((ibit .and .u64 (ishr .u64 x_ 1) 6148914691236517205) + (ibit .and .u64 x_ 6148914691236517205))) 3689348814741910323))) 4) + (IntKind.u64.wrap ((ibit .and .u64 (ishr .u64 (IntKind.u64.wrap ((ibit .and .u64 (ishr .u64 x_ 1) 6148914691236517205) + (ibit .and .u64 x_ 6148914691236517205))) 2) 3689348814741910323) + (ibit .and .u64 (IntKind.u64.wrap ((ibit .and .u64 (ishr .u64 x_ 1) 6148914691236517205) + (ibit .and .u64 x_ 6148914691236517205))) 3689348814741910323))))) 1085102592571150095) + (ishr .u64 (ibit .and .u64 (IntKind.u64.wrap ((ishr .u64 (IntKind.u64.wrap ((ibit .and .u64 (ishr .u64 (IntKind.u64.wrap ((ibit .and .u64 (ishr .u64 x_ 1) 6148914691236517205) + (ibit .and .u64 x_ 6148914691236517205))) 2) 3689348814741910323) + (ibit .and .u64 (IntKind.u64.wrap ((ibit .and .u64 (ishr .u64 x_ 1) 6148914691236517205) + (ibit .and .u64 x_ 6148914691236517205))) 3689348814741910323))) 4) + (IntKind.u64.wrap ((ibit .and .u64 (ishr .u64 (IntKind.u64.wrap ((ibit .and .u64 (ishr .u64 x_ 1) 6148914691236517205) + (ibit .and .u64 x_ 6148914691236517205))) 2) 3689348814741910323) + (ibit .and .u64 (IntKind.u64.wrap ((ibit .and .u64 (ishr .u64 x_ 1) 6148914691236517205) + (ibit .and .u64 x_ 6148914691236517205))) 3689348814741910323))))) 1085102592571150095) 8))) + (ishr .u64 (IntKind.u64.wrap ((ibit .and .u64 (IntKind.u64.wrap ((ishr .u64 (IntKind.u64.wrap ((ibit .and .u64 (ishr .u64 (IntKind.u64.wrap ((ibit .and .u64 (ishr .u64 x_ 1) 6148914691236517205) + (ibit .and .u64 x_ 6148914691236517205))) 2) 3689348814741910323) + (ibit .and .u64 (IntKind.u64.wrap ((ibit .and .u64 (ishr .u64 x_ 1) 6148914691236517205) + (ibit .and .u64 x_ 6148914691236517205))) 3689348814741910323))) 4) + (IntKind.u64.wrap ((ibit .and .u64 (ishr .u64 (IntKind.u64.wrap ((ibit .and .u64 (ishr .u64 x_ 1) 6148914691236517205) + (ibit .and .u64 x_ 6148914691236517205))) 2) 3689348814741910323) + (ibit .and .u64 (IntKind.u64.wrap ((ibit .and .u64 (ishr .u64 x_ 1) 6148914691236517205) + (ibit .and .u64 x_ 6148914691236517205))) 3689348814741910323))))) 1085102592571150095) + (ishr .u64 (ibit .and .u64 (IntKind.u64.wrap ((ishr .u64 (IntKind.u64.wrap ((ibit .and .u64 (ishr .u64 (IntKind.u64.wrap ((ibit .and .u64 (ishr .u64 x_ 1) 6148914691236517205) + (ibit .and .u64 x_ 6148914691236517205))) 2) 3689348814741910323) + (ibit .and .u64 (IntKind.u64.wrap ((ibit .and .u64 (ishr .u64 x_ 1) 6148914691236517205) + (ibit .and .u64 x_ 6148914691236517205))) 3689348814741910323))) 4) + (IntKind.u64.wrap ((ibit .and .u64 (ishr .u64 (IntKind.u64.wrap ((ibit .and .u64 (ishr .u64 x_ 1) 6148914691236517205) + (ibit .and .u64 x_ 6148914691236517205))) 2) 3689348814741910323) + (ibit .and .u64 (IntKind.u64.wrap ((ibit .and .u64 (ishr .u64 x_ 1) 6148914691236517205) + (ibit .and .u64 x_ 6148914691236517205))) 3689348814741910323))))) 1085102592571150095) 8))) 16))))]) ?_ ?_
  · refine QRun_b [.int .u64 (IntKind.u64.wrap ((ibit .and .u64 (IntKind.u64.wrap ((ishr .u64 (IntKind.u64.wrap ((ibit .and .u64 (ishr .u64 (IntKind.u64.wrap ((ibit .and .u64 (ishr .u64 x_ 1) 6148914691236517205) + (ibit .and .u64 x_ 6148914691236517205))) 2) 3689348814741910323) + (ibit .and .u64 (IntKind.u64.wrap ((ibit .and .u64 (ishr .u64 x_ 1) 6148914691236517205) + (ibit .and .u64 x_ 6148914691236517205))) 3689348814741910323))) 4) + (IntKind.u64.wrap ((ibit .and .u64 (ishr .u64 (IntKind.u64.wrap ((ibit .and .u64 (ishr .u64 x_ 1) 6148914691236517205) + (ibit .and .u64 x_ 6148914691236517205))) 2) 3689348814741910323) + (ibit .and .u64 (IntKind.u64.wrap ((ibit .and .u64 (ishr .u64 x_ 1) 6148914691236517205) + (ibit .and .u64 x_ 6148914691236517205))) 3689348814741910323))))) 1085102592571150095) + (ishr .u64 (ibit .and .u64 (IntKind.u64.wrap ((ishr .u64 (IntKind.u64.wrap ((ibit .and .u64 (ishr .u64 (IntKind.u64.wrap ((ibit .and .u64 (ishr .u64 x_ 1) 6148914691236517205) + (ibit .and .u64 x_ 6148914691236517205))) 2) 3689348814741910323) + (ibit .and .u64 (IntKind.u64.wrap ((ibit .and .u64 (ishr .u64 x_ 1) 6148914691236517205) + (ibit .and .u64 x_ 6148914691236517205))) 3689348814741910323))) 4) + (IntKind.u64.wrap ((ibit .and .u64 (ishr .u64 (IntKind.u64.wrap ((ibit .and .u64 (ishr .u64 x_ 1) 6148914691236517205) + (ibit .and .u64 x_ 6148914691236517205))) 2) 3689348814741910323) + (ibit .and .u64 (IntKind.u64.wrap ((ibit .and .u64 (ishr .u64 x_ 1) 6148914691236517205) + (ibit .and .u64 x_ 6148914691236517205))) 3689348814741910323))))) 1085102592571150095) 8))), .int .u64 (IntKind.u64.wrap ((ibit .and .u64 (IntKind.u64.wrap ((ishr .u64 (IntKind.u64.wrap ((ibit .and .u64 (ishr .u64 (IntKind.u64.wrap ((ibit .and .u64 (ishr .u64 x_ 1) 6148914691236517205) + (ibit .and .u64 x_ 6148914691236517205))) 2) 3689348814741910323) + (ibit .and .u64 (IntKind.u64.wrap ((ibit .and .u64 (ishr .u64 x_ 1) 6148914691236517205) + (ibit .and .u64 x_ 6148914691236517205))) 3689348814741910323))) 4) + (IntKind.u64.wrap ((ibit .and .u64 (ishr .u64 (IntKind.u64.wrap ((ibit .and .u64 (ishr .u64 x_ 1) 6148914691236517205) + (ibit .and .u64 x_ 6148914691236517205))) 2) 3689348814741910323) + (ibit .and .u64 (IntKind.u64.wrap ((ibit .and .u64 (ishr .u64 x_ 1) 6148914691236517205) + (ibit .and .u64 x_ 6148914691236517205))) 3689348814741910323))))) 1085102592571150095) + (ishr .u64 (ibit .and .u64 (IntKind.u64.wrap ((ishr .u64 (IntKind.u64.wrap ((ibit .and .u64 (ishr .u64 (IntKind.u64.wrap ((ibit .and .u64 (ishr .u64 x_ 1) 6148914691236517205) + (ibit .and .u64 x_ 6148914691236517205))) 2) 3689348814741910323) + (ibit .and .u64 (IntKind.u64.wrap ((ibit .and .u64 (ishr .u64 x_ 1) 6148914691236517205) + (ibit .and .u64 x_ 6148914691236517205))) 3689348814741910323))) 4) + (IntKind.u64.wrap ((ibit .and .u64 (ishr .u64 (IntKind.u64.wrap ((ibit .and .u64 (ishr .u64 x_ 1) 6148914691236517205) + (ibit .and .u64 x_ 6148914691236517205))) 2) 3689348814741910323) + (ibit .and .u64 (IntKind.u64.wrap ((ibit .and .u64 (ishr .u64 x_ 1) 6148914691236517205) + (ibit .and .u64 x_ 6148914691236517205))) 3689348814741910323))))) 1085102592571150095) 8)))] 0 _ (by kernel_rfl) (fun w => by kernel_rfl) ?_
    refine QRun_y (.int .u64 (ishr .u64 (IntKind.u64.wrap ((ibit .and .u64 (IntKind.u64.wrap ((ishr .u64 (IntKind.u64.wrap ((ibit .and .u64 (ishr .u64 (IntKind.u64.wrap ((ibit .and .u64 (ishr .u64 x_ 1) 6148914691236517205) + (ibit .and .u64 x_ 6148914691236517205))) 2) 3689348814741910323) + (ibit .and .u64 (IntKind.u64.wrap ((ibit .and .u64 (ishr .u64 x_ 1) 6148914691236517205) + (ibit .and .u64 x_ 6148914691236517205))) 3689348814741910323))) 4) + (IntKind.u64.wrap ((ibit .and .u64 (ishr .u64 (IntKind.u64.wrap ((ibit .and .u64 (ishr .u64 x_ 1) 6148914691236517205) + (ibit .and .u64 x_ 6148914691236517205))) 2) 3689348814741910323) + (ibit .and .u64 (IntKind.u64.wrap ((ibit .and .u64 (ishr .u64 x_ 1) 6148914691236517205) + (ibit .and .u64 x_ 6148914691236517205))) 3689348814741910323))))) 1085102592571150095) + (ishr .u64 (ibit .and .u64 (IntKind.u64.wrap ((ishr .u64 (IntKind.u64.wrap ((ibit .and .u64 (ishr .u64 (IntKind.u64.wrap ((ibit .and .u64 (ishr .u64 x_ 1) 6148914691236517205) + (ibit .and .u64 x_ 6148914691236517205))) 2) 3689348814741910323) + (ibit .and .u64 (IntKind.u64.wrap ((ibit .and .u64 (ishr .u64 x_ 1) 6148914691236517205) + (ibit .and .u64 x_ 6148914691236517205))) 3689348814741910323))) 4) + (IntKind.u64.wrap ((ibit .and .u64 (ishr .u64 (IntKind.u64.wrap ((ibit .and .u64 (ishr .u64 x_ 1) 6148914691236517205) + (ibit .and .u64 x_ 6148914691236517205))) 2) 3689348814741910323) + (ibit .and .u64 (IntKind.u64.wrap ((ibit .and .u64 (ishr .u64 x_ 1) 6148914691236517205) + (ibit .and .u64 x_ 6148914691236517205))) 3689348814741910323))))) 1085102592571150095) 8))) 16)) (by kernel_rfl) (Y_shr (k := .u64) (x := IntKind.u64.wrap ((ibit .and .u64 (IntKind.u64.wrap ((ishr .u64 (IntKind.u64.wrap ((ibit .and .u64 (ishr .u64 (IntKind.u64.wrap ((ibit .and .u64 (ishr .u64 x_ 1) 6148914691236517205) + (ibit .and .u64 x_ 6148914691236517205))) 2) 3689348814741910323) + (ibit .and .u64 (IntKind.u64.wrap ((ibit .and .u64 (ishr .u64 x_ 1) 6148914691236517205) + (ibit .and .u64 x_ 6148914691236517205))) 3689348814741910323))) 4) + (IntKind.u64.wrap ((ibit .and .u64 (ishr .u64 (IntKind.u64.wrap ((ibit .and .u64 (ishr .u64 x_ 1) 6148914691236517205) + (ibit .and .u64 x_ 6148914691236517205))) 2) 3689348814741910323) + (ibit .and .u64 (IntKind.u64.wrap ((ibit .and .u64 (ishr .u64 x_ 1) 6148914691236517205) + (ibit .and .u64 x_ 6148914691236517205))) 3689348814741910323))))) 1085102592571150095) + (ishr .u64 (ibit .and .u64 (IntKind.u64.wrap ((ishr .u64 (IntKind.u64.wrap ((ibit .and .u64 (ishr .u64 (IntKind.u64.wrap ((ibit .and .u64 (ishr .u64 x_ 1) 6148914691236517205) + (ibit .and .u64 x_ 6148914691236517205))) 2) 3689348814741910323) + (ibit .and .u64 (IntKind.u64.wrap ((ibit .and .u64 (ishr .u64 x_ 1) 6148914691236517205) + (ibit .and .u64 x_ 6148914691236517205))) 3689348814741910323))) 4) + (IntKind.u64.wrap ((ibit .and .u64 (ishr .u64 (IntKind.u64.wrap ((ibit .and .u64 (ishr .u64 x_ 1) 6148914691236517205) + (ibit .and .u64 x_ 6148914691236517205))) 2) 3689348814741910323) + (ibit .and .u64 (IntKind.u64.wrap ((ibit .and .u64 (ishr .u64 x_ 1) 6148914691236517205) + (ibit .and .u64 x_ 6148914691236517205))) 3689348814741910323))))) 1085102592571150095) 8))) (kk := .u64) (y := 16) (by kernel_rfl) hz5) ?_
    refine QRun_b [.int .u64 (IntKind.u64.wrap ((IntKind.u64.wrap ((ibit .and .u64 (IntKind.u64.wrap ((ishr .u64 (IntKind.u64.wrap ((ibit .and .u64 (ishr .u64 (IntKind.u64.wrap ((ibit .and .u64 (ishr .u64 x_ 1) 6148914691236517205) + (ibit .and .u64 x_ 6148914691236517205))) 2) 3689348814741910323) + (ibit .and .u64 (IntKind.u64.wrap ((ibit .and .u64 (ishr .u64 x_ 1) 6148914691236517205) + (ibit .and .u64 x_ 6148914691236517205))) 3689348814741910323))) 4) + (IntKind.u64.wrap ((ibit .and .u64 (ishr .u64 (IntKind.u64.wrap ((ibit .and .u64 (ishr .u64 x_ 1) 6148914691236517205) + (ibit .and .u64 x_ 6148914691236517205))) 2) 3689348814741910323) + (ibit .and .u64 (IntKind.u64.wrap ((ibit .and .u64 (ishr .u64 x_ 1) 6148914691236517205) + (ibit .and .u64 x_ 6148914691236517205))) 3689348814741910323))))) 1085102592571150095) + (ishr .u64 (ibit .and .u64 (IntKind.u64.wrap ((ishr .u64 (IntKind.u64.wrap ((ibit .and .u64 (ishr .u64 (IntKind.u64.wrap ((ibit .and .u64 (ishr .u64 x_ 1) 6148914691236517205) + (ibit .and .u64 x_ 6148914691236517205))) 2) 3689348814741910323) + (ibit .and .u64 (IntKind.u64.wrap ((ibit .and .u64 (ishr .u64 x_ 1) 6148914691236517205) + (ibit .and .u64 x_ 6148914691236517205))) 3689348814741910323))) 4) + (IntKind.u64.wrap ((ibit .and .u64 (ishr .u64 (IntKind.u64.wrap ((ibit .and .u64 (ishr .u64 x_ 1) 6148914691236517205) + (ibit .and .u64 x_ 6148914691236517205))) 2) 3689348814741910323) + (ibit .and .u64 (IntKind.u64.wrap ((ibit .and .u64 (ishr .u64 x_ 1) 6148914691236517205) + (ibit .and .u64 x_ 6148914691236517205))) 3689348814741910323))))) 1085102592571150095) 8))) + (ishr .u64 (IntKind.u64.wrap ((ibit .and .u64 (IntKind.u64.wrap ((ishr .u64 (IntKind.u64.wrap ((ibit .and .u64 (ishr .u64 (IntKind.u64.wrap ((ibit .and .u64 (ishr .u64 x_ 1) 6148914691236517205) + (ibit .and .u64 x_ 6148914691236517205))) 2) 3689348814741910323) + (ibit .and .u64 (IntKind.u64.wrap ((ibit .and .u64 (ishr .u64 x_ 1) 6148914691236517205) + (ibit .and .u64 x_ 6148914691236517205))) 3689348814741910323))) 4) + (IntKind.u64.wrap ((ibit .and .u64 (ishr .u64 (IntKind.u64.wrap ((ibit .and .u64 (ishr .u64 x_ 1) 6148914691236517205) + (ibit .and .u64 x_ 6148914691236517205))) 2) 3689348814741910323) + (ibit .and .u64 (IntKind.u64.wrap ((ibit .and .u64 (ishr .u64 x_ 1) 6148914691236517205) + (ibit .and .u64 x_ 6148914691236517205))) 3689348814741910323))))) 1085102592571150095) + (ishr .u64 (ibit .and .u64 (IntKind.u64.wrap ((ishr .u64 (IntKind.u64.wrap ((ibit .and .u64 (ishr .u64 (IntKind.u64.wrap ((ibit .and .u64 (ishr .u64 x_ 1) 6148914691236517205) + (ibit .and .u64 x_ 6148914691236517205))) 2) 3689348814741910323) + (ibit .and .u64 (IntKind.u64.wrap ((ibit .and .u64 (ishr .u64 x_ 1) 6148914691236517205) + (ibit .and .u64 x_ 6148914691236517205))) 3689348814741910323))) 4) + (IntKind.u64.wrap ((ibit .and .u64 (ishr .u64 (IntKind.u64.wrap ((ibit .and .u64 (ishr .u64 x_ 1) 6148914691236517205) + (ibit .and .u64 x_ 6148914691236517205))) 2) 3689348814741910323) + (ibit .and .u64 (IntKind.u64.wrap ((ibit .and .u64 (ishr .u64 x_ 1) 6148914691236517205) + (ibit .and .u64 x_ 6148914691236517205))) 3689348814741910323))))) 1085102592571150095) 8))) 16))), .int .u64 (IntKind.u64.wrap ((IntKind.u64.wrap ((ibit .and .u64 (IntKind.u64.wrap ((ishr .u64 (IntKind.u64.wrap ((ibit .and .u64 (ishr .u64 (IntKind.u64.wrap ((ibit .and .u64 (ishr .u64 x_ 1) 6148914691236517205) + (ibit .and .u64 x_ 6148914691236517205))) 2) 3689348814741910323) + (ibit .and .u64 (IntKind.u64.wrap ((ibit .and .u64 (ishr .u64 x_ 1) 6148914691236517205) + (ibit .and .u64 x_ 6148914691236517205))) 3689348814741910323))) 4) + (IntKind.u64.wrap ((ibit .and .u64 (ishr .u64 (IntKind.u64.wrap ((ibit .and .u64 (ishr .u64 x_ 1) 6148914691236517205) + (ibit .and .u64 x_ 6148914691236517205))) 2) 3689348814741910323) + (ibit .and .u64 (IntKind.u64.wrap ((ibit .and .u64 (ishr .u64 x_ 1) 6148914691236517205) + (ibit .and .u64 x_ 6148914691236517205))) 3689348814741910323))))) 1085102592571150095) + (ishr .u64 (ibit .and .u64 (IntKind.u64.wrap ((ishr .u64 (IntKind.u64.wrap ((ibit .and .u64 (ishr .u64 (IntKind.u64.wrap ((ibit .and .u64 (ishr .u64 x_ 1) 6148914691236517205) + (ibit .and .u64 x_ 6148914691236517205))) 2) 3689348814741910323) + (ibit .and .u64 (IntKind.u64.wrap ((ibit .and .u64 (ishr .u64 x_ 1) 6148914691236517205) + (ibit .and .u64 x_ 6148914691236517205))) 3689348814741910323))) 4) + (IntKind.u64.wrap ((ibit .and .u64 (ishr .u64 (IntKind.u64.wrap ((ibit .and .u64 (ishr .u64 x_ 1) 6148914691236517205) + (ibit .and .u64 x_ 6148914691236517205))) 2) 3689348814741910323) + (ibit .and .u64 (IntKind.u64.wrap ((ibit .and .u64 (ishr .u64 x_ 1) 6148914691236517205) + (ibit .and .u64 x_ 6148914691236517205))) 3689348814741910323))))) 1085102592571150095) 8))) + (ishr .u64 (IntKind.u64.wrap ((ibit .and .u64 (IntKind.u64.wrap ((ishr .u64 (IntKind.u64.wrap ((ibit .and .u64 (ishr .u64 (IntKind.u64.wrap ((ibit .and .u64 (ishr .u64 x_ 1) 6148914691236517205) + (ibit .and .u64 x_ 6148914691236517205))) 2) 3689348814741910323) + (ibit .and .u64 (IntKind.u64.wrap ((ibit .and .u64 (ishr .u64 x_ 1) 6148914691236517205) + (ibit .and .u64 x_ 6148914691236517205))) 3689348814741910323))) 4) + (IntKind.u64.wrap ((ibit .and .u64 (ishr .u64 (IntKind.u64.wrap ((ibit .and .u64 (ishr .u64 x_ 1) 6148914691236517205) + (ibit .and .u64 x_ 6148914691236517205))) 2) 3689348814741910323) + (ibit .and .u64 (IntKind.u64.wrap ((ibit .and .u64 (ishr .u64 x_ 1) 6148914691236517205) + (ibit .and .u64 x_ 6148914691236517205))) 3689348814741910323))))) 1085102592571150095) + (ishr .u64 (ibit .and .u64 (IntKind.u64.wrap ((ishr .u64 (IntKind.u64.wrap ((ibit .and .u64 (ishr .u64 (IntKind.u64.wrap ((ibit .and .u64 (ishr .u64 x_ 1) 6148914691236517205) + (ibit .and .u64 x_ 6148914691236517205))) 2) 3689348814741910323) + (ibit .and .u64 (IntKind.u64.wrap ((ibit .and .u64 (ishr .u64 x_ 1) 6148914691236517205) + (ibit .and .u64 x_ 6148914691236517205))) 3689348814741910323))) 4) + (IntKind.u64.wrap ((ibit .and .u64 (ishr .u64 (IntKind.u64.wrap ((ibit .and .u64 (ishr .u64 x_ 1) 6148914691236517205) + (ibit .and .u64 x_ 6148914691236517205))) 2) 3689348814741910323) + (ibit .and .u64 (IntKind.u64.wrap ((ibit .and .u64 (ishr .u64 x_ 1) 6148914691236517205) + (ibit .and .u64 x_ 6148914691236517205))) 3689348814741910323))))) 1085102592571150095) 8))) 16)))] 3 _ (by kernel_rfl) (fun w => by kernel_rfl) ?_
    exact QRun_done [0] (by kernel_rfl) (by kernel_rfl)
  refine Run_seq ?_
  obtain ⟨u6, hz6, hF⟩ := M.bind_some hF
  have hz6 := M.guard_some hz6
  refine Run_reg 5 (by kernel_rfl) (L' := [(0, .int .u64 (IntKind.u64.wrap ((IntKind.u64.wrap ((IntKind.u64.wrap ((ibit .and .u64 (IntKind.u64.wrap ((ishr .u64 (IntKind.u64.wrap ((ibit .and .u64 (ishr .u64 (IntKind.u64.wrap ((ibit .and .u64 (ishr .u64 x_ 1) 6148914691236517205) + (ibit .and .u64 x_ 6148914691236517205))) 2) 3689348814741910323) + (ibit .and .u64 (IntKind.u64.wrap ((ibit .and .u64 (ishr .u64 x_ 1) 6148914691236517205) + (ibit .and .u64 x_ 6148914691236517205))) 3689348814741910323))) 4) + (IntKind.u64.wrap ((ibit .and .u64 (ishr .u64 (IntKind.u64.wrap ((ibit .and .u64 (ishr .u64 x_ 1) 6148914691236517205) + (ibit .and .u64 x_ 6148914691236517205))) 2) 3689348814741910323) + (ibit .and .u64 (IntKind.u64.wrap ((ibit .and .u64 (ishr .u64 x_ 1) 6148914691236517205) + (ibit .and .u64 x_ 6148914691236517205))) 3689348814741910323))))) 1085102592571150095) + (ishr .u64 (ibit .and .u64 (IntKind.u64.wrap ((ishr .u64 (IntKind.u64.wrap ((ibit .and .u64 (ishr .u64 (IntKind.u64.wrap ((ibit .and .u64 (ishr .u64 x_ 1) 6148914691236517205) + (ibit .and .u64 x_ 6148914691236517205))) 2) 3689348814741910323) + (ibit .and .u64 (IntKind.u64.wrap ((ibit .and .u64 (ishr .u64 x_ 1) 6148914691236517205) + (ibit .and .u64 x_ 6148914691236517205))) 3689348814741910323))) 4) + (IntKind.u64.wrap ((ibit .and .u64 (ishr .u64 (IntKind.u64.wrap ((ibit .and .u64 (ishr .u64 x_ 1) 6148914691236517205) + (ibit .and .u64 x_ 6148914691236517205))) 2) 3689348814741910323) + (ibit .and .u64 (IntKind.u64.wrap ((ibit .and .u64 (ishr .u64 x_ 1) 6148914691236517205) + (ibit .and .u64 x_ 6148914691236517205))) 3689348814741910323))))) 1085102592571150095) 8))) + (ishr .u64 (IntKind.u64.wrap ((ibit .and .u64 (IntKind.u64.wrap ((ishr .u64 (IntKind.u64.wrap ((ibit .and .u64 (ishr .u64 (IntKind.u64.wrap ((ibit .and .u64 (ishr .u64 x_ 1) 6148914691236517205) + (ibit .and .u64 x_ 6148914691236517205))) 2) 3689348814741910323) + (ibit .and .u64 (IntKind.u64.wrap ((ibit .and .u64 (ishr .u64 x_ 1) 6148914691236517205) + (ibit .and .u64 x_ 6148914691236517205))) 3689348814741910323))) 4) + (IntKind.u64.wrap ((ibit .and .u64 (ishr .u64 (IntKind.u64.wrap ((ibit .and .u64 (ishr .u64 x_ 1) 6148914691236517205) + (ibit .and .u64 x_ 6148914691236517205))) 2) 3689348814741910323) + (ibit .and .u64 (IntKind.u64.wrap ((ibit .and .u64 (ishr .u64 x_ 1) 6148914691236517205) + (ibit .and .u64 x_ 6148914691236517205))) 3689348814741910323))))) 1085102592571150095) + (ishr .u64 (ibit .and .u64 (IntKind.u64.wrap ((ishr .u64 (IntKind.u64.wrap ((ibit .and .u64 (ishr .u64 (IntKind.u64.wrap ((ibit .and .u64 (ishr .u64 x_ 1) 6148914691236517205) + (ibit .and .u64 x_ 6148914691236517205))) 2) 3689348814741910323) + (ibit .and .u64 (IntKind.u64.wrap ((ibit .and .u64 (ishr .u64 x_ 1) 6148914691236517205) + (ibit .and .u64 x_ 6148914691236517205))) 3689348814741910323))) 4) + (IntKind.u64.wrap ((ibit .and .u64 (ishr .u64 (IntKind.u64.wrap ((ibit .and .u64 (ishr .u64 x_ 1) 6148914691236517205) + (ibit .and .u64 x_ 6148914691236517205))) 2) 3689348814741910323) + (ibit .and .u64 (IntKind.u64.wrap ((ibit .and .u64 (ishr .u64 x_ 1) 6148914691236517205) + (ibit .and .u64 x_ 6148914691236517205))) 3689348814741910323))))) 1085102592571150095) 8))) 16))) + (ishr .u64 (IntKind.u64.wrap ((IntKind.u64.wrap ((ibit .and .u64 (IntKind.u64.wrap ((ishr .u64 (IntKind.u64.wrap ((ibit .and .u64 (ishr .u64 (IntKind.u64.wrap ((ibit .and .u64 (ishr .u64 x_ 1) 6148914691236517205) + (ibit .and .u64 x_ 6148914691236517205))) 2) 3689348814741910323) + (ibit .and .u64 (IntKind.u64.wrap ((ibit .and .u64 (ishr .u64 x_ 1) 6148914691236517205) + (ibit .and .u64 x_ 6148914691236517205))) 3689348814741910323))) 4) + (IntKind.u64.wrap ((ibit .and .u64 (ishr .u64 (IntKind.u64.wrap ((ibit .and .u64 (ishr .u64 x_ 1) 6148914691236517205) + (ibit .and .u64 x_ 6148914691236517205))) 2) 3689348814741910323) + (ibit .and .u64 (IntKind.u64.wrap ((ibit .and .u64 (ishr .u64 x_ 1) 6148914691236517205) + (ibit .and .u64 x_ 6148914691236517205))) 3689348814741910323))))) 1085102592571150095) + (ishr .u64 (ibit .and .u64 (IntKind.u64.wrap ((ishr .u64 (IntKind.u64.wrap ((ibit .and .u64 (ishr .u64 (IntKind.u64.wrap ((ibit .and .u64 (ishr .u64 x_ 1) 6148914691236517205) + (ibit .and .u64 x_ 6148914691236517205))) 2) 3689348814741910323) + (ibit .and .u64 (IntKind.u64.wrap ((ibit .and .u64 (ishr .u64 x_ 1) 6148914691236517205) + (ibit .and .u64 x_ 6148914691236517205))) 3689348814741910323))) 4) + (IntKind.u64.wrap ((ibit .and .u64 (ishr .u64 (IntKind.u64.wrap ((ibit .and .u64 (ishr .u64 x_ 1) 6148914691236517205) + (ibit .and .u64 x_ 6148914691236517205))) 2) 3689348814741910323) + (ibit .and .u64 (IntKind.u64.wrap ((ibit .and .u64 (ishr .u64 x_ 1) 6148914691236517205) + (ibit .and .u64 x_ 6148914691236517205))) 3689348814741910323))))) 1085102592571150095) 8))) + (ishr .u64 (IntKind.u64.wrap ((ibit .and .u64 (IntKind.u64.wrap ((ishr .u64 (IntKind.u64.wrap ((ibit .and .u64 (ishr .u64 (IntKind.u64.wrap ((ibit .and .u64 (ishr .u64 x_ 1) 6148914691236517205) + (ibit .and .u64 x_ 6148914691236517205))) 2) 3689348814741910323) + (ibit .and .u64 (IntKind.u64.wrap ((ibit .and .u64 (ishr .u64 x_ 1) 6148914691236517205) + (ibit .and .u64 x_ 6148914691236517205))) 3689348814741910323))) 4) + (IntKind.u64.wrap ((ibit .and .u64 (ishr .u64 (IntKind.u64.wrap ((ibit .and .u64 (ishr .u64 x_ 1) 6148914691236517205) + (ibit .and .u64 x_ 6148914691236517205))) 2) 3689348814741910323) + (ibit .and .u64 (IntKind.u64.wrap ((ibit .and .u64 (ishr .u64 x_ 1) 6148914691236517205) + (ibit .and .u64 x_ 6148914691236517205))) 3689348814741910323))))) 1085102592571150095) + (ishr .u64 (ibit .and .u64 (IntKind.u64.wrap ((ishr .u64 (IntKind.u64.wrap ((ibit .and .u64 (ishr .u64 (IntKind.u64.wrap ((ibit .and .u64 (ishr .u64 x_ 1) 6148914691236517205) + (ibit .and .u64 x_ 6148914691236517205))) 2) 3689348814741910323) + (ibit .and .u64 (IntKind.u64.wrap ((ibit .and .u64 (ishr .u64 x_ 1) 6148914691236517205) + (ibit .and .u64 x_ 6148914691236517205))) 3689348814741910323))) 4) + (IntKind.u64.wrap ((ibit .and .u64 (ishr .u64 (IntKind.u64.wrap ((ibit .and .u64 (ishr .u64 x_ 1) 6148914691236517205) + (ibit .and .u64 x_ 6148914691236517205))) 2) 3689348814741910323) + (ibit .and .u64 (IntKind.u64.wrap ((ibit .and .u64 (ishr .u64 x_ 1) 6148914691236517205) + (ibit .and .u64 x_ 6148914691236517205))) 3689348814741910323))))) 1085102592571150095) 8))) 16))) 32))))]) ?_ ?_
  · refine QRun_b [.int .u64 (IntKind.u64.wrap ((IntKind.u64.wrap ((ibit .and .u64 (IntKind.u64.wrap ((ishr .u64 (IntKind.u64.wrap ((ibit .and .u64 (ishr .u64 (IntKind.u64.wrap ((ibit .and .u64 (ishr .u64 x_ 1) 6148914691236517205) + (ibit .and .u64 x_ 6148914691236517205))) 2) 3689348814741910323) + (ibit .and .u64 (IntKind.u64.wrap ((ibit .and .u64 (ishr .u64 x_ 1) 6148914691236517205) + (ibit .and .u64 x_ 6148914691236517205))) 3689348814741910323))) 4) + (IntKind.u64.wrap ((ibit .and .u64 (ishr .u64 (IntKind.u64.wrap ((ibit .and .u64 (ishr .u64 x_ 1) 6148914691236517205) + (ibit .and .u64 x_ 6148914691236517205))) 2) 3689348814741910323) + (ibit .and .u64 (IntKind.u64.wrap ((ibit .and .u64 (ishr .u64 x_ 1) 6148914691236517205) + (ibit .and .u64 x_ 6148914691236517205))) 3689348814741910323))))) 1085102592571150095) + (ishr .u64 (ibit .and .u64 (IntKind.u64.wrap ((ishr .u64 (IntKind.u64.wrap ((ibit .and .u64 (ishr .u64 (IntKind.u64.wrap ((ibit .and .u64 (ishr .u64 x_ 1) 6148914691236517205) + (ibit .and .u64 x_ 6148914691236517205))) 2) 3689348814741910323) + (ibit .and .u64 (IntKind.u64.wrap ((ibit .and .u64 (ishr .u64 x_ 1) 6148914691236517205) + (ibit .and .u64 x_ 6148914691236517205))) 3689348814741910323))) 4) + (IntKind.u64.wrap ((ibit .and .u64 (ishr .u64 (IntKind.u64.wrap ((ibit .and .u64 (ishr .u64 x_ 1) 6148914691236517205) + (ibit .and .u64 x_ 6148914691236517205))) 2) 3689348814741910323) + (ibit .and .u64 (IntKind.u64.wrap ((ibit .and .u64 (ishr .u64 x_ 1) 6148914691236517205) + (ibit .and .u64 x_ 6148914691236517205))) 3689348814741910323))))) 1085102592571150095) 8))) + (ishr .u64 (IntKind.u64.wrap ((ibit .and .u64 (IntKind.u64.wrap ((ishr .u64 (IntKind.u64.wrap ((ibit .and .u64 (ishr .u64 (IntKind.u64.wrap ((ibit .and .u64 (ishr .u64 x_ 1) 6148914691236517205) + (ibit .and .u64 x_ 6148914691236517205))) 2) 3689348814741910323) + (ibit .and .u64 (IntKind.u64.wrap ((ibit .and .u64 (ishr .u64 x_ 1) 6148914691236517205) + (ibit .and .u64 x_ 6148914691236517205))) 3689348814741910323))) 4) + (IntKind.u64.wrap ((ibit .and .u64 (ishr .u64 (IntKind.u64.wrap ((ibit .and .u64 (ishr .u64 x_ 1) 6148914691236517205) + (ibit .and .u64 x_ 6148914691236517205))) 2) 3689348814741910323) + (ibit .and .u64 (IntKind.u64.wrap ((ibit .and .u64 (ishr .u64 x_ 1) 6148914691236517205) + (ibit .and .u64 x_ 6148914691236517205))) 3689348814741910323))))) 1085102592571150095) + (ishr .u64 (ibit .and .u64 (IntKind.u64.wrap ((ishr .u64 (IntKind.u64.wrap ((ibit .and .u64 (ishr .u64 (IntKind.u64.wrap ((ibit .and .u64 (ishr .u64 x_ 1) 6148914691236517205) + (ibit .and .u64 x_ 6148914691236517205))) 2) 3689348814741910323) + (ibit .and .u64 (IntKind.u64.wrap ((ibit .and .u64 (ishr .u64 x_ 1) 6148914691236517205) + (ibit .and .u64 x_ 6148914691236517205))) 3689348814741910323))) 4) + (IntKind.u64.wrap ((ibit .and .u64 (ishr .u64 (IntKind.u64.wrap ((ibit .and .u64 (ishr .u64 x_ 1) 6148914691236517205) + (ibit .and .u64 x_ 6148914691236517205))) 2) 3689348814741910323) + (ibit .and .u64 (IntKind.u64.wrap ((ibit .and .u64 (ishr .u64 x_ 1) 6148914691236517205) + (ibit .and .u64 x_ 6148914691236517205))) 3689348814741910323))))) 1085102592571150095) 8))) 16))), .int .u64 (IntKind.u64.wrap ((IntKind.u64.wrap ((ibit .and .u64 (IntKind.u64.wrap ((ishr .u64 (IntKind.u64.wrap ((ibit .and .u64 (ishr .u64 (IntKind.u64.wrap ((ibit .and .u64 (ishr .u64 x_ 1) 6148914691236517205) + (ibit .and .u64 x_ 6148914691236517205))) 2) 3689348814741910323) + (ibit .and .u64 (IntKind.u64.wrap ((ibit .and .u64 (ishr .u64 x_ 1) 6148914691236517205) + (ibit .and .u64 x_ 6148914691236517205))) 3689348814741910323))) 4) + (IntKind.u64.wrap ((ibit .and .u64 (ishr .u64 (IntKind.u64.wrap ((ibit .and .u64 (ishr .u64 x_ 1) 6148914691236517205) + (ibit .and .u64 x_ 6148914691236517205))) 2) 3689348814741910323) + (ibit .and .u64 (IntKind.u64.wrap ((ibit .and .u64 (ishr .u64 x_ 1) 6148914691236517205) + (ibit .and .u64 x_ 6148914691236517205))) 3689348814741910323))))) 1085102592571150095) + (ishr .u64 (ibit .and .u64 (IntKind.u64.wrap ((ishr .u64 (IntKind.u64.wrap ((ibit .and .u64 (ishr .u64 (IntKind.u64.wrap ((ibit .and .u64 (ishr .u64 x_ 1) 6148914691236517205) + (ibit .and .u64 x_ 6148914691236517205))) 2) 3689348814741910323) + (ibit .and .u64 (IntKind.u64.wrap ((ibit .and .u64 (ishr .u64 x_ 1) 6148914691236517205) + (ibit .and .u64 x_ 6148914691236517205))) 3689348814741910323))) 4) + (IntKind.u64.wrap ((ibit .and .u64 (ishr .u64 (IntKind.u64.wrap ((ibit .and .u64 (ishr .u64 x_ 1) 6148914691236517205) + (ibit .and .u64 x_ 6148914691236517205))) 2) 3689348814741910323) + (ibit .and .u64 (IntKind.u64.wrap ((ibit .and .u64 (ishr .u64 x_ 1) 6148914691236517205) + (ibit .and .u64 x_ 6148914691236517205))) 3689348814741910323))))) 1085102592571150095) 8))) + (ishr .u64 (IntKind.u64.wrap ((ibit .and .u64 (IntKind.u64.wrap ((ishr .u64 (IntKind.u64.wrap ((ibit .and .u64 (ishr .u64 (IntKind.u64.wrap ((ibit .and .u64 (ishr .u64 x_ 1) 6148914691236517205) + (ibit .and .u64 x_ 6148914691236517205))) 2) 3689348814741910323) + (ibit .and .u64 (IntKind.u64.wrap ((ibit .and .u64 (ishr .u64 x_ 1) 6148914691236517205) + (ibit .and .u64 x_ 6148914691236517205))) 3689348814741910323))) 4) + (IntKind.u64.wrap ((ibit .and .u64 (ishr .u64 (IntKind.u64.wrap ((ibit .and .u64 (ishr .u64 x_ 1) 6148914691236517205) + (ibit .and .u64 x_ 6148914691236517205))) 2) 3689348814741910323) + (ibit .and .u64 (IntKind.u64.wrap ((ibit .and .u64 (ishr .u64 x_ 1) 6148914691236517205) + (ibit .and .u64 x_ 6148914691236517205))) 3689348814741910323))))) 1085102592571150095) + (ishr .u64 (ibit .and .u64 (IntKind.u64.wrap ((ishr .u64 (IntKind.u64.wrap ((ibit .and .u64 (ishr .u64 (IntKind.u64.wrap ((ibit .and .u64 (ishr .u64 x_ 1) 6148914691236517205) + (ibit .and .u64 x_ 6148914691236517205))) 2) 3689348814741910323) + (ibit .and .u64 (IntKind.u64.wrap ((ibit .and .u64 (ishr .u64 x_ 1) 6148914691236517205) + (ibit .and .u64 x_ 6148914691236517205))) 3689348814741910323))) 4) + (IntKind.u64.wrap ((ibit .and .u64 (ishr .u64 (IntKind.u64.wrap ((ibit .and .u64 (ishr .u64 x_ 1) 6148914691236517205) + (ibit .and .u64 x_ 6148914691236517205))) 2) 3689348814741910323) + (ibit .and .u64 (IntKind.u64.wrap ((ibit .and .u64 (ishr .u64 x_ 1) 6148914691236517205) + (ibit .and .u64 x_ 6148914691236517205))) 3689348814741910323))))) 1085102592571150095) 8))) 16)))] 0 _ (by kernel_rfl) (fun w => by kernel_rfl) ?_
    refine QRun_y (.int .u64 (ishr .u64 (IntKind.u64.wrap ((IntKind.u64.wrap ((ibit .and .u64 (IntKind.u64.wrap ((ishr .u64 (IntKind.u64.wrap ((ibit .and .u64 (ishr .u64 (IntKind.u64.wrap ((ibit .and .u64 (ishr .u64 x_ 1) 6148914691236517205) + (ibit .and .u64 x_ 6148914691236517205))) 2) 3689348814741910323) + (ibit .and .u64 (IntKind.u64.wrap ((ibit .and .u64 (ishr .u64 x_ 1) 6148914691236517205) + (ibit .and .u64 x_ 6148914691236517205))) 3689348814741910323))) 4) + (IntKind.u64.wrap ((ibit .and .u64 (ishr .u64 (IntKind.u64.wrap ((ibit .and .u64 (ishr .u64 x_ 1) 6148914691236517205) + (ibit .and .u64 x_ 6148914691236517205))) 2) 3689348814741910323) + (ibit .and .u64 (IntKind.u64.wrap ((ibit .and .u64 (ishr .u64 x_ 1) 6148914691236517205) + (ibit .and .u64 x_ 6148914691236517205))) 3689348814741910323))))) 1085102592571150095) + (ishr .u64 (ibit .and .u64 (IntKind.u64.wrap ((ishr .u64 (IntKind.u64.wrap ((ibit .and .u64 (ishr .u64 (IntKind.u64.wrap ((ibit .and .u64 (ishr .u64 x_ 1) 6148914691236517205) + (ibit .and .u64 x_ 6148914691236517205))) 2) 3689348814741910323) + (ibit .and .u64 (IntKind.u64.wrap ((ibit .and .u64 (ishr .u64 x_ 1) 6148914691236517205) + (ibit .and .u64 x_ 6148914691236517205))) 3689348814741910323))) 4) + (IntKind.u64.wrap ((ibit .and .u64 (ishr .u64 (IntKind.u64.wrap ((ibit .and .u64 (ishr .u64 x_ 1) 6148914691236517205) + (ibit .and .u64 x_ 6148914691236517205))) 2) 3689348814741910323) + (ibit .and .u64 (IntKind.u64.wrap ((ibit .and .u64 (ishr .u64 x_ 1) 6148914691236517205) + (ibit .and .u64 x_ 6148914691236517205))) 3689348814741910323))))) 1085102592571150095) 8))) + (ishr .u64 (IntKind.u64.wrap ((ibit .and .u64 (IntKind.u64.wrap ((ishr .u64 (IntKind.u64.wrap ((ibit .and .u64 (ishr .u64 (IntKind.u64.wrap ((ibit .and .u64 (ishr .u64 x_ 1) 6148914691236517205) + (ibit .and .u64 x_ 6148914691236517205))) 2) 3689348814741910323) + (ibit .and .u64 (IntKind.u64.wrap ((ibit .and .u64 (ishr .u64 x_ 1) 6148914691236517205) + (ibit .and .u64 x_ 6148914691236517205))) 3689348814741910323))) 4) + (IntKind.u64.wrap ((ibit .and .u64 (ishr .u64 (IntKind.u64.wrap ((ibit .and .u64 (ishr .u64 x_ 1) 6148914691236517205) + (ibit .and .u64 x_ 6148914691236517205))) 2) 3689348814741910323) + (ibit .and .u64 (IntKind.u64.wrap ((ibit .and .u64 (ishr .u64 x_ 1) 6148914691236517205) + (ibit .and .u64 x_ 6148914691236517205))) 3689348814741910323))))) 1085102592571150095) + (ishr .u64 (ibit .and .u64 (IntKind.u64.wrap ((ishr .u64 (IntKind.u64.wrap ((ibit .and .u64 (ishr .u64 (IntKind.u64.wrap ((ibit .and .u64 (ishr .u64 x_ 1) 6148914691236517205) + (ibit .and .u64 x_ 6148914691236517205))) 2) 3689348814741910323) + (ibit .and .u64 (IntKind.u64.wrap ((ibit .and .u64 (ishr .u64 x_ 1) 6148914691236517205) + (ibit .and .u64 x_ 6148914691236517205))) 3689348814741910323))) 4) + (IntKind.u64.wrap ((ibit .and .u64 (ishr .u64 (IntKind.u64.wrap ((ibit .and .u64 (ishr .u64 x_ 1) 6148914691236517205) + (ibit .and .u64 x_ 6148914691236517205))) 2) 3689348814741910323) + (ibit .and .u64 (IntKind.u64.wrap ((ibit .and .u64 (ishr .u64 x_ 1) 6148914691236517205) + (ibit .and .u64 x_ 6148914691236517205))) 3689348814741910323))))) 1085102592571150095) 8))) 16))) 32)) (by kernel_rfl) (Y_shr (k := .u64) (x := IntKind.u64.wrap ((IntKind.u64.wrap ((ibit .and .u64 (IntKind.u64.wrap ((ishr .u64 (IntKind.u64.wrap ((ibit .and .u64 (ishr .u64 (IntKind.u64.wrap ((ibit .and .u64 (ishr .u64 x_ 1) 6148914691236517205) + (ibit .and .u64 x_ 6148914691236517205))) 2) 3689348814741910323) + (ibit .and .u64 (IntKind.u64.wrap ((ibit .and .u64 (ishr .u64 x_ 1) 6148914691236517205) + (ibit .and .u64 x_ 6148914691236517205))) 3689348814741910323))) 4) + (IntKind.u64.wrap ((ibit .and .u64 (ishr .u64 (IntKind.u64.wrap ((ibit .and .u64 (ishr .u64 x_ 1) 6148914691236517205) + (ibit .and .u64 x_ 6148914691236517205))) 2) 3689348814741910323) + (ibit .and .u64 (IntKind.u64.wrap ((ibit .and .u64 (ishr .u64 x_ 1) 6148914691236517205) + (ibit .and .u64 x_ 6148914691236517205))) 3689348814741910323))))) 1085102592571150095) + (ishr .u64 (ibit .and .u64 (IntKind.u64.wrap ((ishr .u64 (IntKind.u64.wrap ((ibit .and .u64 (ishr .u64 (IntKind.u64.wrap ((ibit .and .u64 (ishr .u64 x_ 1) 6148914691236517205) + (ibit .and .u64 x_ 6148914691236517205))) 2) 3689348814741910323) + (ibit .and .u64 (IntKind.u64.wrap ((ibit .and .u64 (ishr .u64 x_ 1) 6148914691236517205) + (ibit .and .u64 x_ 6148914691236517205))) 3689348814741910323))) 4) + (IntKind.u64.wrap ((ibit .and .u64 (ishr .u64 (IntKind.u64.wrap ((ibit .and .u64 (ishr .u64 x_ 1) 6148914691236517205) + (ibit .and .u64 x_ 6148914691236517205))) 2) 3689348814741910323) + (ibit .and .u64 (IntKind.u64.wrap ((ibit .and .u64 (ishr .u64 x_ 1) 6148914691236517205) + (ibit .and .u64 x_ 6148914691236517205))) 3689348814741910323))))) 1085102592571150095) 8))) + (ishr .u64 (IntKind.u64.wrap ((ibit .and .u64 (IntKind.u64.wrap ((ishr .u64 (IntKind.u64.wrap ((ibit .and .u64 (ishr .u64 (IntKind.u64.wrap ((ibit .and .u64 (ishr .u64 x_ 1) 6148914691236517205) + (ibit .and .u64 x_ 6148914691236517205))) 2) 3689348814741910323) + (ibit .and .u64 (IntKind.u64.wrap ((ibit .and .u64 (ishr .u64 x_ 1) 6148914691236517205) + (ibit .and .u64 x_ 6148914691236517205))) 3689348814741910323))) 4) + (IntKind.u64.wrap ((ibit .and .u64 (ishr .u64 (IntKind.u64.wrap ((ibit .and .u64 (ishr .u64 x_ 1) 6148914691236517205) + (ibit .and .u64 x_ 6148914691236517205))) 2) 3689348814741910323) + (ibit .and .u64 (IntKind.u64.wrap ((ibit .and .u64 (ishr .u64 x_ 1) 6148914691236517205) + (ibit .and .u64 x_ 6148914691236517205))) 3689348814741910323))))) 1085102592571150095) + (ishr .u64 (ibit .and .u64 (IntKind.u64.wrap ((ishr .u64 (IntKind.u64.wrap ((ibit .and .u64 (ishr .u64 (IntKind.u64.wrap ((ibit .and .u64 (ishr .u64 x_ 1) 6148914691236517205) + (ibit .and .u64 x_ 6148914691236517205))) 2) 3689348814741910323) + (ibit .and .u64 (IntKind.u64.wrap ((ibit .and .u64 (ishr .u64 x_ 1) 6148914691236517205) + (ibit .and .u64 x_ 6148914691236517205))) 3689348814741910323))) 4) + (IntKind.u64.wrap ((ibit .and .u64 (ishr .u64 (IntKind.u64.wrap ((ibit .and .u64 (ishr .u64 x_ 1) 6148914691236517205) + (ibit .and .u64 x_ 6148914691236517205))) 2) 3689348814741910323) + (ibit .and .u64 (IntKind.u64.wrap ((ibit .and .u64 (ishr .u64 x_ 1) 6148914691236517205) + (ibit .and .u64 x_ 6148914691236517205))) 3689348814741910323))))) 1085102592571150095) 8))) 16))) (kk := .u64) (y := 32) (by kernel_rfl) hz6) ?_
    refine QRun_b [.int .u64 (IntKind.u64.wrap ((IntKind.u64.wrap ((IntKind.u64.wrap ((ibit .and .u64 (IntKind.u64.wrap ((ishr .u64 (IntKind.u64.wrap ((ibit .and .u64 (ishr .u64 (IntKind.u64.wrap ((ibit .and .u64 (ishr .u64 x_ 1) 6148914691236517205) + (ibit .and .u64 x_ 6148914691236517205))) 2) 3689348814741910323) + (ibit .and .u64 (IntKind.u64.wrap ((ibit .and .u64 (ishr .u64 x_ 1) 6148914691236517205) + (ibit .and .u64 x_ 6148914691236517205))) 3689348814741910323))) 4) + (IntKind.u64.wrap ((ibit .and .u64 (ishr .u64 (IntKind.u64.wrap ((ibit .and .u64 (ishr .u64 x_ 1) 6148914691236517205) + (ibit .and .u64 x_ 6148914691236517205))) 2) 3689348814741910323) + (ibit .and .u64 (IntKind.u64.wrap ((ibit .and .u64 (ishr .u64 x_ 1) 6148914691236517205) + (ibit .and .u64 x_ 6148914691236517205))) 3689348814741910323))))) 1085102592571150095) + (ishr .u64 (ibit .and .u64 (IntKind.u64.wrap ((ishr .u64 (IntKind.u64.wrap ((ibit .and .u64 (ishr .u64 (IntKind.u64.wrap ((ibit .and .u64 (ishr .u64 x_ 1) 6148914691236517205) + (ibit .and .u64 x_ 6148914691236517205))) 2) 3689348814741910323) + (ibit .and .u64 (IntKind.u64.wrap ((ibit .and .u64 (ishr .u64 x_ 1) 6148914691236517205) + (ibit .and .u64 x_ 6148914691236517205))) 3689348814741910323))) 4) + (IntKind.u64.wrap ((ibit .and .u64 (ishr .u64 (IntKind.u64.wrap ((ibit .and .u64 (ishr .u64 x_ 1) 6148914691236517205) + (ibit .and .u64 x_ 6148914691236517205))) 2) 3689348814741910323) + (ibit .and .u64 (IntKind.u64.wrap ((ibit .and .u64 (ishr .u64 x_ 1) 6148914691236517205) + (ibit .and .u64 x_ 6148914691236517205))) 3689348814741910323))))) 1085102592571150095) 8))) + (ishr .u64 (IntKind.u64.wrap ((ibit .and .u64 (IntKind.u64.wrap ((ishr .u64 (IntKind.u64.wrap ((ibit .and .u64 (ishr .u64 (IntKind.u64.wrap ((ibit .and .u64 (ishr .u64 x_ 1) 6148914691236517205) + (ibit .and .u64 x_ 6148914691236517205))) 2) 3689348814741910323) + (ibit .and .u64 (IntKind.u64.wrap ((ibit .and .u64 (ishr .u64 x_ 1) 6148914691236517205) + (ibit .and .u64 x_ 6148914691236517205))) 3689348814741910323))) 4) + (IntKind.u64.wrap ((ibit .and .u64 (ishr .u64 (IntKind.u64.wrap ((ibit .and .u64 (ishr .u64 x_ 1) 6148914691236517205) + (ibit .and .u64 x_ 6148914691236517205))) 2) 3689348814741910323) + (ibit .and .u64 (IntKind.u64.wrap ((ibit .and .u64 (ishr .u64 x_ 1) 6148914691236517205) + (ibit .and .u64 x_ 6148914691236517205))) 3689348814741910323))))) 1085102592571150095) + (ishr .u64 (ibit .and .u64 (IntKind.u64.wrap ((ishr .u64 (IntKind.u64.wrap ((ibit .and .u64 (ishr .u64 (IntKind.u64.wrap ((ibit .and .u64 (ishr .u64 x_ 1) 6148914691236517205) + (ibit .and .u64 x_ 6148914691236517205))) 2) 3689348814741910323) + (ibit .and .u64 (IntKind.u64.wrap ((ibit .and .u64 (ishr .u64 x_ 1) 6148914691236517205) + (ibit .and .u64 x_ 6148914691236517205))) 3689348814741910323))) 4) + (IntKind.u64.wrap ((ibit .and .u64 (ishr .u64 (IntKind.u64.wrap ((ibit .and .u64 (ishr .u64 x_ 1) 6148914691236517205) + (ibit .and .u64 x_ 6148914691236517205))) 2) 3689348814741910323) + (ibit .and .u64 (IntKind.u64.wrap ((ibit .and .u64 (ishr .u64 x_ 1) 6148914691236517205) + (ibit .and .u64 x_ 6148914691236517205))) 3689348814741910323))))) 1085102592571150095) 8))) 16))) + (ishr .u64 (IntKind.u64.wrap ((IntKind.u64.wrap ((ibit .and .u64 (IntKind.u64.wrap ((ishr .u64 (IntKind.u64.wrap ((ibit .and .u64 (ishr .u64 (IntKind.u64.wrap ((ibit .and .u64 (ishr .u64 x_ 1) 6148914691236517205) + (ibit .and .u64 x_ 6148914691236517205))) 2) 3689348814741910323) + (ibit .and .u64 (IntKind.u64.wrap ((ibit .and .u64 (ishr .u64 x_ 1) 6148914691236517205) + (ibit .and .u64 x_ 6148914691236517205))) 3689348814741910323))) 4) + (IntKind.u64.wrap ((ibit .and .u64 (ishr .u64 (IntKind.u64.wrap ((ibit .and .u64 (ishr .u64 x_ 1) 6148914691236517205) + (ibit .and .u64 x_ 6148914691236517205))) 2) 3689348814741910323) + (ibit .and .u64 (IntKind.u64.wrap ((ibit .and .u64 (ishr .u64 x_ 1) 6148914691236517205) + (ibit .and .u64 x_ 6148914691236517205))) 3689348814741910323))))) 1085102592571150095) + (ishr .u64 (ibit .and .u64 (IntKind.u64.wrap ((ishr .u64 (IntKind.u64.wrap ((ibit .and .u64 (ishr .u64 (IntKind.u64.wrap ((ibit .and .u64 (ishr .u64 x_ 1) 6148914691236517205) + (ibit .and .u64 x_ 6148914691236517205))) 2) 3689348814741910323) + (ibit .and .u64 (IntKind.u64.wrap ((ibit .and .u64 (ishr .u64 x_ 1) 6148914691236517205) + (ibit .and .u64 x_ 6148914691236517205))) 3689348814741910323))) 4) + (IntKind.u64.wrap ((ibit .and .u64 (ishr .u64 (IntKind.u64.wrap ((ibit .and .u64 (ishr .u64 x_ 1) 6148914691236517205) + (ibit .and .u64 x_ 6148914691236517205))) 2) 3689348814741910323) + (ibit .and .u64 (IntKind.u64.wrap ((ibit .and .u64 (ishr .u64 x_ 1) 6148914691236517205) + (ibit .and .u64 x_ 6148914691236517205))) 3689348814741910323))))) 1085102592571150095) 8))) + (ishr .u64 (IntKind.u64.wrap ((ibit .and .u64 (IntKind.u64.wrap ((ishr .u64 (IntKind.u64.wrap ((ibit .and .u64 (ishr .u64 (IntKind.u64.wrap ((ibit .and .u64 (ishr .u64 x_ 1) 6148914691236517205) + (ibit .and .u64 x_ 6148914691236517205))) 2) 3689348814741910323) + (ibit .and .u64 (IntKind.u64.wrap ((ibit .and .u64 (ishr .u64 x_ 1) 6148914691236517205) + (ibit .and .u64 x_ 6148914691236517205))) 3689348814741910323))) 4) + (IntKind.u64.wrap ((ibit .and .u64 (ishr .u64 (IntKind.u64.wrap ((ibit .and .u64 (ishr .u64 x_ 1) 6148914691236517205) + (ibit .and .u64 x_ 6148914691236517205))) 2) 3689348814741910323) + (ibit .and .u64 (IntKind.u64.wrap ((ibit .and .u64 (ishr .u64 x_ 1) 6148914691236517205) + (ibit .and .u64 x_ 6148914691236517205))) 3689348814741910323))))) 1085102592571150095) + (ishr .u64 (ibit .and .u64 (IntKind.u64.wrap ((ishr .u64 (IntKind.u64.wrap ((ibit .and .u64 (ishr .u64 (IntKind.u64.wrap ((ibit .and .u64 (ishr .u64 x_ 1) 6148914691236517205) + (ibit .and .u64 x_ 6148914691236517205))) 2) 3689348814741910323) + (ibit .and .u64 (IntKind.u64.wrap ((ibit .and .u64 (ishr .u64 x_ 1) 6148914691236517205) + (ibit .and .u64 x_ 6148914691236517205))) 3689348814741910323))) 4) + (IntKind.u64.wrap ((ibit .and .u64 (ishr .u64 (IntKind.u64.wrap ((ibit .and .u64 (ishr .u64 x_ 1) 6148914691236517205) + (ibit .and .u64 x_ 6148914691236517205))) 2) 3689348814741910323) + (ibit .and .u64 (IntKind.u64.wrap ((ibit .and .u64 (ishr .u64 x_ 1) 6148914691236517205) + (ibit .and .u64 x_ 6148914691236517205))) 3689348814741910323))))) 1085102592571150095) 8))) 16))) 32))), .int .u64 (IntKind.u64.wrap ((IntKind.u64.wrap ((IntKind.u64.wrap ((ibit .and .u64 (IntKind.u64.wrap ((ishr .u64 (IntKind.u64.wrap ((ibit .and .u64 (ishr .u64 (IntKind.u64.wrap ((ibit .and .u64 (ishr .u64 x_ 1) 6148914691236517205) + (ibit .and .u64 x_ 6148914691236517205))) 2) 3689348814741910323) + (ibit .and .u64 (IntKind.u64.wrap ((ibit .and .u64 (ishr .u64 x_ 1) 6148914691236517205) + (ibit .and .u64 x_ 6148914691236517205))) 3689348814741910323))) 4) + (IntKind.u64.wrap ((ibit .and .u64 (ishr .u64 (IntKind.u64.wrap ((ibit .and .u64 (ishr .u64 x_ 1) 6148914691236517205) + (ibit .and .u64 x_ 6148914691236517205))) 2) 3689348814741910323) + (ibit .and .u64 (IntKind.u64.wrap ((ibit .and .u64 (ishr .u64 x_ 1) 6148914691236517205) + (ibit .and .u64 x_ 6148914691236517205))) 3689348814741910323))))) 1085102592571150095) + (ishr .u64 (ibit .and .u64 (IntKind.u64.wrap ((ishr .u64 (IntKind.u64.wrap ((ibit .and .u64 (ishr .u64 (IntKind.u64.wrap ((ibit .and .u64 (ishr .u64 x_ 1) 6148914691236517205) + (ibit .and .u64 x_ 6148914691236517205))) 2) 3689348814741910323) + (ibit .and .u64 (IntKind.u64.wrap ((ibit .and .u64 (ishr .u64 x_ 1) 6148914691236517205) + (ibit .and .u64 x_ 6148914691236517205))) 3689348814741910323))) 4) + (IntKind.u64.wrap ((ibit .and .u64 (ishr .u64 (IntKind.u64.wrap ((ibit .and .u64 (ishr .u64 x_ 1) 6148914691236517205) + (ibit .and .u64 x_ 6148914691236517205))) 2) 3689348814741910323) + (ibit .and .u64 (IntKind.u64.wrap ((ibit .and .u64 (ishr .u64 x_ 1) 6148914691236517205) + (ibit .and .u64 x_ 6148914691236517205))) 3689348814741910323))))) 1085102592571150095) 8))) + (ishr .u64 (IntKind.u64.wrap ((ibit .and .u64 (IntKind.u64.wrap ((ishr .u64 (IntKind.u64.wrap ((ibit .and .u64 (ishr .u64 (IntKind.u64.wrap ((ibit .and .u64 (ishr .u64 x_ 1) 6148914691236517205) + (ibit .and .u64 x_ 6148914691236517205))) 2) 3689348814741910323) + (ibit .and .u64 (IntKind.u64.wrap ((ibit .and .u64 (ishr .u64 x_ 1) 6148914691236517205) + (ibit .and .u64 x_ 6148914691236517205))) 3689348814741910323))) 4) + (IntKind.u64.wrap ((ibit .and .u64 (ishr .u64 (IntKind.u64.wrap ((ibit .and .u64 (ishr .u64 x_ 1) 6148914691236517205) + (ibit .and .u64 x_ 6148914691236517205))) 2) 3689348814741910323) + (ibit .and .u64 (IntKind.u64.wrap ((ibit .and .u64 (ishr .u64 x_ 1) 6148914691236517205) + (ibit .and .u64 x_ 6148914691236517205))) 3689348814741910323))))) 1085102592571150095) + (ishr .u64 (ibit .and .u64 (IntKind.u64.wrap ((ishr .u64 (IntKind.u64.wrap ((ibit .and .u64 (ishr .u64 (IntKind.u64.wrap ((ibit .and .u64 (ishr .u64 x_ 1) 6148914691236517205) + (ibit .and .u64 x_ 6148914691236517205))) 2) 3689348814741910323) + (ibit .and .u64 (IntKind.u64.wrap ((ibit .and .u64 (ishr .u64 x_ 1) 6148914691236517205) + (ibit .and .u64 x_ 6148914691236517205))) 3689348814741910323))) 4) + (IntKind.u64.wrap ((ibit .and .u64 (ishr .u64 (IntKind.u64.wrap ((ibit .and .u64 (ishr .u64 x_ 1) 6148914691236517205) + (ibit .and .u64 x_ 6148914691236517205))) 2) 3689348814741910323) + (ibit .and .u64 (IntKind.u64.wrap ((ibit .and .u64 (ishr .u64 x_ 1) 6148914691236517205) + (ibit .and .u64 x_ 6148914691236517205))) 3689348814741910323))))) 1085102592571150095) 8))) 16))) + (ishr .u64 (IntKind.u64.wrap ((IntKind.u64.wrap ((ibit .and .u64 (IntKind.u64.wrap ((ishr .u64 (IntKind.u64.wrap ((ibit .and .u64 (ishr .u64 (IntKind.u64.wrap ((ibit .and .u64 (ishr .u64 x_ 1) 6148914691236517205) + (ibit .and .u64 x_ 6148914691236517205))) 2) 3689348814741910323) + (ibit .and .u64 (IntKind.u64.wrap ((ibit .and .u64 (ishr .u64 x_ 1) 6148914691236517205) + (ibit .and .u64 x_ 6148914691236517205))) 3689348814741910323))) 4) + (IntKind.u64.wrap ((ibit .and .u64 (ishr .u64 (IntKind.u64.wrap ((ibit .and .u64 (ishr .u64 x_ 1) 6148914691236517205) + (ibit .and .u64 x_ 6148914691236517205))) 2) 3689348814741910323) + (ibit .and .u64 (IntKind.u64.wrap ((ibit .and .u64 (ishr .u64 x_ 1) 6148914691236517205) + (ibit .and .u64 x_ 6148914691236517205))) 3689348814741910323))))) 1085102592571150095) + (ishr .u64 (ibit .and .u64 (IntKind.u64.wrap ((ishr .u64 (IntKind.u64.wrap ((ibit .and .u64 (ishr .u64 (IntKind.u64.wrap ((ibit .and .u64 (ishr .u64 x_ 1) 6148914691236517205) + (ibit .and .u64 x_ 6148914691236517205))) 2) 3689348814741910323) + (ibit .and .u64 (IntKind.u64.wrap ((ibit .and .u64 (ishr .u64 x_ 1) 6148914691236517205) + (ibit .and .u64 x_ 6148914691236517205))) 3689348814741910323))) 4) + (IntKind.u64.wrap ((ibit .and .u64 (ishr .u64 (IntKind.u64.wrap ((ibit .and .u64 (ishr .u64 x_ 1) 6148914691236517205) + (ibit .and .u64 x_ 6148914691236517205))) 2) 3689348814741910323) + (ibit .and .u64 (IntKind.u64.wrap ((ibit .and .u64 (ishr .u64 x_ 1) 6148914691236517205) + (ibit .and .u64 x_ 6148914691236517205))) 3689348814741910323))))) 1085102592571150095) 8))) + (ishr .u64 (IntKind.u64.wrap ((ibit .and .u64 (IntKind.u64.wrap ((ishr .u64 (IntKind.u64.wrap ((ibit .and .u64 (ishr .u64 (IntKind.u64.wrap ((ibit .and .u64 (ishr .u64 x_ 1) 6148914691236517205) + (ibit .and .u64 x_ 6148914691236517205))) 2) 3689348814741910323) + (ibit .and .u64 (IntKind.u64.wrap ((ibit .and .u64 (ishr .u64 x_ 1) 6148914691236517205) + (ibit .and .u64 x_ 6148914691236517205))) 3689348814741910323))) 4) + (IntKind.u64.wrap ((ibit .and .u64 (ishr .u64 (IntKind.u64.wrap ((ibit .and .u64 (ishr .u64 x_ 1) 6148914691236517205) + (ibit .and .u64 x_ 6148914691236517205))) 2) 3689348814741910323) + (ibit .and .u64 (IntKind.u64.wrap ((ibit .and .u64 (ishr .u64 x_ 1) 6148914691236517205) + (ibit .and .u64 x_ 6148914691236517205))) 3689348814741910323))))) 1085102592571150095) + (ishr .u64 (ibit .and .u64 (IntKind.u64.wrap ((ishr .u64 (IntKind.u64.wrap ((ibit .and .u64 (ishr .u64 (IntKind.u64.wrap ((ibit .and .u64 (ishr .u64 x_ 1) 6148914691236517205) + (ibit .and .u64 x_ 6148914691236517205))) 2) 3689348814741910323) + (ibit .and .u64 (IntKind.u64.wrap ((ibit .and .u64 (ishr .u64 x_ 1) 6148914691236517205) + (ibit .and .u64 x_ 6148914691236517205))) 3689348814741910323))) 4) + (IntKind.u64.wrap ((ibit .and .u64 (ishr .u64 (IntKind.u64.wrap ((ibit .and .u64 (ishr .u64 x_ 1) 6148914691236517205) + (ibit .and .u64 x_ 6148914691236517205))) 2) 3689348814741910323) + (ibit .and .u64 (IntKind.u64.wrap ((ibit .and .u64 (ishr .u64 x_ 1) 6148914691236517205) + (ibit .and .u64 x_ 6148914691236517205))) 3689348814741910323))))) 1085102592571150095) 8))) 16))) 32)))] 3 _ (by kernel_rfl) (fun w => by kernel_rfl) ?_
    exact QRun_done [0] (by kernel_rfl) (by kernel_rfl)
  refine Run_seq ?_
  refine Run_reg 4 (by kernel_rfl) (L' := [(2, .int .i64 (ibit .and .i64 (w64 (IntKind.u64.wrap ((IntKind.u64.wrap ((IntKind.u64.wrap ((ibit .and .u64 (IntKind.u64.wrap ((ishr .u64 (IntKind.u64.wrap ((ibit .and .u64 (ishr .u64 (IntKind.u64.wrap ((ibit .and .u64 (ishr .u64 x_ 1) 6148914691236517205) + (ibit .and .u64 x_ 6148914691236517205))) 2) 3689348814741910323) + (ibit .and .u64 (IntKind.u64.wrap ((ibit .and .u64 (ishr .u64 x_ 1) 6148914691236517205) + (ibit .and .u64 x_ 6148914691236517205))) 3689348814741910323))) 4) + (IntKind.u64.wrap ((ibit .and .u64 (ishr .u64 (IntKind.u64.wrap ((ibit .and .u64 (ishr .u64 x_ 1) 6148914691236517205) + (ibit .and .u64 x_ 6148914691236517205))) 2) 3689348814741910323) + (ibit .and .u64 (IntKind.u64.wrap ((ibit .and .u64 (ishr .u64 x_ 1) 6148914691236517205) + (ibit .and .u64 x_ 6148914691236517205))) 3689348814741910323))))) 1085102592571150095) + (ishr .u64 (ibit .and .u64 (IntKind.u64.wrap ((ishr .u64 (IntKind.u64.wrap ((ibit .and .u64 (ishr .u64 (IntKind.u64.wrap ((ibit .and .u64 (ishr .u64 x_ 1) 6148914691236517205) + (ibit .and .u64 x_ 6148914691236517205))) 2) 3689348814741910323) + (ibit .and .u64 (IntKind.u64.wrap ((ibit .and .u64 (ishr .u64 x_ 1) 6148914691236517205) + (ibit .and .u64 x_ 6148914691236517205))) 3689348814741910323))) 4) + (IntKind.u64.wrap ((ibit .and .u64 (ishr .u64 (IntKind.u64.wrap ((ibit .and .u64 (ishr .u64 x_ 1) 6148914691236517205) + (ibit .and .u64 x_ 6148914691236517205))) 2) 3689348814741910323) + (ibit .and .u64 (IntKind.u64.wrap ((ibit .and .u64 (ishr .u64 x_ 1) 6148914691236517205) + (ibit .and .u64 x_ 6148914691236517205))) 3689348814741910323))))) 1085102592571150095) 8))) + (ishr .u64 (IntKind.u64.wrap ((ibit .and .u64 (IntKind.u64.wrap ((ishr .u64 (IntKind.u64.wrap ((ibit .and .u64 (ishr .u64 (IntKind.u64.wrap ((ibit .and .u64 (ishr .u64 x_ 1) 6148914691236517205) + (ibit .and .u64 x_ 6148914691236517205))) 2) 3689348814741910323) + (ibit .and .u64 (IntKind.u64.wrap ((ibit .and .u64 (ishr .u64 x_ 1) 6148914691236517205) + (ibit .and .u64 x_ 6148914691236517205))) 3689348814741910323))) 4) + (IntKind.u64.wrap ((ibit .and .u64 (ishr .u64 (IntKind.u64.wrap ((ibit .and .u64 (ishr .u64 x_ 1) 6148914691236517205) + (ibit .and .u64 x_ 6148914691236517205))) 2) 3689348814741910323) + (ibit .and .u64 (IntKind.u64.wrap ((ibit .and .u64 (ishr .u64 x_ 1) 6148914691236517205) + (ibit .and .u64 x_ 6148914691236517205))) 3689348814741910323))))) 1085102592571150095) + (ishr .u64 (ibit .and .u64 (IntKind.u64.wrap ((ishr .u64 (IntKind.u64.wrap ((ibit .and .u64 (ishr .u64 (IntKind.u64.wrap ((ibit .and .u64 (ishr .u64 x_ 1) 6148914691236517205) + (ibit .and .u64 x_ 6148914691236517205))) 2) 3689348814741910323) + (ibit .and .u64 (IntKind.u64.wrap ((ibit .and .u64 (ishr .u64 x_ 1) 6148914691236517205) + (ibit .and .u64 x_ 6148914691236517205))) 3689348814741910323))) 4) + (IntKind.u64.wrap ((ibit .and .u64 (ishr .u64 (IntKind.u64.wrap ((ibit .and .u64 (ishr .u64 x_ 1) 6148914691236517205) + (ibit .and .u64 x_ 6148914691236517205))) 2) 3689348814741910323) + (ibit .and .u64 (IntKind.u64.wrap ((ibit .and .u64 (ishr .u64 x_ 1) 6148914691236517205) + (ibit .and .u64 x_ 6148914691236517205))) 3689348814741910323))))) 1085102592571150095) 8))) 16))) + (ishr .u64 (IntKind.u64.wrap ((IntKind.u64.wrap ((ibit .and .u64 (IntKind.u64.wrap ((ishr .u64 (IntKind.u64.wrap ((ibit .and .u64 (ishr .u64 (IntKind.u64.wrap ((ibit .and .u64 (ishr .u64 x_ 1) 6148914691236517205) + (ibit .and .u64 x_ 6148914691236517205))) 2) 3689348814741910323) + (ibit .and .u64 (IntKind.u64.wrap ((ibit .and .u64 (ishr .u64 x_ 1) 6148914691236517205) + (ibit .and .u64 x_ 6148914691236517205))) 3689348814741910323))) 4) + (IntKind.u64.wrap ((ibit .and .u64 (ishr .u64 (IntKind.u64.wrap ((ibit .and .u64 (ishr .u64 x_ 1) 6148914691236517205) + (ibit .and .u64 x_ 6148914691236517205))) 2) 3689348814741910323) + (ibit .and .u64 (IntKind.u64.wrap ((ibit .and .u64 (ishr .u64 x_ 1) 6148914691236517205) + (ibit .and .u64 x_ 6148914691236517205))) 3689348814741910323))))) 1085102592571150095) + (ishr .u64 (ibit .and .u64 (IntKind.u64.wrap ((ishr .u64 (IntKind.u64.wrap ((ibit .and .u64 (ishr .u64 (IntKind.u64.wrap ((ibit .and .u64 (ishr .u64 x_ 1) 6148914691236517205) + (ibit .and .u64 x_ 6148914691236517205))) 2) 3689348814741910323) + (ibit .and .u64 (IntKind.u64.wrap ((ibit .and .u64 (ishr .u64 x_ 1) 6148914691236517205) + (ibit .and .u64 x_ 6148914691236517205))) 3689348814741910323))) 4) + (IntKind.u64.wrap ((ibit .and .u64 (ishr .u64 (IntKind.u64.wrap ((ibit .and .u64 (ishr .u64 x_ 1) 6148914691236517205) + (ibit .and .u64 x_ 6148914691236517205))) 2) 3689348814741910323) + (ibit .and .u64 (IntKind.u64.wrap ((ibit .and .u64 (ishr .u64 x_ 1) 6148914691236517205) + (ibit .and .u64 x_ 6148914691236517205))) 3689348814741910323))))) 1085102592571150095) 8))) + (ishr .u64 (IntKind.u64.wrap ((ibit .and .u64 (IntKind.u64.wrap ((ishr .u64 (IntKind.u64.wrap ((ibit .and .u64 (ishr .u64 (IntKind.u64.wrap ((ibit .and .u64 (ishr .u64 x_ 1) 6148914691236517205) + (ibit .and .u64 x_ 6148914691236517205))) 2) 3689348814741910323) + (ibit .and .u64 (IntKind.u64.wrap ((ibit .and .u64 (ishr .u64 x_ 1) 6148914691236517205) + (ibit .and .u64 x_ 6148914691236517205))) 3689348814741910323))) 4) + (IntKind.u64.wrap ((ibit .and .u64 (ishr .u64 (IntKind.u64.wrap ((ibit .and .u64 (ishr .u64 x_ 1) 6148914691236517205) + (ibit .and .u64 x_ 6148914691236517205))) 2) 3689348814741910323) + (ibit .and .u64 (IntKind.u64.wrap ((ibit .and .u64 (ishr .u64 x_ 1) 6148914691236517205) + (ibit .and .u64 x_ 6148914691236517205))) 3689348814741910323))))) 1085102592571150095) + (ishr .u64 (ibit .and .u64 (IntKind.u64.wrap ((ishr .u64 (IntKind.u64.wrap ((ibit .and .u64 (ishr .u64 (IntKind.u64.wrap ((ibit .and .u64 (ishr .u64 x_ 1) 6148914691236517205) + (ibit .and .u64 x_ 6148914691236517205))) 2) 3689348814741910323) + (ibit .and .u64 (IntKind.u64.wrap ((ibit .and .u64 (ishr .u64 x_ 1) 6148914691236517205) + (ibit .and .u64 x_ 6148914691236517205))) 3689348814741910323))) 4) + (IntKind.u64.wrap ((ibit .and .u64 (ishr .u64 (IntKind.u64.wrap ((ibit .and .u64 (ishr .u64 x_ 1) 6148914691236517205) + (ibit .and .u64 x_ 6148914691236517205))) 2) 3689348814741910323) + (ibit .and .u64 (IntKind.u64.wrap ((ibit .and .u64 (ishr .u64 x_ 1) 6148914691236517205) + (ibit .and .u64 x_ 6148914691236517205))) 3689348814741910323))))) 1085102592571150095) 8))) 16))) 32)))) 127))]) ?_ ?_
  · refine QRun_b [.int .u64 (IntKind.u64.wrap ((IntKind.u64.wrap ((IntKind.u64.wrap ((ibit .and .u64 (IntKind.u64.wrap ((ishr .u64 (IntKind.u64.wrap ((ibit .and .u64 (ishr .u64 (IntKind.u64.wrap ((ibit .and .u64 (ishr .u64 x_ 1) 6148914691236517205) + (ibit .and .u64 x_ 6148914691236517205))) 2) 3689348814741910323) + (ibit .and .u64 (IntKind.u64.wrap ((ibit .and .u64 (ishr .u64 x_ 1) 6148914691236517205) + (ibit .and .u64 x_ 6148914691236517205))) 3689348814741910323))) 4) + (IntKind.u64.wrap ((ibit .and .u64 (ishr .u64 (IntKind.u64.wrap ((ibit .and .u64 (ishr .u64 x_ 1) 6148914691236517205) + (ibit .and .u64 x_ 6148914691236517205))) 2) 3689348814741910323) + (ibit .and .u64 (IntKind.u64.wrap ((ibit .and .u64 (ishr .u64 x_ 1) 6148914691236517205) + (ibit .and .u64 x_ 6148914691236517205))) 3689348814741910323))))) 1085102592571150095) + (ishr .u64 (ibit .and .u64 (IntKind.u64.wrap ((ishr .u64 (IntKind.u64.wrap ((ibit .and .u64 (ishr .u64 (IntKind.u64.wrap ((ibit .and .u64 (ishr .u64 x_ 1) 6148914691236517205) + (ibit .and .u64 x_ 6148914691236517205))) 2) 3689348814741910323) + (ibit .and .u64 (IntKind.u64.wrap ((ibit .and .u64 (ishr .u64 x_ 1) 6148914691236517205) + (ibit .and .u64 x_ 6148914691236517205))) 3689348814741910323))) 4) + (IntKind.u64.wrap ((ibit .and .u64 (ishr .u64 (IntKind.u64.wrap ((ibit .and .u64 (ishr .u64 x_ 1) 6148914691236517205) + (ibit .and .u64 x_ 6148914691236517205))) 2) 3689348814741910323) + (ibit .and .u64 (IntKind.u64.wrap ((ibit .and .u64 (ishr .u64 x_ 1) 6148914691236517205) + (ibit .and .u64 x_ 6148914691236517205))) 3689348814741910323))))) 1085102592571150095) 8))) + (ishr .u64 (IntKind.u64.wrap ((ibit .and .u64 (IntKind.u64.wrap ((ishr .u64 (IntKind.u64.wrap ((ibit .and .u64 (ishr .u64 (IntKind.u64.wrap ((ibit .and .u64 (ishr .u64 x_ 1) 6148914691236517205) + (ibit .and .u64 x_ 6148914691236517205))) 2) 3689348814741910323) + (ibit .and .u64 (IntKind.u64.wrap ((ibit .and .u64 (ishr .u64 x_ 1) 6148914691236517205) + (ibit .and .u64 x_ 6148914691236517205))) 3689348814741910323))) 4) + (IntKind.u64.wrap ((ibit .and .u64 (ishr .u64 (IntKind.u64.wrap ((ibit .and .u64 (ishr .u64 x_ 1) 6148914691236517205) + (ibit .and .u64 x_ 6148914691236517205))) 2) 3689348814741910323) + (ibit .and .u64 (IntKind.u64.wrap ((ibit .and .u64 (ishr .u64 x_ 1) 6148914691236517205) + (ibit .and .u64 x_ 6148914691236517205))) 3689348814741910323))))) 1085102592571150095) + (ishr .u64 (ibit .and .u64 (IntKind.u64.wrap ((ishr .u64 (IntKind.u64.wrap ((ibit .and .u64 (ishr .u64 (IntKind.u64.wrap ((ibit .and .u64 (ishr .u64 x_ 1) 6148914691236517205) + (ibit .and .u64 x_ 6148914691236517205))) 2) 3689348814741910323) + (ibit .and .u64 (IntKind.u64.wrap ((ibit .and .u64 (ishr .u64 x_ 1) 6148914691236517205) + (ibit .and .u64 x_ 6148914691236517205))) 3689348814741910323))) 4) + (IntKind.u64.wrap ((ibit .and .u64 (ishr .u64 (IntKind.u64.wrap ((ibit .and .u64 (ishr .u64 x_ 1) 6148914691236517205) + (ibit .and .u64 x_ 6148914691236517205))) 2) 3689348814741910323) + (ibit .and .u64 (IntKind.u64.wrap ((ibit .and .u64 (ishr .u64 x_ 1) 6148914691236517205) + (ibit .and .u64 x_ 6148914691236517205))) 3689348814741910323))))) 1085102592571150095) 8))) 16))) + (ishr .u64 (IntKind.u64.wrap ((IntKind.u64.wrap ((ibit .and .u64 (IntKind.u64.wrap ((ishr .u64 (IntKind.u64.wrap ((ibit .and .u64 (ishr .u64 (IntKind.u64.wrap ((ibit .and .u64 (ishr .u64 x_ 1) 6148914691236517205) + (ibit .and .u64 x_ 6148914691236517205))) 2) 3689348814741910323) + (ibit .and .u64 (IntKind.u64.wrap ((ibit .and .u64 (ishr .u64 x_ 1) 6148914691236517205) + (ibit .and .u64 x_ 6148914691236517205))) 3689348814741910323))) 4) + (IntKind.u64.wrap ((ibit .and .u64 (ishr .u64 (IntKind.u64.wrap ((ibit .and .u64 (ishr .u64 x_ 1) 6148914691236517205) + (ibit .and .u64 x_ 6148914691236517205))) 2) 3689348814741910323) + (ibit .and .u64 (IntKind.u64.wrap ((ibit .and .u64 (ishr .u64 x_ 1) 6148914691236517205) + (ibit .and .u64 x_ 6148914691236517205))) 3689348814741910323))))) 1085102592571150095) + (ishr .u64 (ibit .and .u64 (IntKind.u64.wrap ((ishr .u64 (IntKind.u64.wrap ((ibit .and .u64 (ishr .u64 (IntKind.u64.wrap ((ibit .and .u64 (ishr .u64 x_ 1) 6148914691236517205) + (ibit .and .u64 x_ 6148914691236517205))) 2) 3689348814741910323) + (ibit .and .u64 (IntKind.u64.wrap ((ibit .and .u64 (ishr .u64 x_ 1) 6148914691236517205) + (ibit .and .u64 x_ 6148914691236517205))) 3689348814741910323))) 4) + (IntKind.u64.wrap ((ibit .and .u64 (ishr .u64 (IntKind.u64.wrap ((ibit .and .u64 (ishr .u64 x_ 1) 6148914691236517205) + (ibit .and .u64 x_ 6148914691236517205))) 2) 3689348814741910323) + (ibit .and .u64 (IntKind.u64.wrap ((ibit .and .u64 (ishr .u64 x_ 1) 6148914691236517205) + (ibit .and .u64 x_ 6148914691236517205))) 3689348814741910323))))) 1085102592571150095) 8))) + (ishr .u64 (IntKind.u64.wrap ((ibit .and .u64 (IntKind.u64.wrap ((ishr .u64 (IntKind.u64.wrap ((ibit .and .u64 (ishr .u64 (IntKind.u64.wrap ((ibit .and .u64 (ishr .u64 x_ 1) 6148914691236517205) + (ibit .and .u64 x_ 6148914691236517205))) 2) 3689348814741910323) + (ibit .and .u64 (IntKind.u64.wrap ((ibit .and .u64 (ishr .u64 x_ 1) 6148914691236517205) + (ibit .and .u64 x_ 6148914691236517205))) 3689348814741910323))) 4) + (IntKind.u64.wrap ((ibit .and .u64 (ishr .u64 (IntKind.u64.wrap ((ibit .and .u64 (ishr .u64 x_ 1) 6148914691236517205) + (ibit .and .u64 x_ 6148914691236517205))) 2) 3689348814741910323) + (ibit .and .u64 (IntKind.u64.wrap ((ibit .and .u64 (ishr .u64 x_ 1) 6148914691236517205) + (ibit .and .u64 x_ 6148914691236517205))) 3689348814741910323))))) 1085102592571150095) + (ishr .u64 (ibit .and .u64 (IntKind.u64.wrap ((ishr .u64 (IntKind.u64.wrap ((ibit .and .u64 (ishr .u64 (IntKind.u64.wrap ((ibit .and .u64 (ishr .u64 x_ 1) 6148914691236517205) + (ibit .and .u64 x_ 6148914691236517205))) 2) 3689348814741910323) + (ibit .and .u64 (IntKind.u64.wrap ((ibit .and .u64 (ishr .u64 x_ 1) 6148914691236517205) + (ibit .and .u64 x_ 6148914691236517205))) 3689348814741910323))) 4) + (IntKind.u64.wrap ((ibit .and .u64 (ishr .u64 (IntKind.u64.wrap ((ibit .and .u64 (ishr .u64 x_ 1) 6148914691236517205) + (ibit .and .u64 x_ 6148914691236517205))) 2) 3689348814741910323) + (ibit .and .u64 (IntKind.u64.wrap ((ibit .and .u64 (ishr .u64 x_ 1) 6148914691236517205) + (ibit .and .u64 x_ 6148914691236517205))) 3689348814741910323))))) 1085102592571150095) 8))) 16))) 32))), .int .i64 (w64 (IntKind.u64.wrap ((IntKind.u64.wrap ((IntKind.u64.wrap ((ibit .and .u64 (IntKind.u64.wrap ((ishr .u64 (IntKind.u64.wrap ((ibit .and .u64 (ishr .u64 (IntKind.u64.wrap ((ibit .and .u64 (ishr .u64 x_ 1) 6148914691236517205) + (ibit .and .u64 x_ 6148914691236517205))) 2) 3689348814741910323) + (ibit .and .u64 (IntKind.u64.wrap ((ibit .and .u64 (ishr .u64 x_ 1) 6148914691236517205) + (ibit .and .u64 x_ 6148914691236517205))) 3689348814741910323))) 4) + (IntKind.u64.wrap ((ibit .and .u64 (ishr .u64 (IntKind.u64.wrap ((ibit .and .u64 (ishr .u64 x_ 1) 6148914691236517205) + (ibit .and .u64 x_ 6148914691236517205))) 2) 3689348814741910323) + (ibit .and .u64 (IntKind.u64.wrap ((ibit .and .u64 (ishr .u64 x_ 1) 6148914691236517205) + (ibit .and .u64 x_ 6148914691236517205))) 3689348814741910323))))) 1085102592571150095) + (ishr .u64 (ibit .and .u64 (IntKind.u64.wrap ((ishr .u64 (IntKind.u64.wrap ((ibit .and .u64 (ishr .u64 (IntKind.u64.wrap ((ibit .and .u64 (ishr .u64 x_ 1) 6148914691236517205) + (ibit .and .u64 x_ 6148914691236517205))) 2) 3689348814741910323) + (ibit .and .u64 (IntKind.u64.wrap ((ibit .and .u64 (ishr .u64 x_ 1) 6148914691236517205) + (ibit .and .u64 x_ 6148914691236517205))) 3689348814741910323))) 4) + (IntKind.u64.wrap ((ibit .and .u64 (ishr .u64 (IntKind.u64.wrap ((ibit .and .u64 (ishr .u64 x_ 1) 6148914691236517205) + (ibit .and .u64 x_ 6148914691236517205))) 2) 3689348814741910323) + (ibit .and .u64 (IntKind.u64.wrap ((ibit .and .u64 (ishr .u64 x_ 1) 6148914691236517205) + (ibit .and .u64 x_ 6148914691236517205))) 3689348814741910323))))) 1085102592571150095) 8))) + (ishr .u64 (IntKind.u64.wrap ((ibit .and .u64 (IntKind.u64.wrap ((ishr .u64 (IntKind.u64.wrap ((ibit .and .u64 (ishr .u64 (IntKind.u64.wrap ((ibit .and .u64 (ishr .u64 x_ 1) 6148914691236517205) + (ibit .and .u64 x_ 6148914691236517205))) 2) 3689348814741910323) + (ibit .and .u64 (IntKind.u64.wrap ((ibit .and .u64 (ishr .u64 x_ 1) 6148914691236517205) + (ibit .and .u64 x_ 6148914691236517205))) 3689348814741910323))) 4) + (IntKind.u64.wrap ((ibit .and .u64 (ishr .u64 (IntKind.u64.wrap ((ibit .and .u64 (ishr .u64 x_ 1) 6148914691236517205) + (ibit .and .u64 x_ 6148914691236517205))) 2) 3689348814741910323) + (ibit .and .u64 (IntKind.u64.wrap ((ibit .and .u64 (ishr .u64 x_ 1) 6148914691236517205) + (ibit .and .u64 x_ 6148914691236517205))) 3689348814741910323))))) 1085102592571150095) + (ishr .u64 (ibit .and .u64 (IntKind.u64.wrap ((ishr .u64 (IntKind.u64.wrap ((ibit .and .u64 (ishr .u64 (IntKind.u64.wrap ((ibit .and .u64 (ishr .u64 x_ 1) 6148914691236517205) + (ibit .and .u64 x_ 6148914691236517205))) 2) 3689348814741910323) + (ibit .and .u64 (IntKind.u64.wrap ((ibit .and .u64 (ishr .u64 x_ 1) 6148914691236517205) + (ibit .and .u64 x_ 6148914691236517205))) 3689348814741910323))) 4) + (IntKind.u64.wrap ((ibit .and .u64 (ishr .u64 (IntKind.u64.wrap ((ibit .and .u64 (ishr .u64 x_ 1) 6148914691236517205) + (ibit .and .u64 x_ 6148914691236517205))) 2) 3689348814741910323) + (ibit .and .u64 (IntKind.u64.wrap ((ibit .and .u64 (ishr .u64 x_ 1) 6148914691236517205) + (ibit .and .u64 x_ 6148914691236517205))) 3689348814741910323))))) 1085102592571150095) 8))) 16))) + (ishr .u64 (IntKind.u64.wrap ((IntKind.u64.wrap ((ibit .and .u64 (IntKind.u64.wrap ((ishr .u64 (IntKind.u64.wrap ((ibit .and .u64 (ishr .u64 (IntKind.u64.wrap ((ibit .and .u64 (ishr .u64 x_ 1) 6148914691236517205) + (ibit .and .u64 x_ 6148914691236517205))) 2) 3689348814741910323) + (ibit .and .u64 (IntKind.u64.wrap ((ibit .and .u64 (ishr .u64 x_ 1) 6148914691236517205) + (ibit .and .u64 x_ 6148914691236517205))) 3689348814741910323))) 4) + (IntKind.u64.wrap ((ibit .and .u64 (ishr .u64 (IntKind.u64.wrap ((ibit .and .u64 (ishr .u64 x_ 1) 6148914691236517205) + (ibit .and .u64 x_ 6148914691236517205))) 2) 3689348814741910323) + (ibit .and .u64 (IntKind.u64.wrap ((ibit .and .u64 (ishr .u64 x_ 1) 6148914691236517205) + (ibit .and .u64 x_ 6148914691236517205))) 3689348814741910323))))) 1085102592571150095) + (ishr .u64 (ibit .and .u64 (IntKind.u64.wrap ((ishr .u64 (IntKind.u64.wrap ((ibit .and .u64 (ishr .u64 (IntKind.u64.wrap ((ibit .and .u64 (ishr .u64 x_ 1) 6148914691236517205) + (ibit .and .u64 x_ 6148914691236517205))) 2) 3689348814741910323) + (ibit .and .u64 (IntKind.u64.wrap ((ibit .and .u64 (ishr .u64 x_ 1) 6148914691236517205) + (ibit .and .u64 x_ 6148914691236517205))) 3689348814741910323))) 4) + (IntKind.u64.wrap ((ibit .and .u64 (ishr .u64 (IntKind.u64.wrap ((ibit .and .u64 (ishr .u64 x_ 1) 6148914691236517205) + (ibit .and .u64 x_ 6148914691236517205))) 2) 3689348814741910323) + (ibit .and .u64 (IntKind.u64.wrap ((ibit .and .u64 (ishr .u64 x_ 1) 6148914691236517205) + (ibit .and .u64 x_ 6148914691236517205))) 3689348814741910323))))) 1085102592571150095) 8))) + (ishr .u64 (IntKind.u64.wrap ((ibit .and .u64 (IntKind.u64.wrap ((ishr .u64 (IntKind.u64.wrap ((ibit .and .u64 (ishr .u64 (IntKind.u64.wrap ((ibit .and .u64 (ishr .u64 x_ 1) 6148914691236517205) + (ibit .and .u64 x_ 6148914691236517205))) 2) 3689348814741910323) + (ibit .and .u64 (IntKind.u64.wrap ((ibit .and .u64 (ishr .u64 x_ 1) 6148914691236517205) + (ibit .and .u64 x_ 6148914691236517205))) 3689348814741910323))) 4) + (IntKind.u64.wrap ((ibit .and .u64 (ishr .u64 (IntKind.u64.wrap ((ibit .and .u64 (ishr .u64 x_ 1) 6148914691236517205) + (ibit .and .u64 x_ 6148914691236517205))) 2) 3689348814741910323) + (ibit .and .u64 (IntKind.u64.wrap ((ibit .and .u64 (ishr .u64 x_ 1) 6148914691236517205) + (ibit .and .u64 x_ 6148914691236517205))) 3689348814741910323))))) 1085102592571150095) + (ishr .u64 (ibit .and .u64 (IntKind.u64.wrap ((ishr .u64 (IntKind.u64.wrap ((ibit .and .u64 (ishr .u64 (IntKind.u64.wrap ((ibit .and .u64 (ishr .u64 x_ 1) 6148914691236517205) + (ibit .and .u64 x_ 6148914691236517205))) 2) 3689348814741910323) + (ibit .and .u64 (IntKind.u64.wrap ((ibit .and .u64 (ishr .u64 x_ 1) 6148914691236517205) + (ibit .and .u64 x_ 6148914691236517205))) 3689348814741910323))) 4) + (IntKind.u64.wrap ((ibit .and .u64 (ishr .u64 (IntKind.u64.wrap ((ibit .and .u64 (ishr .u64 x_ 1) 6148914691236517205) + (ibit .and .u64 x_ 6148914691236517205))) 2) 3689348814741910323) + (ibit .and .u64 (IntKind.u64.wrap ((ibit .and .u64 (ishr .u64 x_ 1) 6148914691236517205) + (ibit .and .u64 x_ 6148914691236517205))) 3689348814741910323))))) 1085102592571150095) 8))) 16))) 32)))), .int .i64 (ibit .and .i64 (w64 (IntKind.u64.wrap ((IntKind.u64.wrap ((IntKind.u64.wrap ((ibit .and .u64 (IntKind.u64.wrap ((ishr .u64 (IntKind.u64.wrap ((ibit .and .u64 (ishr .u64 (IntKind.u64.wrap ((ibit .and .u64 (ishr .u64 x_ 1) 6148914691236517205) + (ibit .and .u64 x_ 6148914691236517205))) 2) 3689348814741910323) + (ibit .and .u64 (IntKind.u64.wrap ((ibit .and .u64 (ishr .u64 x_ 1) 6148914691236517205) + (ibit .and .u64 x_ 6148914691236517205))) 3689348814741910323))) 4) + (IntKind.u64.wrap ((ibit .and .u64 (ishr .u64 (IntKind.u64.wrap ((ibit .and .u64 (ishr .u64 x_ 1) 6148914691236517205) + (ibit .and .u64 x_ 6148914691236517205))) 2) 3689348814741910323) + (ibit .and .u64 (IntKind.u64.wrap ((ibit .and .u64 (ishr .u64 x_ 1) 6148914691236517205) + (ibit .and .u64 x_ 6148914691236517205))) 3689348814741910323))))) 1085102592571150095) + (ishr .u64 (ibit .and .u64 (IntKind.u64.wrap ((ishr .u64 (IntKind.u64.wrap ((ibit .and .u64 (ishr .u64 (IntKind.u64.wrap ((ibit .and .u64 (ishr .u64 x_ 1) 6148914691236517205) + (ibit .and .u64 x_ 6148914691236517205))) 2) 3689348814741910323) + (ibit .and .u64 (IntKind.u64.wrap ((ibit .and .u64 (ishr .u64 x_ 1) 6148914691236517205) + (ibit .and .u64 x_ 6148914691236517205))) 3689348814741910323))) 4) + (IntKind.u64.wrap ((ibit .and .u64 (ishr .u64 (IntKind.u64.wrap ((ibit .and .u64 (ishr .u64 x_ 1) 6148914691236517205) + (ibit .and .u64 x_ 6148914691236517205))) 2) 3689348814741910323) + (ibit .and .u64 (IntKind.u64.wrap ((ibit .and .u64 (ishr .u64 x_ 1) 6148914691236517205) + (ibit .and .u64 x_ 6148914691236517205))) 3689348814741910323))))) 1085102592571150095) 8))) + (ishr .u64 (IntKind.u64.wrap ((ibit .and .u64 (IntKind.u64.wrap ((ishr .u64 (IntKind.u64.wrap ((ibit .and .u64 (ishr .u64 (IntKind.u64.wrap ((ibit .and .u64 (ishr .u64 x_ 1) 6148914691236517205) + (ibit .and .u64 x_ 6148914691236517205))) 2) 3689348814741910323) + (ibit .and .u64 (IntKind.u64.wrap ((ibit .and .u64 (ishr .u64 x_ 1) 6148914691236517205) + (ibit .and .u64 x_ 6148914691236517205))) 3689348814741910323))) 4) + (IntKind.u64.wrap ((ibit .and .u64 (ishr .u64 (IntKind.u64.wrap ((ibit .and .u64 (ishr .u64 x_ 1) 6148914691236517205) + (ibit .and .u64 x_ 6148914691236517205))) 2) 3689348814741910323) + (ibit .and .u64 (IntKind.u64.wrap ((ibit .and .u64 (ishr .u64 x_ 1) 6148914691236517205) + (ibit .and .u64 x_ 6148914691236517205))) 3689348814741910323))))) 1085102592571150095) + (ishr .u64 (ibit .and .u64 (IntKind.u64.wrap ((ishr .u64 (IntKind.u64.wrap ((ibit .and .u64 (ishr .u64 (IntKind.u64.wrap ((ibit .and .u64 (ishr .u64 x_ 1) 6148914691236517205) + (ibit .and .u64 x_ 6148914691236517205))) 2) 3689348814741910323) + (ibit .and .u64 (IntKind.u64.wrap ((ibit .and .u64 (ishr .u64 x_ 1) 6148914691236517205) + (ibit .and .u64 x_ 6148914691236517205))) 3689348814741910323))) 4) + (IntKind.u64.wrap ((ibit .and .u64 (ishr .u64 (IntKind.u64.wrap ((ibit .and .u64 (ishr .u64 x_ 1) 6148914691236517205) + (ibit .and .u64 x_ 6148914691236517205))) 2) 3689348814741910323) + (ibit .and .u64 (IntKind.u64.wrap ((ibit .and .u64 (ishr .u64 x_ 1) 6148914691236517205) + (ibit .and .u64 x_ 6148914691236517205))) 3689348814741910323))))) 1085102592571150095) 8))) 16))) + (ishr .u64 (IntKind.u64.wrap ((IntKind.u64.wrap ((ibit .and .u64 (IntKind.u64.wrap ((ishr .u64 (IntKind.u64.wrap ((ibit .and .u64 (ishr .u64 (IntKind.u64.wrap ((ibit .and .u64 (ishr .u64 x_ 1) 6148914691236517205) + (ibit .and .u64 x_ 6148914691236517205))) 2) 3689348814741910323) + (ibit .and .u64 (IntKind.u64.wrap ((ibit .and .u64 (ishr .u64 x_ 1) 6148914691236517205) + (ibit .and .u64 x_ 6148914691236517205))) 3689348814741910323))) 4) + (IntKind.u64.wrap ((ibit .and .u64 (ishr .u64 (IntKind.u64.wrap ((ibit .and .u64 (ishr .u64 x_ 1) 6148914691236517205) + (ibit .and .u64 x_ 6148914691236517205))) 2) 3689348814741910323) + (ibit .and .u64 (IntKind.u64.wrap ((ibit .and .u64 (ishr .u64 x_ 1) 6148914691236517205) + (ibit .and .u64 x_ 6148914691236517205))) 3689348814741910323))))) 1085102592571150095) + (ishr .u64 (ibit .and .u64 (IntKind.u64.wrap ((ishr .u64 (IntKind.u64.wrap ((ibit .and .u64 (ishr .u64 (IntKind.u64.wrap ((ibit .and .u64 (ishr .u64 x_ 1) 6148914691236517205) + (ibit .and .u64 x_ 6148914691236517205))) 2) 3689348814741910323) + (ibit .and .u64 (IntKind.u64.wrap ((ibit .and .u64 (ishr .u64 x_ 1) 6148914691236517205) + (ibit .and .u64 x_ 6148914691236517205))) 3689348814741910323))) 4) + (IntKind.u64.wrap ((ibit .and .u64 (ishr .u64 (IntKind.u64.wrap ((ibit .and .u64 (ishr .u64 x_ 1) 6148914691236517205) + (ibit .and .u64 x_ 6148914691236517205))) 2) 3689348814741910323) + (ibit .and .u64 (IntKind.u64.wrap ((ibit .and .u64 (ishr .u64 x_ 1) 6148914691236517205) + (ibit .and .u64 x_ 6148914691236517205))) 3689348814741910323))))) 1085102592571150095) 8))) + (ishr .u64 (IntKind.u64.wrap ((ibit .and .u64 (IntKind.u64.wrap ((ishr .u64 (IntKind.u64.wrap ((ibit .and .u64 (ishr .u64 (IntKind.u64.wrap ((ibit .and .u64 (ishr .u64 x_ 1) 6148914691236517205) + (ibit .and .u64 x_ 6148914691236517205))) 2) 3689348814741910323) + (ibit .and .u64 (IntKind.u64.wrap ((ibit .and .u64 (ishr .u64 x_ 1) 6148914691236517205) + (ibit .and .u64 x_ 6148914691236517205))) 3689348814741910323))) 4) + (IntKind.u64.wrap ((ibit .and .u64 (ishr .u64 (IntKind.u64.wrap ((ibit .and .u64 (ishr .u64 x_ 1) 6148914691236517205) + (ibit .and .u64 x_ 6148914691236517205))) 2) 3689348814741910323) + (ibit .and .u64 (IntKind.u64.wrap ((ibit .and .u64 (ishr .u64 x_ 1) 6148914691236517205) + (ibit .and .u64 x_ 6148914691236517205))) 3689348814741910323))))) 1085102592571150095) + (ishr .u64 (ibit .and .u64 (IntKind.u64.wrap ((ishr .u64 (IntKind.u64.wrap ((ibit .and .u64 (ishr .u64 (IntKind.u64.wrap ((ibit .and .u64 (ishr .u64 x_ 1) 6148914691236517205) + (ibit .and .u64 x_ 6148914691236517205))) 2) 3689348814741910323) + (ibit .and .u64 (IntKind.u64.wrap ((ibit .and .u64 (ishr .u64 x_ 1) 6148914691236517205) + (ibit .and .u64 x_ 6148914691236517205))) 3689348814741910323))) 4) + (IntKind.u64.wrap ((ibit .and .u64 (ishr .u64 (IntKind.u64.wrap ((ibit .and .u64 (ishr .u64 x_ 1) 6148914691236517205) + (ibit .and .u64 x_ 6148914691236517205))) 2) 3689348814741910323) + (ibit .and .u64 (IntKind.u64.wrap ((ibit .and .u64 (ishr .u64 x_ 1) 6148914691236517205) + (ibit .and .u64 x_ 6148914691236517205))) 3689348814741910323))))) 1085102592571150095) 8))) 16))) 32)))) 127), .int .i64 (ibit .and .i64 (w64 (IntKind.u64.wrap ((IntKind.u64.wrap ((IntKind.u64.wrap ((ibit .and .u64 (IntKind.u64.wrap ((ishr .u64 (IntKind.u64.wrap ((ibit .and .u64 (ishr .u64 (IntKind.u64.wrap ((ibit .and .u64 (ishr .u64 x_ 1) 6148914691236517205) + (ibit .and .u64 x_ 6148914691236517205))) 2) 3689348814741910323) + (ibit .and .u64 (IntKind.u64.wrap ((ibit .and .u64 (ishr .u64 x_ 1) 6148914691236517205) + (ibit .and .u64 x_ 6148914691236517205))) 3689348814741910323))) 4) + (IntKind.u64.wrap ((ibit .and .u64 (ishr .u64 (IntKind.u64.wrap ((ibit .and .u64 (ishr .u64 x_ 1) 6148914691236517205) + (ibit .and .u64 x_ 6148914691236517205))) 2) 3689348814741910323) + (ibit .and .u64 (IntKind.u64.wrap ((ibit .and .u64 (ishr .u64 x_ 1) 6148914691236517205) + (ibit .and .u64 x_ 6148914691236517205))) 3689348814741910323))))) 1085102592571150095) + (ishr .u64 (ibit .and .u64 (IntKind.u64.wrap ((ishr .u64 (IntKind.u64.wrap ((ibit .and .u64 (ishr .u64 (IntKind.u64.wrap ((ibit .and .u64 (ishr .u64 x_ 1) 6148914691236517205) + (ibit .and .u64 x_ 6148914691236517205))) 2) 3689348814741910323) + (ibit .and .u64 (IntKind.u64.wrap ((ibit .and .u64 (ishr .u64 x_ 1) 6148914691236517205) + (ibit .and .u64 x_ 6148914691236517205))) 3689348814741910323))) 4) + (IntKind.u64.wrap ((ibit .and .u64 (ishr .u64 (IntKind.u64.wrap ((ibit .and .u64 (ishr .u64 x_ 1) 6148914691236517205) + (ibit .and .u64 x_ 6148914691236517205))) 2) 3689348814741910323) + (ibit .and .u64 (IntKind.u64.wrap ((ibit .and .u64 (ishr .u64 x_ 1) 6148914691236517205) + (ibit .and .u64 x_ 6148914691236517205))) 3689348814741910323))))) 1085102592571150095) 8))) + (ishr .u64 (IntKind.u64.wrap ((ibit .and .u64 (IntKind.u64.wrap ((ishr .u64 (IntKind.u64.wrap ((ibit .and .u64 (ishr .u64 (IntKind.u64.wrap ((ibit .and .u64 (ishr .u64 x_ 1) 6148914691236517205) + (ibit .and .u64 x_ 6148914691236517205))) 2) 3689348814741910323) + (ibit .and .u64 (IntKind.u64.wrap ((ibit .and .u64 (ishr .u64 x_ 1) 6148914691236517205) + (ibit .and .u64 x_ 6148914691236517205))) 3689348814741910323))) 4) + (IntKind.u64.wrap ((ibit .and .u64 (ishr .u64 (IntKind.u64.wrap ((ibit .and .u64 (ishr .u64 x_ 1) 6148914691236517205) + (ibit .and .u64 x_ 6148914691236517205))) 2) 3689348814741910323) + (ibit .and .u64 (IntKind.u64.wrap ((ibit .and .u64 (ishr .u64 x_ 1) 6148914691236517205) + (ibit .and .u64 x_ 6148914691236517205))) 3689348814741910323))))) 1085102592571150095) + (ishr .u64 (ibit .and .u64 (IntKind.u64.wrap ((ishr .u64 (IntKind.u64.wrap ((ibit .and .u64 (ishr .u64 (IntKind.u64.wrap ((ibit .and .u64 (ishr .u64 x_ 1) 6148914691236517205) + (ibit .and .u64 x_ 6148914691236517205))) 2) 3689348814741910323) + (ibit .and .u64 (IntKind.u64.wrap ((ibit .and .u64 (ishr .u64 x_ 1) 6148914691236517205) + (ibit .and .u64 x_ 6148914691236517205))) 3689348814741910323))) 4) + (IntKind.u64.wrap ((ibit .and .u64 (ishr .u64 (IntKind.u64.wrap ((ibit .and .u64 (ishr .u64 x_ 1) 6148914691236517205) + (ibit .and .u64 x_ 6148914691236517205))) 2) 3689348814741910323) + (ibit .and .u64 (IntKind.u64.wrap ((ibit .and .u64 (ishr .u64 x_ 1) 6148914691236517205) + (ibit .and .u64 x_ 6148914691236517205))) 3689348814741910323))))) 1085102592571150095) 8))) 16))) + (ishr .u64 (IntKind.u64.wrap ((IntKind.u64.wrap ((ibit .and .u64 (IntKind.u64.wrap ((ishr .u64 (IntKind.u64.wrap ((ibit .and .u64 (ishr .u64 (IntKind.u64.wrap ((ibit .and .u64 (ishr .u64 x_ 1) 6148914691236517205) + (ibit .and .u64 x_ 6148914691236517205))) 2) 3689348814741910323) + (ibit .and .u64 (IntKind.u64.wrap ((ibit .and .u64 (ishr .u64 x_ 1) 6148914691236517205) + (ibit .and .u64 x_ 6148914691236517205))) 3689348814741910323))) 4) + (IntKind.u64.wrap ((ibit .and .u64 (ishr .u64 (IntKind.u64.wrap ((ibit .and .u64 (ishr .u64 x_ 1) 6148914691236517205) + (ibit .and .u64 x_ 6148914691236517205))) 2) 3689348814741910323) + (ibit .and .u64 (IntKind.u64.wrap ((ibit .and .u64 (ishr .u64 x_ 1) 6148914691236517205) + (ibit .and .u64 x_ 6148914691236517205))) 3689348814741910323))))) 1085102592571150095) + (ishr .u64 (ibit .and .u64 (IntKind.u64.wrap ((ishr .u64 (IntKind.u64.wrap ((ibit .and .u64 (ishr .u64 (IntKind.u64.wrap ((ibit .and .u64 (ishr .u64 x_ 1) 6148914691236517205) + (ibit .and .u64 x_ 6148914691236517205))) 2) 3689348814741910323) + (ibit .and .u64 (IntKind.u64.wrap ((ibit .and .u64 (ishr .u64 x_ 1) 6148914691236517205) + (ibit .and .u64 x_ 6148914691236517205))) 3689348814741910323))) 4) + (IntKind.u64.wrap ((ibit .and .u64 (ishr .u64 (IntKind.u64.wrap ((ibit .and .u64 (ishr .u64 x_ 1) 6148914691236517205) + (ibit .and .u64 x_ 6148914691236517205))) 2) 3689348814741910323) + (ibit .and .u64 (IntKind.u64.wrap ((ibit .and .u64 (ishr .u64 x_ 1) 6148914691236517205) + (ibit .and .u64 x_ 6148914691236517205))) 3689348814741910323))))) 1085102592571150095) 8))) + (ishr .u64 (IntKind.u64.wrap ((ibit .and .u64 (IntKind.u64.wrap ((ishr .u64 (IntKind.u64.wrap ((ibit .and .u64 (ishr .u64 (IntKind.u64.wrap ((ibit .and .u64 (ishr .u64 x_ 1) 6148914691236517205) + (ibit .and .u64 x_ 6148914691236517205))) 2) 3689348814741910323) + (ibit .and .u64 (IntKind.u64.wrap ((ibit .and .u64 (ishr .u64 x_ 1) 6148914691236517205) + (ibit .and .u64 x_ 6148914691236517205))) 3689348814741910323))) 4) + (IntKind.u64.wrap ((ibit .and .u64 (ishr .u64 (IntKind.u64.wrap ((ibit .and .u64 (ishr .u64 x_ 1) 6148914691236517205) + (ibit .and .u64 x_ 6148914691236517205))) 2) 3689348814741910323) + (ibit .and .u64 (IntKind.u64.wrap ((ibit .and .u64 (ishr .u64 x_ 1) 6148914691236517205) + (ibit .and .u64 x_ 6148914691236517205))) 3689348814741910323))))) 1085102592571150095) + (ishr .u64 (ibit .and .u64 (IntKind.u64.wrap ((ishr .u64 (IntKind.u64.wrap ((ibit .and .u64 (ishr .u64 (IntKind.u64.wrap ((ibit .and .u64 (ishr .u64 x_ 1) 6148914691236517205) + (ibit .and .u64 x_ 6148914691236517205))) 2) 3689348814741910323) + (ibit .and .u64 (IntKind.u64.wrap ((ibit .and .u64 (ishr .u64 x_ 1) 6148914691236517205) + (ibit .and .u64 x_ 6148914691236517205))) 3689348814741910323))) 4) + (IntKind.u64.wrap ((ibit .and .u64 (ishr .u64 (IntKind.u64.wrap ((ibit .and .u64 (ishr .u64 x_ 1) 6148914691236517205) + (ibit .and .u64 x_ 6148914691236517205))) 2) 3689348814741910323) + (ibit .and .u64 (IntKind.u64.wrap ((ibit .and .u64 (ishr .u64 x_ 1) 6148914691236517205) + (ibit .and .u64 x_ 6148914691236517205))) 3689348814741910323))))) 1085102592571150095) 8))) 16))) 32)))) 127)] 0 _ (by kernel_rfl) (fun w => by kernel_rfl) ?_
    exact QRun_done [2] (by kernel_rfl) (by kernel_rfl)
  have hF := M.ret_some hF
  subst hF
  exact Run_ret1 rfl (ResV_tmp (v := .int .i64 (ibit .and .i64 (w64 (IntKind.u64.wrap ((IntKind.u64.wrap ((IntKind.u64.wrap ((ibit .and .u64 (IntKind.u64.wrap ((ishr .u64 (IntKind.u64.wrap ((ibit .and .u64 (ishr .u64 (IntKind.u64.wrap ((ibit .and .u64 (ishr .u64 x_ 1) 6148914691236517205) + (ibit .and .u64 x_ 6148914691236517205))) 2) 3689348814741910323) + (ibit .and .u64 (IntKind.u64.wrap ((ibit .and .u64 (ishr .u64 x_ 1) 6148914691236517205) + (ibit .and .u64 x_ 6148914691236517205))) 3689348814741910323))) 4) + (IntKind.u64.wrap ((ibit .and .u64 (ishr .u64 (IntKind.u64.wrap ((ibit .and .u64 (ishr .u64 x_ 1) 6148914691236517205) + (ibit .and .u64 x_ 6148914691236517205))) 2) 3689348814741910323) + (ibit .and .u64 (IntKind.u64.wrap ((ibit .and .u64 (ishr .u64 x_ 1) 6148914691236517205) + (ibit .and .u64 x_ 6148914691236517205))) 3689348814741910323))))) 1085102592571150095) + (ishr .u64 (ibit .and .u64 (IntKind.u64.wrap ((ishr .u64 (IntKind.u64.wrap ((ibit .and .u64 (ishr .u64 (IntKind.u64.wrap ((ibit .and .u64 (ishr .u64 x_ 1) 6148914691236517205) + (ibit .and .u64 x_ 6148914691236517205))) 2) 3689348814741910323) + (ibit .and .u64 (IntKind.u64.wrap ((ibit .and .u64 (ishr .u64 x_ 1) 6148914691236517205) + (ibit .and .u64 x_ 6148914691236517205))) 3689348814741910323))) 4) + (IntKind.u64.wrap ((ibit .and .u64 (ishr .u64 (IntKind.u64.wrap ((ibit .and .u64 (ishr .u64 x_ 1) 6148914691236517205) + (ibit .and .u64 x_ 6148914691236517205))) 2) 3689348814741910323) + (ibit .and .u64 (IntKind.u64.wrap ((ibit .and .u64 (ishr .u64 x_ 1) 6148914691236517205) + (ibit .and .u64 x_ 6148914691236517205))) 3689348814741910323))))) 1085102592571150095) 8))) + (ishr .u64 (IntKind.u64.wrap ((ibit .and .u64 (IntKind.u64.wrap ((ishr .u64 (IntKind.u64.wrap ((ibit .and .u64 (ishr .u64 (IntKind.u64.wrap ((ibit .and .u64 (ishr .u64 x_ 1) 6148914691236517205) + (ibit .and .u64 x_ 6148914691236517205))) 2) 3689348814741910323) + (ibit .and .u64 (IntKind.u64.wrap ((ibit .and .u64 (ishr .u64 x_ 1) 6148914691236517205) + (ibit .and .u64 x_ 6148914691236517205))) 3689348814741910323))) 4) + (IntKind.u64.wrap ((ibit .and .u64 (ishr .u64 (IntKind.u64.wrap ((ibit .and .u64 (ishr .u64 x_ 1) 6148914691236517205) + (ibit .and .u64 x_ 6148914691236517205))) 2) 3689348814741910323) + (ibit .and .u64 (IntKind.u64.wrap ((ibit .and .u64 (ishr .u64 x_ 1) 6148914691236517205) + (ibit .and .u64 x_ 6148914691236517205))) 3689348814741910323))))) 1085102592571150095) + (ishr .u64 (ibit .and .u64 (IntKind.u64.wrap ((ishr .u64 (IntKind.u64.wrap ((ibit .and .u64 (ishr .u64 (IntKind.u64.wrap ((ibit .and .u64 (ishr .u64 x_ 1) 6148914691236517205) + (ibit .and .u64 x_ 6148914691236517205))) 2) 3689348814741910323) + (ibit .and .u64 (IntKind.u64.wrap ((ibit .and .u64 (ishr .u64 x_ 1) 6148914691236517205) + (ibit .and .u64 x_ 6148914691236517205))) 3689348814741910323))) 4) + (IntKind.u64.wrap ((ibit .and .u64 (ishr .u64 (IntKind.u64.wrap ((ibit .and .u64 (ishr .u64 x_ 1) 6148914691236517205) + (ibit .and .u64 x_ 6148914691236517205))) 2) 3689348814741910323) + (ibit .and .u64 (IntKind.u64.wrap ((ibit .and .u64 (ishr .u64 x_ 1) 6148914691236517205) + (ibit .and .u64 x_ 6148914691236517205))) 3689348814741910323))))) 1085102592571150095) 8))) 16))) + (ishr .u64 (IntKind.u64.wrap ((IntKind.u64.wrap ((ibit .and .u64 (IntKind.u64.wrap ((ishr .u64 (IntKind.u64.wrap ((ibit .and .u64 (ishr .u64 (IntKind.u64.wrap ((ibit .and .u64 (ishr .u64 x_ 1) 6148914691236517205) + (ibit .and .u64 x_ 6148914691236517205))) 2) 3689348814741910323) + (ibit .and .u64 (IntKind.u64.wrap ((ibit .and .u64 (ishr .u64 x_ 1) 6148914691236517205) + (ibit .and .u64 x_ 6148914691236517205))) 3689348814741910323))) 4) + (IntKind.u64.wrap ((ibit .and .u64 (ishr .u64 (IntKind.u64.wrap ((ibit .and .u64 (ishr .u64 x_ 1) 6148914691236517205) + (ibit .and .u64 x_ 6148914691236517205))) 2) 3689348814741910323) + (ibit .and .u64 (IntKind.u64.wrap ((ibit .and .u64 (ishr .u64 x_ 1) 6148914691236517205) + (ibit .and .u64 x_ 6148914691236517205))) 3689348814741910323))))) 1085102592571150095) + (ishr .u64 (ibit .and .u64 (IntKind.u64.wrap ((ishr .u64 (IntKind.u64.wrap ((ibit .and .u64 (ishr .u64 (IntKind.u64.wrap ((ibit .and .u64 (ishr .u64 x_ 1) 6148914691236517205) + (ibit .and .u64 x_ 6148914691236517205))) 2) 3689348814741910323) + (ibit .and .u64 (IntKind.u64.wrap ((ibit .and .u64 (ishr .u64 x_ 1) 6148914691236517205) + (ibit .and .u64 x_ 6148914691236517205))) 3689348814741910323))) 4) + (IntKind.u64.wrap ((ibit .and .u64 (ishr .u64 (IntKind.u64.wrap ((ibit .and .u64 (ishr .u64 x_ 1) 6148914691236517205) + (ibit .and .u64 x_ 6148914691236517205))) 2) 3689348814741910323) + (ibit .and .u64 (IntKind.u64.wrap ((ibit .and .u64 (ishr .u64 x_ 1) 6148914691236517205) + (ibit .and .u64 x_ 6148914691236517205))) 3689348814741910323))))) 1085102592571150095) 8))) + (ishr .u64 (IntKind.u64.wrap ((ibit .and .u64 (IntKind.u64.wrap ((ishr .u64 (IntKind.u64.wrap ((ibit .and .u64 (ishr .u64 (IntKind.u64.wrap ((ibit .and .u64 (ishr .u64 x_ 1) 6148914691236517205) + (ibit .and .u64 x_ 6148914691236517205))) 2) 3689348814741910323) + (ibit .and .u64 (IntKind.u64.wrap ((ibit .and .u64 (ishr .u64 x_ 1) 6148914691236517205) + (ibit .and .u64 x_ 6148914691236517205))) 3689348814741910323))) 4) + (IntKind.u64.wrap ((ibit .and .u64 (ishr .u64 (IntKind.u64.wrap ((ibit .and .u64 (ishr .u64 x_ 1) 6148914691236517205) + (ibit .and .u64 x_ 6148914691236517205))) 2) 3689348814741910323) + (ibit .and .u64 (IntKind.u64.wrap ((ibit .and .u64 (ishr .u64 x_ 1) 6148914691236517205) + (ibit .and .u64 x_ 6148914691236517205))) 3689348814741910323))))) 1085102592571150095) + (ishr .u64 (ibit .and .u64 (IntKind.u64.wrap ((ishr .u64 (IntKind.u64.wrap ((ibit .and .u64 (ishr .u64 (IntKind.u64.wrap ((ibit .and .u64 (ishr .u64 x_ 1) 6148914691236517205) + (ibit .and .u64 x_ 6148914691236517205))) 2) 3689348814741910323) + (ibit .and .u64 (IntKind.u64.wrap ((ibit .and .u64 (ishr .u64 x_ 1) 6148914691236517205) + (ibit .and .u64 x_ 6148914691236517205))) 3689348814741910323))) 4) + (IntKind.u64.wrap ((ibit .and .u64 (ishr .u64 (IntKind.u64.wrap ((ibit .and .u64 (ishr .u64 x_ 1) 6148914691236517205) + (ibit .and .u64 x_ 6148914691236517205))) 2) 3689348814741910323) + (ibit .and .u64 (IntKind.u64.wrap ((ibit .and .u64 (ishr .u64 x_ 1) 6148914691236517205) + (ibit .and .u64 x_ 6148914691236517205))) 3689348814741910323))))) 1085102592571150095) 8))) 16))) 32)))) 127)) (by kernel_rfl)) ⟨rfl, rfl⟩

set_option maxRecDepth 100000 in
set_option maxHeartbeats 4000000 in
theorem w_math_bits_OnesCount (h : Heap) (x_ : Int) (n : Nat) (r : Int) (hF : math_bits_OnesCount x_ n = some r) :
    Fn Try.prog 171 #[.int .u64 x_] h fun v h' => v = .int .i64 r ∧ h' = h := by
  unfold math_bits_OnesCount at hF
  refine Fn_enter (args := [.int .u64 x_]) Try.func171 rfl (by kernel_rfl) (by kernel_rfl) (fun w0 _ => ?_)
  refine Run_seq ?_
  refine Run_reg 1 (by kernel_rfl) (L' := [(0, .int .u64 x_)]) ?_ ?_
  · refine QRun_b [.int .i64 0] 0 _ (by kernel_rfl) (fun w => by kernel_rfl) ?_
    exact QRun_done [0] (by kernel_rfl) (by kernel_rfl)
  refine Run_seq ?_
  refine Run_condF ?_
  refine Run_skip ?_
  refine Run_seq ?_
  obtain ⟨x1, hx1, hF⟩ := M.bind_some hF
  refine Run_reg 3 (by kernel_rfl) (L' := [(2, .int .i64 x1)]) ?_ ?_
  · refine QRun_b [.int .u64 x_] 0 _ (by kernel_rfl) (fun w => by kernel_rfl) ?_
    refine QRun_y (.int .i64 x1) (by kernel_rfl) (Y_callq (f := 185) (args := #[.int .u64 x_]) (v := .int .i64 x1) (by kernel_rfl) (w_math_bits_OnesCount64 h x_ _ _ hx1)) ?_
    refine QRun_b [.int .i64 x1] 2 _ (by kernel_rfl) (fun w => by kernel_rfl) ?_
    exact QRun_done [2] (by kernel_rfl) (by kernel_rfl)
  have hF := M.ret_some hF
  subst hF
  exact Run_ret1 rfl (ResV_tmp (v := .int .i64 x1) (by kernel_rfl)) ⟨rfl, rfl⟩

set_option maxRecDepth 100000 in
set_option maxHeartbeats 4000000 in
theorem w_impl_permanents (h : Heap) (a_ : List (List Int)) (aa_ : Option Addr) (ca_ : Nat) (ra_ : Rd cd39 h (Lt h) aa_ ca_ a_) (n : Nat) (r : (List TPermanent)) (hF : impl_permanents a_ n = some r) :
    Fn Try.prog 130 #[.slice aa_ a_.length ca_] h fun v h' => ∃ (a0 : Option Addr) (c0 : Nat), v = .slice a0 r.length c0 ∧ Hold h h' [own cd127 a0 r.length c0 r] := by
  unfold impl_permanents at hF
  refine Fn_enter (args := [.slice aa_ a_.length ca_]) Try.func130 rfl (by kernel_rfl) (by kernel_rfl) (fun w0 _ => ?_)
  have H0 := Hold.init h
  refine Run_seq ?_
  refine Run_reg 1 (by kernel_rfl) (L' := [(0, .slice aa_ a_.length ca_)]) ?_ ?_
  · refine QRun_b [.slice none 0 0] 0 _ (by kernel_rfl) (fun w => by kernel_rfl) ?_
    exact QRun_done [0] (by kernel_rfl) (by kernel_rfl)
  refine Run_seq ?_
  refine Run_reg 3 (by kernel_rfl) (L' := [(0, .slice aa_ a_.length ca_), (3, .int .i64 (a_.length : Int))]) ?_ ?_
  · refine QRun_b [.slice aa_ a_.length ca_, .int .i64 (a_.length : Int), .int .i64 (a_.length : Int)] 0 _ (by kernel_rfl) (fun w => by kernel_rfl) ?_
    exact QRun_done [0, 3] (by kernel_rfl) (by kernel_rfl)
  refine Run_seq ?_
  refine Run_ops ?_
  obtain ⟨u1, hz1, hF⟩ := M.bind_some hF
  have hz1 := M.guard_some hz1
  refine Run_b [.int .i64 (a_.length : Int)] 0 _ (by kernel_rfl) (fun w => by kernel_rfl) ?_
  refine Run_y (.int .i64 (ishl .i64 1 (a_.length : Int))) (by kernel_rfl) (Y_shl (k := .i64) (x := 1) (kk := .i64) (y := (a_.length : Int)) (by kernel_rfl) hz1) ?_
  obtain ⟨l1, hl1, hF⟩ := M.bind_some hF
  have hl1 := M.make_some hl1
  refine Run_E (by kernel_rfl) ?_
  refine E_make cd127 (⟨0, 0⟩ : TPermanent) (kl := .i64) (kc := .i64) H0 cd127_ti Try.underlying128 (by decide) cd127_zero (by kernel_rfl) hl1 (fun a1 h1 H1 => ?_)
  refine Run_b [.slice a1 l1.length l1.length] 3 _ (by kernel_rfl) (fun w => by kernel_rfl) ?_
  refine Run_nil (by kernel_rfl) ?_
  refine Run_keep [0, 3, 4] (L' := [(0, .slice aa_ a_.length ca_), (3, .int .i64 (a_.length : Int)), (4, .slice a1 l1.length l1.length)]) (by kernel_rfl) ?_
  refine Run_seq ?_
  obtain ⟨u2, hz2, hF⟩ := M.bind_some hF
  have hz2 := M.guard_some hz2
  refine Run_reg 4 (by kernel_rfl) (L' := [(0, .slice aa_ a_.length ca_), (4, .slice a1 l1.length l1.length), (5, .int .i64 (w64 ((ishl .i64 1 (a_.length : Int)) - 1)))]) ?_ ?_
  · refine QRun_b [.int .i64 (a_.length : Int)] 0 _ (by kernel_rfl) (fun w => by kernel_rfl) ?_
    refine QRun_y (.int .i64 (ishl .i64 1 (a_.length : Int))) (by kernel_rfl) (Y_shl (k := .i64) (x := 1) (kk := .i64) (y := (a_.length : Int)) (by kernel_rfl) hz2) ?_
    refine QRun_b [.int .i64 (w64 ((ishl .i64 1 (a_.length : Int)) - 1)), .int .i64 (w64 ((ishl .i64 1 (a_.length : Int)) - 1))] 2 _ (by kernel_rfl) (fun w => by kernel_rfl) ?_
    exact QRun_done [0, 4, 5] (by kernel_rfl) (by kernel_rfl)
  refine Run_seq ?_
  refine Run_seq ?_
  refine Run_reg 2 (by kernel_rfl) (L' := [(0, .slice aa_ a_.length ca_), (4, .slice a1 l1.length l1.length), (5, .int .i64 (w64 ((ishl .i64 1 (a_.length : Int)) - 1))), (6, .int .i64 (w64 ((ishl .i64 1 (a_.length : Int)) - 1)))]) ?_ ?_
  · refine QRun_b [.int .i64 (w64 ((ishl .i64 1 (a_.length : Int)) - 1)), .int .i64 (w64 ((ishl .i64 1 (a_.length : Int)) - 1))] 0 _ (by kernel_rfl) (fun w => by kernel_rfl) ?_
    exact QRun_done [0, 4, 5, 6] (by kernel_rfl) (by kernel_rfl)
  obtain ⟨x1, gx1, hF⟩ := M.bind_some hF
  refine Run_join (fun L' h' => L' = [(4, .slice a1 l1.length l1.length)] ∧ Hold h h' [own cd127 a1 l1.length l1.length x1.1]) ?_ ?_
  · rintro _ h3 ⟨rfl, H3⟩
    refine Run_seq ?_
    refine Run_reg 2 (by kernel_rfl) (L' := [(2, .slice a1 l1.length l1.length)]) ?_ ?_
    · refine QRun_b [.slice a1 l1.length l1.length, .slice a1 l1.length l1.length] 0 _ (by kernel_rfl) (fun w => by kernel_rfl) ?_
      exact QRun_done [2] (by kernel_rfl) (by kernel_rfl)
    have hF := M.ret_some hF
    subst hF
    have H25 := H3.norm
    exact Run_ret1 rfl (ResV_tmp (v := .slice a1 l1.length l1.length) (by kernel_rfl)) ⟨a1, l1.length, (by simp only [(H3.len 0 rfl)]), H25⟩
  · refine Run_block ?_
    refine Run_keep [0, 4, 5, 6] (L' := [(0, .slice aa_ a_.length ca_), (4, .slice a1 l1.length l1.length), (5, .int .i64 (w64 ((ishl .i64 1 (a_.length : Int)) - 1))), (6, .int .i64 (w64 ((ishl .i64 1 (a_.length : Int)) - 1)))]) (by kernel_rfl) ?_
    refine Run_loop (fun m L' h' => ∃ (s1 : (List TPermanent) × Int), M.loopN _ n m s1 = some x1 ∧ L' = [(0, .slice aa_ a_.length ca_), (4, .slice a1 l1.length l1.length), (5, .int .i64 (w64 ((ishl .i64 1 (a_.length : Int)) - 1))), (6, .int .i64 s1.2)] ∧ Hold h h' [own cd127 a1 l1.length l1.length s1.1]) n ⟨(l1, (w64 ((ishl .i64 1 (a_.length : Int)) - 1))), gx1, rfl, H1⟩ ?_
    rintro my1 _ h2 ⟨s1, gx1, rfl, H2⟩
    obtain ⟨my1, y1, rfl, hB1, hgoy1, houty1⟩ := M.loop_some gx1
    refine Run_seq ?_
    refine Run_seq ?_
    refine Run_reg 2 (by kernel_rfl) (L' := [(0, .slice aa_ a_.length ca_), (4, .slice a1 l1.length l1.length), (5, .int .i64 (w64 ((ishl .i64 1 (a_.length : Int)) - 1))), (6, .int .i64 s1.2), (23, .bool (decide (0 ≤ s1.2)))]) ?_ ?_
    · refine QRun_b [.int .i64 s1.2, .bool (decide (0 ≤ s1.2))] 0 _ (by kernel_rfl) (fun w => by kernel_rfl) ?_
      exact QRun_done [0, 4, 5, 6, 23] (by kernel_rfl) (by kernel_rfl)
    refine Run_cond (b := decide (0 ≤ s1.2)) (by kernel_rfl) (fun hb1 => ?_) (fun hb1 => ?_)
    · have hB1 := (M.ite_some hB1).1 hb1
      refine Run_skip ?_
      refine Run_seq ?_
      obtain ⟨s2, gs2, hB1⟩ := M.bind_some hB1
      refine Run_join (fun L' h' => L' = [(0, .slice aa_ a_.length ca_), (4, .slice a1 l1.length l1.length), (5, .int .i64 (w64 ((ishl .i64 1 (a_.length : Int)) - 1))), (6, .int .i64 s1.2)] ∧ Hold h h' [own cd127 a1 l1.length l1.length s2]) ?_ ?_
      · rintro _ h16 ⟨rfl, H23⟩
        refine Run_reg 3 (by kernel_rfl) (L' := [(0, .slice aa_ a_.length ca_), (4, .slice a1 l1.length l1.length), (5, .int .i64 (w64 ((ishl .i64 1 (a_.length : Int)) - 1))), (6, .int .i64 (w64 (s1.2 - 1)))]) ?_ ?_
        · refine QRun_b [.int .i64 s1.2, .int .i64 (w64 (s1.2 - 1)), .int .i64 (w64 (s1.2 - 1))] 0 _ (by kernel_rfl) (fun w => by kernel_rfl) ?_
          exact QRun_done [0, 4, 5, 6] (by kernel_rfl) (by kernel_rfl)
        have hB1 := M.ret_some hB1
        have gx1 := hgoy1 _ hB1.symm
        exact Run_again [0, 4, 5, 6] (by kernel_rfl) my1 (Nat.lt_succ_self _) ⟨(s2, (w64 (s1.2 - 1))), gx1, rfl, H23⟩
      · refine Run_block ?_
        refine Run_seq ?_
        refine Run_seq ?_
        refine Run_reg 3 (by kernel_rfl) (L' := [(0, .slice aa_ a_.length ca_), (4, .slice a1 l1.length l1.length), (5, .int .i64 (w64 ((ishl .i64 1 (a_.length : Int)) - 1))), (6, .int .i64 s1.2), (28, .bool (s1.2 == (w64 ((ishl .i64 1 (a_.length : Int)) - 1))))]) ?_ ?_
        · refine QRun_b [.int .i64 s1.2, .int .i64 (w64 ((ishl .i64 1 (a_.length : Int)) - 1)), .bool (s1.2 == (w64 ((ishl .i64 1 (a_.length : Int)) - 1)))] 0 _ (by kernel_rfl) (fun w => by kernel_rfl) ?_
          exact QRun_done [0, 4, 5, 6, 28] (by kernel_rfl) (by kernel_rfl)
        refine Run_cond (b := s1.2 == (w64 ((ishl .i64 1 (a_.length : Int)) - 1))) (by kernel_rfl) (fun hb2 => ?_) (fun hb2 => ?_)
        · have gs2 := (M.ite_some gs2).1 hb2
          refine Run_seq ?_
          refine Run_ops ?_
          obtain ⟨x2, hx1, gs2⟩ := M.bind_some gs2
          obtain ⟨hx1l, hx1u, hx1⟩ := M.idx_some hx1
          refine Run_b [.slice a1 l1.length l1.length, .int .i64 s1.2, .agg #[.int .i64 0, .int .i64 1]] 0 _ (by kernel_rfl) (fun w => by kernel_rfl) ?_
          refine Run_y (.pointer (some (adr a1 (s1.2.toNat * 2)))) (by kernel_rfl) (Y_idx (t := 128) (e := 127) (sz := 2) (a := a1) (n := l1.length) (cap := l1.length) (kk := .i64) (i := s1.2) (by kernel_rfl) Try.underlying128 (by kernel_rfl) ((H2.rd 0 rfl).cell hx1).1 hx1l (by rw [← (H2.len 0 rfl)]; exact hx1u)) ?_
          obtain ⟨l2, hu1, gs2⟩ := M.bind_some gs2
          have hu1 := M.upd_some hu1
          refine Run_E (by kernel_rfl) ?_
          refine E_put (C := cd127) (t := 127) (sz := 2) (j := s1.2) (x := ⟨0, 1⟩) (v := .agg #[.int .i64 0, .int .i64 1]) H2 cd127_flat (by kernel_rfl) rfl (cd127_own _) (by kernel_rfl) hu1 (fun h4 H4 => ?_)
          refine Run_nil (by kernel_rfl) ?_
          refine Run_keep [0, 4, 5, 6] (L' := [(0, .slice aa_ a_.length ca_), (4, .slice a1 l1.length l1.length), (5, .int .i64 (w64 ((ishl .i64 1 (a_.length : Int)) - 1))), (6, .int .i64 s1.2)]) (by kernel_rfl) ?_
          refine Run_exit (k' := _) rfl ?_
          have gs2 := M.ret_some gs2
          subst gs2
          exact Run_fall [0, 4, 5, 6] (by kernel_rfl) ⟨rfl, H4⟩
        · have gs2 := (M.ite_some gs2).2 hb2
          refine Run_skip ?_
          refine Run_seq ?_
          obtain ⟨x3, hx2, gs2⟩ := M.bind_some gs2
          refine Run_reg 4 (by kernel_rfl) (L' := [(0, .slice aa_ a_.length ca_), (4, .slice a1 l1.length l1.length), (5, .int .i64 (w64 ((ishl .i64 1 (a_.length : Int)) - 1))), (6, .int .i64 s1.2), (7, .int .i64 x3)]) ?_ ?_
          · refine QRun_b [.int .i64 s1.2, .int .u64 (IntKind.u64.wrap (s1.2))] 0 _ (by kernel_rfl) (fun w => by kernel_rfl) ?_
            refine QRun_y (.int .i64 x3) (by kernel_rfl) (Y_callq (f := 171) (args := #[.int .u64 (IntKind.u64.wrap (s1.2))]) (v := .int .i64 x3) (by kernel_rfl) (w_math_bits_OnesCount h2 (IntKind.u64.wrap (s1.2)) _ _ hx2)) ?_
            refine QRun_b [.int .i64 x3] 3 _ (by kernel_rfl) (fun w => by kernel_rfl) ?_
            exact QRun_done [0, 4, 5, 6, 7] (by kernel_rfl) (by kernel_rfl)
          refine Run_seq ?_
          refine Run_ops ?_
          refine Run_b [.agg #[.int .i64 (-1000000000000000), .int .i64 0]] 0 _ (by kernel_rfl) (fun w => by kernel_rfl) ?_
          refine Run_E (by kernel_rfl) ?_
          refine E_box (ty := 127) (cs := [.int .i64 0, .int .i64 0]) H2 (fun w => by kernel_rfl) (fun b1 h5 H5 => ?_)
          refine Run_E (by kernel_rfl) ?_
          refine E_bput (t := 127) (off := 0) (us := [.int .i64 (-1000000000000000), .int .i64 0]) (v := .agg #[.int .i64 (-1000000000000000), .int .i64 0]) H5 (by kernel_rfl) (by kernel_rfl) rfl (by kernel_rfl) rfl (fun h6 H6 => ?_)
          refine Run_nil (by kernel_rfl) ?_
          refine Run_keep [0, 4, 5, 6, 7, 8] (L' := [(0, .slice aa_ a_.length ca_), (4, .slice a1 l1.length l1.length), (5, .int .i64 (w64 ((ishl .i64 1 (a_.length : Int)) - 1))), (6, .int .i64 s1.2), (7, .int .i64 x3), (8, .pointer (some ⟨b1, 0, none⟩))]) (by kernel_rfl) ?_
          refine Run_seq ?_
          refine Run_seq ?_
          obtain ⟨x4, hx3, gs2⟩ := M.bind_some gs2
          obtain ⟨hx3l, hx3u, hx3⟩ := M.idx_some hx3
          obtain ⟨a2, c1, hc1, r1⟩ := ra_.row hx3
          refine Run_reg 6 (by kernel_rfl) (L' := [(0, .slice aa_ a_.length ca_), (4, .slice a1 l1.length l1.length), (5, .int .i64 (w64 ((ishl .i64 1 (a_.length : Int)) - 1))), (6, .int .i64 s1.2), (8, .pointer (some ⟨b1, 0, none⟩)), (40, .slice a2 x4.length c1), (41, .int .i64 (x4.length : Int)), (42, .int .i64 0)]) ?_ ?_
          · refine QRun_b [.slice aa_ a_.length ca_, .int .i64 x3] 0 _ (by kernel_rfl) (fun w => by kernel_rfl) ?_
            refine QRun_y (.pointer (some (adr aa_ (x3.toNat * 1)))) (by kernel_rfl) (Y_idx (t := 37) (e := 39) (sz := 1) (a := aa_) (n := a_.length) (cap := ca_) (kk := .i64) (i := x3) (by kernel_rfl) Try.underlying37 (by kernel_rfl) ((ra_.at H6.ext).cell hx3).1 hx3l hx3u) ?_
            refine QRun_y (.slice a2 x4.length c1) (by kernel_rfl) (Y_load1 (t := 39) (p := adr aa_ (x3.toNat * 1)) (v := .slice a2 x4.length c1) (by kernel_rfl) (fun w => by kernel_rfl) (cell_at H6.ext hc1)) ?_
            refine QRun_b [.int .i64 (x4.length : Int), .int .i64 0] 4 _ (by kernel_rfl) (fun w => by kernel_rfl) ?_
            exact QRun_done [0, 4, 5, 6, 8, 40, 41, 42] (by kernel_rfl) (by kernel_rfl)
          obtain ⟨x5, gx5, gs2⟩ := M.bind_some gs2
          obtain ⟨hloy2, hhiy2, gx5⟩ := M.for_start gx5
          refine Run_join (fun L' h' => L' = [(0, .slice aa_ a_.length ca_), (4, .slice a1 l1.length l1.length), (5, .int .i64 (w64 ((ishl .i64 1 (a_.length : Int)) - 1))), (6, .int .i64 s1.2), (8, .pointer (some ⟨b1, 0, none⟩))] ∧ Hold h h' [own cd127 a1 l1.length l1.length s1.1, box b1 127 [.int .i64 x5.weight, .int .i64 x5.count]]) ?_ ?_
          · rintro _ h8 ⟨rfl, H8⟩
            refine Run_ops ?_
            obtain ⟨x11, hx6, gs2⟩ := M.bind_some gs2
            obtain ⟨hx6l, hx6u, hx6⟩ := M.idx_some hx6
            refine Run_b [.slice a1 l1.length l1.length, .int .i64 s1.2] 0 _ (by kernel_rfl) (fun w => by kernel_rfl) ?_
            refine Run_y (.agg #[.int .i64 x5.weight, .int .i64 x5.count]) (by kernel_rfl) (Y_loadA (t := 127) (n := 2) (p := ⟨b1, 0, none⟩) (cs := [.int .i64 x5.weight, .int .i64 x5.count]) (by kernel_rfl) (fun w => by kernel_rfl) (by kernel_rfl) rfl (H8.cells (n := 2) (off := 0) 1 rfl rfl)) ?_
            refine Run_y (.pointer (some (adr a1 (s1.2.toNat * 2)))) (by kernel_rfl) (Y_idx (t := 128) (e := 127) (sz := 2) (a := a1) (n := l1.length) (cap := l1.length) (kk := .i64) (i := s1.2) (by kernel_rfl) Try.underlying128 (by kernel_rfl) ((H8.rd 0 rfl).cell hx6).1 hx6l (by rw [← (H8.len 0 rfl)]; exact hx6u)) ?_
            obtain ⟨l3, hu2, gs2⟩ := M.bind_some gs2
            have hu2 := M.upd_some hu2
            refine Run_E (by kernel_rfl) ?_
            refine E_put (C := cd127) (t := 127) (sz := 2) (j := s1.2) (x := x5) (v := .agg #[.int .i64 x5.weight, .int .i64 x5.count]) H8 cd127_flat (by kernel_rfl) rfl (cd127_own _) (by kernel_rfl) hu2 (fun h15 H21 => ?_)
            refine Run_nil (by kernel_rfl) ?_
            refine Run_keep [0, 4, 5, 6] (L' := [(0, .slice aa_ a_.length ca_), (4, .slice a1 l1.length l1.length), (5, .int .i64 (w64 ((ishl .i64 1 (a_.length : Int)) - 1))), (6, .int .i64 s1.2)]) (by kernel_rfl) ?_
            refine Run_blk ?_
            have H24 : Hold h h15 [own cd127 a1 l1.length l1.length l3] := H21.pick [0] (by kernel_rfl)
            have gs2 := M.ret_some gs2
            subst gs2
            exact Run_fall [0, 4, 5, 6] (by kernel_rfl) ⟨rfl, H24⟩
          · refine Run_block ?_
            have H22 : Hold h h6 [own cd127 a1 l1.length l1.length s1.1, box b1 127 [.int .i64 (-1000000000000000), .int .i64 0]] := H6.pick [1, 0] (by kernel_rfl)
            refine Run_keep [0, 4, 5, 6, 8, 40, 41, 42] (L' := [(0, .slice aa_ a_.length ca_), (4, .slice a1 l1.length l1.length), (5, .int .i64 (w64 ((ishl .i64 1 (a_.length : Int)) - 1))), (6, .int .i64 s1.2), (8, .pointer (some ⟨b1, 0, none⟩)), (40, .slice a2 x4.length c1), (41, .int .i64 (x4.length : Int)), (42, .int .i64 0)]) (by kernel_rfl) ?_
            refine Run_loop (fun m L' h' => ∃ (i1 : Int) (s3 : TPermanent), 0 ≤ i1 ∧ M.forN (x4.length : Int) _ _ n m i1 s3 = some x5 ∧ L' = [(0, .slice aa_ a_.length ca_), (4, .slice a1 l1.length l1.length), (5, .int .i64 (w64 ((ishl .i64 1 (a_.length : Int)) - 1))), (6, .int .i64 s1.2), (8, .pointer (some ⟨b1, 0, none⟩)), (40, .slice a2 x4.length c1), (41, .int .i64 (x4.length : Int)), (42, .int .i64 i1)] ∧ Hold h h' [own cd127 a1 l1.length l1.length s1.1, box b1 127 [.int .i64 s3.weight, .int .i64 s3.count]]) ((x4.length : Int) - 0 : Int).toNat ⟨0, (⟨(-1000000000000000), 0⟩ : TPermanent), Int.le_refl _, gx5, rfl, H22⟩ ?_
            rintro my2 _ h7 ⟨i1, s3, hloy2', gx5, rfl, H7⟩
            refine Run_seq ?_
            refine Run_reg 1 (by kernel_rfl) (L' := [(0, .slice aa_ a_.length ca_), (4, .slice a1 l1.length l1.length), (5, .int .i64 (w64 ((ishl .i64 1 (a_.length : Int)) - 1))), (6, .int .i64 s1.2), (8, .pointer (some ⟨b1, 0, none⟩)), (40, .slice a2 x4.length c1), (41, .int .i64 (x4.length : Int)), (42, .int .i64 i1), (43, .bool (decide (i1 < (x4.length : Int))))]) ?_ ?_
            · refine QRun_b [.bool (decide (i1 < (x4.length : Int)))] 0 _ (by kernel_rfl) (fun w => by kernel_rfl) ?_
              exact QRun_done [0, 4, 5, 6, 8, 40, 41, 42, 43] (by kernel_rfl) (by kernel_rfl)
            refine Run_seq ?_
            refine Run_cond (b := decide (i1 < (x4.length : Int))) (by kernel_rfl) (fun hb3 => ?_) (fun hb3 => ?_)
            · obtain ⟨my2, y2, rfl, hB2, hgoy2, houty2⟩ := M.for_go gx5 hb3
              have hlty2 := of_decide_eq_true hb3
              refine Run_skip ?_
              refine Run_seq ?_
              obtain ⟨s4, gs4, hB2⟩ := M.bind_some hB2
              refine Run_join (fun L' h' => L' = [(0, .slice aa_ a_.length ca_), (4, .slice a1 l1.length l1.length), (5, .int .i64 (w64 ((ishl .i64 1 (a_.length : Int)) - 1))), (6, .int .i64 s1.2), (8, .pointer (some ⟨b1, 0, none⟩)), (40, .slice a2 x4.length c1), (41, .int .i64 (x4.length : Int)), (42, .int .i64 i1)] ∧ Hold h h' [own cd127 a1 l1.length l1.length s1.1, box b1 127 [.int .i64 s4.weight, .int .i64 s4.count]]) ?_ ?_
              · rintro _ h14 ⟨rfl, H19⟩
                refine Run_reg 2 (by kernel_rfl) (L' := [(0, .slice aa_ a_.length ca_), (4, .slice a1 l1.length l1.length), (5, .int .i64 (w64 ((ishl .i64 1 (a_.length : Int)) - 1))), (6, .int .i64 s1.2), (8, .pointer (some ⟨b1, 0, none⟩)), (40, .slice a2 x4.length c1), (41, .int .i64 (x4.length : Int)), (42, .int .i64 (i1 + 1))]) ?_ ?_
                · refine QRun_y (.int .i64 (i1 + 1)) (by kernel_rfl) (Y_eq (v := .int .i64 (w64 (i1 + 1))) (Y_pure (fun w => by kernel_rfl)) (by rw [w64_eq _ (by omega)])) ?_
                  refine QRun_b [.int .i64 (i1 + 1)] 1 _ (by kernel_rfl) (fun w => by kernel_rfl) ?_
                  exact QRun_done [0, 4, 5, 6, 8, 40, 41, 42] (by kernel_rfl) (by kernel_rfl)
                have hB2 := M.ret_some hB2
                have gx5 := hgoy2 _ hB2.symm
                exact Run_again [0, 4, 5, 6, 8, 40, 41, 42] (by kernel_rfl) my2 (Nat.lt_succ_self _) ⟨i1 + 1, s4, by omega, gx5, rfl, H19⟩
              · refine Run_block ?_
                refine Run_seq ?_
                obtain ⟨x6, hx4, gs4⟩ := M.bind_some gs4
                obtain ⟨hx4l, hx4u, hx4⟩ := M.idx_some hx4
                refine Run_reg 5 (by kernel_rfl) (L' := [(0, .slice aa_ a_.length ca_), (4, .slice a1 l1.length l1.length), (5, .int .i64 (w64 ((ishl .i64 1 (a_.length : Int)) - 1))), (6, .int .i64 s1.2), (8, .pointer (some ⟨b1, 0, none⟩)), (9, .int .i64 i1), (10, .int .i64 x6), (40, .slice a2 x4.length c1), (41, .int .i64 (x4.length : Int)), (42, .int .i64 i1)]) ?_ ?_
                · refine QRun_b [.int .i64 i1] 0 _ (by kernel_rfl) (fun w => by kernel_rfl) ?_
                  refine QRun_y (.pointer (some (adr a2 (i1.toNat * 1)))) (by kernel_rfl) (Y_idx (t := 39) (e := 2) (sz := 1) (a := a2) (n := x4.length) (cap := c1) (kk := .i64) (i := i1) (by kernel_rfl) Try.underlying39 (by kernel_rfl) ((r1.at H7.ext).cell hx4).1 hx4l hx4u) ?_
                  refine QRun_y (.int .i64 x6) (by kernel_rfl) (Y_load1 (t := 2) (p := adr a2 (i1.toNat * 1)) (v := .int .i64 x6) (by kernel_rfl) (fun w => by kernel_rfl) (cd2_cell (r1.at H7.ext) hx4)) ?_
                  refine QRun_b [.int .i64 i1, .int .i64 x6] 3 _ (by kernel_rfl) (fun w => by kernel_rfl) ?_
                  exact QRun_done [0, 4, 5, 6, 8, 9, 10, 40, 41, 42] (by kernel_rfl) (by kernel_rfl)
                refine Run_seq ?_
                refine Run_ops ?_
                obtain ⟨u3, hz3, gs4⟩ := M.bind_some gs4
                have hz3 := M.guard_some hz3
                obtain ⟨x7, hx5, gs4⟩ := M.bind_some gs4
                obtain ⟨hx5l, hx5u, hx5⟩ := M.idx_some hx5
                refine Run_b [.slice a1 l1.length l1.length, .int .i64 s1.2, .int .i64 i1] 0 _ (by kernel_rfl) (fun w => by kernel_rfl) ?_
                refine Run_y (.int .i64 (ishl .i64 1 i1)) (by kernel_rfl) (Y_shl (k := .i64) (x := 1) (kk := .i64) (y := i1) (by kernel_rfl) hz3) ?_
                refine Run_b [.int .i64 (ibit .or .i64 s1.2 (ishl .i64 1 i1))] 4 _ (by kernel_rfl) (fun w => by kernel_rfl) ?_
                refine Run_y (.pointer (some (adr a1 ((ibit .or .i64 s1.2 (ishl .i64 1 i1)).toNat * 2)))) (by kernel_rfl) (Y_idx (t := 128) (e := 127) (sz := 2) (a := a1) (n := l1.length) (cap := l1.length) (kk := .i64) (i := ibit .or .i64 s1.2 (ishl .i64 1 i1)) (by kernel_rfl) Try.underlying128 (by kernel_rfl) ((H7.rd 0 rfl).cell hx5).1 hx5l (by rw [← (H7.len 0 rfl)]; exact hx5u)) ?_
                refine Run_y (.agg #[.int .i64 x7.weight, .int .i64 x7.count]) (by kernel_rfl) (Y_loadA (t := 127) (n := 2) (p := adr a1 ((ibit .or .i64 s1.2 (ishl .i64 1 i1)).toNat * 2)) (cs := [.int .i64 x7.weight, .int .i64 x7.count]) (by kernel_rfl) (fun w => by kernel_rfl) (by kernel_rfl) rfl (cd127_elem (H7.rd 0 rfl) hx5)) ?_
                refine Run_E (by kernel_rfl) ?_
                refine E_box (ty := 127) (cs := [.int .i64 0, .int .i64 0]) H7 (fun w => by kernel_rfl) (fun b2 h9 H9 => ?_)
                refine Run_E (by kernel_rfl) ?_
                refine E_bput (t := 127) (off := 0) (us := [.int .i64 x7.weight, .int .i64 x7.count]) (v := .agg #[.int .i64 x7.weight, .int .i64 x7.count]) H9 (by kernel_rfl) (by kernel_rfl) rfl (by kernel_rfl) rfl (fun h10 H10 => ?_)
                refine Run_nil (by kernel_rfl) ?_
                refine Run_keep [0, 4, 5, 6, 8, 9, 10, 11, 40, 41, 42] (L' := [(0, .slice aa_ a_.length ca_), (4, .slice a1 l1.length l1.length), (5, .int .i64 (w64 ((ishl .i64 1 (a_.length : Int)) - 1))), (6, .int .i64 s1.2), (8, .pointer (some ⟨b1, 0, none⟩)), (9, .int .i64 i1), (10, .int .i64 x6), (11, .pointer (some ⟨b2, 0, none⟩)), (40, .slice a2 x4.length c1), (41, .int .i64 (x4.length : Int)), (42, .int .i64 i1)]) (by kernel_rfl) ?_
                refine Run_seq ?_
                refine Run_seq ?_
                obtain ⟨u4, hz4, gs4⟩ := M.bind_some gs4
                have hz4 := M.guard_some hz4
                refine Run_reg 14 (by kernel_rfl) (L' := [(0, .slice aa_ a_.length ca_), (4, .slice a1 l1.length l1.length), (5, .int .i64 (w64 ((ishl .i64 1 (a_.length : Int)) - 1))), (6, .int .i64 s1.2), (8, .pointer (some ⟨b1, 0, none⟩)), (10, .int .i64 x6), (11, .pointer (some ⟨b2, 0, none⟩)), (40, .slice a2 x4.length c1), (41, .int .i64 (x4.length : Int)), (42, .int .i64 i1), (67, .bool ((((ibit .and .i64 (ishr .i64 s1.2 i1) 1) == 1) || (x6 == (-1000000000000000))) || (x7.weight == (-1000000000000000))))]) ?_ ?_
                · refine QRun_b [.int .i64 s1.2, .int .i64 i1] 0 _ (by kernel_rfl) (fun w => by kernel_rfl) ?_
                  refine QRun_y (.int .i64 (ishr .i64 s1.2 i1)) (by kernel_rfl) (Y_shr (k := .i64) (x := s1.2) (kk := .i64) (y := i1) (by kernel_rfl) hz4) ?_
                  refine QRun_b [.int .i64 (ibit .and .i64 (ishr .i64 s1.2 i1) 1), .bool ((ibit .and .i64 (ishr .i64 s1.2 i1) 1) == 1)] 3 _ (by kernel_rfl) (fun w => by kernel_rfl) ?_
                  refine QRun_seq 9 [(0, .slice aa_ a_.length ca_), (4, .slice a1 l1.length l1.length), (5, .int .i64 (w64 ((ishl .i64 1 (a_.length : Int)) - 1))), (6, .int .i64 s1.2), (8, .pointer (some ⟨b1, 0, none⟩)), (10, .int .i64 x6), (11, .pointer (some ⟨b2, 0, none⟩)), (40, .slice a2 x4.length c1), (41, .int .i64 (x4.length : Int)), (42, .int .i64 i1), (62, .bool (((ibit .and .i64 (ishr .i64 s1.2 i1) 1) == 1) || (x6 == (-1000000000000000))))] ?_ ?_
                  · rcases Bool.eq_false_or_eq_true ((ibit .and .i64 (ishr .i64 s1.2 i1) 1) == 1) with hb4 | hb4
                    · refine QRun_bool ((ibit .and .i64 (ishr .i64 s1.2 i1) 1) == 1) true (by kernel_rfl) (fun w => by kernel_rfl) hb4 ?_
                      refine QRun_n (by kernel_rfl) ?_
                      refine QRun_n (by kernel_rfl) ?_
                      refine QRun_bool true (((ibit .and .i64 (ishr .i64 s1.2 i1) 1) == 1) || (x6 == (-1000000000000000))) (by kernel_rfl) (fun w => by kernel_rfl) (by rw [hb4]; rfl) ?_
                      exact QRun_done [0, 4, 5, 6, 8, 10, 11, 40, 41, 42, 62] (by kernel_rfl) (by kernel_rfl)
                    · refine QRun_bool ((ibit .and .i64 (ishr .i64 s1.2 i1) 1) == 1) false (by kernel_rfl) (fun w => by kernel_rfl) hb4 ?_
                      refine QRun_b [.int .i64 x6, .bool (x6 == (-1000000000000000))] 6 _ (by kernel_rfl) (fun w => by kernel_rfl) ?_
                      refine QRun_bool (x6 == (-1000000000000000)) (((ibit .and .i64 (ishr .i64 s1.2 i1) 1) == 1) || (x6 == (-1000000000000000))) (by kernel_rfl) (fun w => by kernel_rfl) (by rw [hb4]; rfl) ?_
                      exact QRun_done [0, 4, 5, 6, 8, 10, 11, 40, 41, 42, 62] (by kernel_rfl) (by kernel_rfl)
                  refine QRun_seq 14 [(0, .slice aa_ a_.length ca_), (4, .slice a1 l1.length l1.length), (5, .int .i64 (w64 ((ishl .i64 1 (a_.length : Int)) - 1))), (6, .int .i64 s1.2), (8, .pointer (some ⟨b1, 0, none⟩)), (10, .int .i64 x6), (11, .pointer (some ⟨b2, 0, none⟩)), (40, .slice a2 x4.length c1), (41, .int .i64 (x4.length : Int)), (42, .int .i64 i1), (67, .bool ((((ibit .and .i64 (ishr .i64 s1.2 i1) 1) == 1) || (x6 == (-1000000000000000))) || (x7.weight == (-1000000000000000))))] ?_ ?_
                  · rcases Bool.eq_false_or_eq_true (((ibit .and .i64 (ishr .i64 s1.2 i1) 1) == 1) || (x6 == (-1000000000000000))) with hb5 | hb5
                    · refine QRun_bool (((ibit .and .i64 (ishr .i64 s1.2 i1) 1) == 1) || (x6 == (-1000000000000000))) true (by kernel_rfl) (fun w => by kernel_rfl) hb5 ?_
                      refine QRun_n (by kernel_rfl) ?_
                      refine QRun_n (by kernel_rfl) ?_
                      refine QRun_n (by kernel_rfl) ?_
                      refine QRun_bool true ((((ibit .and .i64 (ishr .i64 s1.2 i1) 1) == 1) || (x6 == (-1000000000000000))) || (x7.weight == (-1000000000000000))) (by kernel_rfl) (fun w => by kernel_rfl) (by rw [hb5]; rfl) ?_
                      exact QRun_done [0, 4, 5, 6, 8, 10, 11, 40, 41, 42, 67] (by kernel_rfl) (by kernel_rfl)
                    · refine QRun_bool (((ibit .and .i64 (ishr .i64 s1.2 i1) 1) == 1) || (x6 == (-1000000000000000))) false (by kernel_rfl) (fun w => by kernel_rfl) hb5 ?_
                      refine QRun_b [.pointer (some ⟨b2, 0, none⟩)] 10 _ (by kernel_rfl) (fun w => by kernel_rfl) ?_
                      refine QRun_y (.int .i64 x7.weight) (by kernel_rfl) (Y_load1 (t := 2) (p := ⟨b2, 0, none⟩) (v := .int .i64 x7.weight) (by kernel_rfl) (fun w => by kernel_rfl) (H10.cell 0 rfl rfl)) ?_
                      refine QRun_b [.bool (x7.weight == (-1000000000000000))] 12 _ (by kernel_rfl) (fun w => by kernel_rfl) ?_
                      refine QRun_bool (x7.weight == (-1000000000000000)) ((((ibit .and .i64 (ishr .i64 s1.2 i1) 1) == 1) || (x6 == (-1000000000000000))) || (x7.weight == (-1000000000000000))) (by kernel_rfl) (fun w => by kernel_rfl) (by rw [hb5]; rfl) ?_
                      exact QRun_done [0, 4, 5, 6, 8, 10, 11, 40, 41, 42, 67] (by kernel_rfl) (by kernel_rfl)
                  exact QRun_done [0, 4, 5, 6, 8, 10, 11, 40, 41, 42, 67] (by kernel_rfl) (by kernel_rfl)
                refine Run_cond (b := (((ibit .and .i64 (ishr .i64 s1.2 i1) 1) == 1) || (x6 == (-1000000000000000))) || (x7.weight == (-1000000000000000))) (by kernel_rfl) (fun hb6 => ?_) (fun hb6 => ?_)
                · have gs4 := (M.ite_some gs4).1 hb6
                  refine Run_exit (k' := _) rfl ?_
                  have H20 : Hold h h10 [own cd127 a1 l1.length l1.length s1.1, box b1 127 [.int .i64 s3.weight, .int .i64 s3.count]] := H10.pick [1, 2] (by kernel_rfl)
                  have gs4 := M.ret_some gs4
                  subst gs4
                  exact Run_fall [0, 4, 5, 6, 8, 40, 41, 42] (by kernel_rfl) ⟨rfl, H20⟩
                · have gs4 := (M.ite_some gs4).2 hb6
                  refine Run_skip ?_
                  refine Run_seq ?_
                  refine Run_reg 5 (by kernel_rfl) (L' := [(0, .slice aa_ a_.length ca_), (4, .slice a1 l1.length l1.length), (5, .int .i64 (w64 ((ishl .i64 1 (a_.length : Int)) - 1))), (6, .int .i64 s1.2), (8, .pointer (some ⟨b1, 0, none⟩)), (11, .pointer (some ⟨b2, 0, none⟩)), (12, .int .i64 (w64 (x6 + x7.weight))), (40, .slice a2 x4.length c1), (41, .int .i64 (x4.length : Int)), (42, .int .i64 i1)]) ?_ ?_
                  · refine QRun_b [.int .i64 x6, .pointer (some ⟨b2, 0, none⟩)] 0 _ (by kernel_rfl) (fun w => by kernel_rfl) ?_
                    refine QRun_y (.int .i64 x7.weight) (by kernel_rfl) (Y_load1 (t := 2) (p := ⟨b2, 0, none⟩) (v := .int .i64 x7.weight) (by kernel_rfl) (fun w => by kernel_rfl) (H10.cell 0 rfl rfl)) ?_
                    refine QRun_b [.int .i64 (w64 (x6 + x7.weight)), .int .i64 (w64 (x6 + x7.weight))] 3 _ (by kernel_rfl) (fun w => by kernel_rfl) ?_
                    exact QRun_done [0, 4, 5, 6, 8, 11, 12, 40, 41, 42] (by kernel_rfl) (by kernel_rfl)
                  refine Run_block ?_
                  refine Run_seq ?_
                  refine Run_reg 10 (by kernel_rfl) (L' := [(0, .slice aa_ a_.length ca_), (4, .slice a1 l1.length l1.length), (5, .int .i64 (w64 ((ishl .i64 1 (a_.length : Int)) - 1))), (6, .int .i64 s1.2), (8, .pointer (some ⟨b1, 0, none⟩)), (11, .pointer (some ⟨b2, 0, none⟩)), (12, .int .i64 (w64 (x6 + x7.weight))), (40, .slice a2 x4.length c1), (41, .int .i64 (x4.length : Int)), (42, .int .i64 i1), (72, .bool ((s3.count == 0) || (decide (s3.weight < (w64 (x6 + x7.weight))))))]) ?_ ?_
                  · refine QRun_b [.pointer (some ⟨b1, 1, none⟩)] 0 _ (by kernel_rfl) (fun w => by kernel_rfl) ?_
                    refine QRun_y (.int .i64 s3.count) (by kernel_rfl) (Y_load1 (t := 2) (p := ⟨b1, 1, none⟩) (v := .int .i64 s3.count) (by kernel_rfl) (fun w => by kernel_rfl) (H10.cell 2 rfl rfl)) ?_
                    refine QRun_b [.bool (s3.count == 0)] 2 _ (by kernel_rfl) (fun w => by kernel_rfl) ?_
                    refine QRun_seq 9 [(0, .slice aa_ a_.length ca_), (4, .slice a1 l1.length l1.length), (5, .int .i64 (w64 ((ishl .i64 1 (a_.length : Int)) - 1))), (6, .int .i64 s1.2), (8, .pointer (some ⟨b1, 0, none⟩)), (11, .pointer (some ⟨b2, 0, none⟩)), (12, .int .i64 (w64 (x6 + x7.weight))), (40, .slice a2 x4.length c1), (41, .int .i64 (x4.length : Int)), (42, .int .i64 i1), (81, .bool ((s3.count == 0) || (decide (s3.weight < (w64 (x6 + x7.weight))))))] ?_ ?_
                    · rcases Bool.eq_false_or_eq_true (s3.count == 0) with hb7 | hb7
                      · refine QRun_bool (s3.count == 0) true (by kernel_rfl) (fun w => by kernel_rfl) hb7 ?_
                        refine QRun_n (by kernel_rfl) ?_
                        refine QRun_n (by kernel_rfl) ?_
                        refine QRun_n (by kernel_rfl) ?_
                        refine QRun_n (by kernel_rfl) ?_
                        refine QRun_bool true ((s3.count == 0) || (decide (s3.weight < (w64 (x6 + x7.weight))))) (by kernel_rfl) (fun w => by kernel_rfl) (by rw [hb7]; rfl) ?_
                        exact QRun_done [0, 4, 5, 6, 8, 11, 12, 40, 41, 42, 81] (by kernel_rfl) (by kernel_rfl)
                      · refine QRun_bool (s3.count == 0) false (by kernel_rfl) (fun w => by kernel_rfl) hb7 ?_
                        refine QRun_b [.int .i64 (w64 (x6 + x7.weight)), .pointer (some ⟨b1, 0, none⟩)] 4 _ (by kernel_rfl) (fun w => by kernel_rfl) ?_
                        refine QRun_y (.int .i64 s3.weight) (by kernel_rfl) (Y_load1 (t := 2) (p := ⟨b1, 0, none⟩) (v := .int .i64 s3.weight) (by kernel_rfl) (fun w => by kernel_rfl) (H10.cell 2 rfl rfl)) ?_
                        refine QRun_b [.bool (decide (s3.weight < (w64 (x6 + x7.weight))))] 7 _ (by kernel_rfl) (fun w => by kernel_rfl) ?_
                        refine QRun_bool (decide (s3.weight < (w64 (x6 + x7.weight)))) ((s3.count == 0) || (decide (s3.weight < (w64 (x6 + x7.weight))))) (by kernel_rfl) (fun w => by kernel_rfl) (by rw [hb7]; rfl) ?_
                        exact QRun_done [0, 4, 5, 6, 8, 11, 12, 40, 41, 42, 81] (by kernel_rfl) (by kernel_rfl)
                    refine QRun_b [.bool ((s3.count == 0) || (decide (s3.weight < (w64 (x6 + x7.weight)))))] 9 _ (by kernel_rfl) (fun w => by kernel_rfl) ?_
                    exact QRun_done [0, 4, 5, 6, 8, 11, 12, 40, 41, 42, 72] (by kernel_rfl) (by kernel_rfl)
                  obtain ⟨s5, gs5, gs4⟩ := M.bind_some gs4
                  refine Run_join (fun L' h' => L' = [(0, .slice aa_ a_.length ca_), (4, .slice a1 l1.length l1.length), (5, .int .i64 (w64 ((ishl .i64 1 (a_.length : Int)) - 1))), (6, .int .i64 s1.2), (8, .pointer (some ⟨b1, 0, none⟩)), (40, .slice a2 x4.length c1), (41, .int .i64 (x4.length : Int)), (42, .int .i64 i1)] ∧ Hold h h' [own cd127 a1 l1.length l1.length s1.1, box b1 127 [.int .i64 s5.weight, .int .i64 s5.count]]) ?_ ?_
                  · rintro _ h13 ⟨rfl, H15⟩
                    refine Run_blk ?_
                    refine Run_blk ?_
                    have gs4 := M.ret_some gs4
                    subst gs4
                    exact Run_fall [0, 4, 5, 6, 8, 40, 41, 42] (by kernel_rfl) ⟨rfl, H15⟩
                  · refine Run_cond (b := (s3.count == 0) || (decide (s3.weight < (w64 (x6 + x7.weight))))) (by kernel_rfl) (fun hb8 => ?_) (fun hb8 => ?_)
                    · have gs5 := (M.ite_some gs5).1 hb8
                      refine Run_ops ?_
                      refine Run_b [.int .i64 (w64 (x6 + x7.weight)), .pointer (some ⟨b2, 1, none⟩)] 0 _ (by kernel_rfl) (fun w => by kernel_rfl) ?_
                      refine Run_y (.int .i64 x7.count) (by kernel_rfl) (Y_load1 (t := 2) (p := ⟨b2, 1, none⟩) (v := .int .i64 x7.count) (by kernel_rfl) (fun w => by kernel_rfl) (H10.cell 0 rfl rfl)) ?_
                      refine Run_b [.agg #[.int .i64 (w64 (x6 + x7.weight)), .int .i64 x7.count]] 3 _ (by kernel_rfl) (fun w => by kernel_rfl) ?_
                      have H12 : Hold h h10 [box b1 127 [.int .i64 s3.weight, .int .i64 s3.count], box b2 127 [.int .i64 x7.weight, .int .i64 x7.count], own cd127 a1 l1.length l1.length s1.1] := H10.pick [2, 0, 1] (by kernel_rfl)
                      refine Run_E (by kernel_rfl) ?_
                      refine E_bput (t := 127) (off := 0) (us := [.int .i64 (w64 (x6 + x7.weight)), .int .i64 x7.count]) (v := .agg #[.int .i64 (w64 (x6 + x7.weight)), .int .i64 x7.count]) H12 (by kernel_rfl) (by kernel_rfl) rfl (by kernel_rfl) rfl (fun h11 H11 => ?_)
                      refine Run_nil (by kernel_rfl) ?_
                      refine Run_keep [0, 4, 5, 6, 8, 40, 41, 42] (L' := [(0, .slice aa_ a_.length ca_), (4, .slice a1 l1.length l1.length), (5, .int .i64 (w64 ((ishl .i64 1 (a_.length : Int)) - 1))), (6, .int .i64 s1.2), (8, .pointer (some ⟨b1, 0, none⟩)), (40, .slice a2 x4.length c1), (41, .int .i64 (x4.length : Int)), (42, .int .i64 i1)]) (by kernel_rfl) ?_
                      have H16 : Hold h h11 [own cd127 a1 l1.length l1.length s1.1, box b1 127 [.int .i64 (w64 (x6 + x7.weight)), .int .i64 x7.count]] := H11.pick [2, 0] (by kernel_rfl)
                      have gs5 := M.ret_some gs5
                      subst gs5
                      exact Run_fall [0, 4, 5, 6, 8, 40, 41, 42] (by kernel_rfl) ⟨rfl, H16⟩
                    · have gs5 := (M.ite_some gs5).2 hb8
                      refine Run_seq ?_
                      refine Run_reg 5 (by kernel_rfl) (L' := [(0, .slice aa_ a_.length ca_), (4, .slice a1 l1.length l1.length), (5, .int .i64 (w64 ((ishl .i64 1 (a_.length : Int)) - 1))), (6, .int .i64 s1.2), (8, .pointer (some ⟨b1, 0, none⟩)), (11, .pointer (some ⟨b2, 0, none⟩)), (40, .slice a2 x4.length c1), (41, .int .i64 (x4.length : Int)), (42, .int .i64 i1), (86, .bool ((w64 (x6 + x7.weight)) == s3.weight))]) ?_ ?_
                      · refine QRun_b [.int .i64 (w64 (x6 + x7.weight)), .pointer (some ⟨b1, 0, none⟩)] 0 _ (by kernel_rfl) (fun w => by kernel_rfl) ?_
                        refine QRun_y (.int .i64 s3.weight) (by kernel_rfl) (Y_load1 (t := 2) (p := ⟨b1, 0, none⟩) (v := .int .i64 s3.weight) (by kernel_rfl) (fun w => by kernel_rfl) (H10.cell 2 rfl rfl)) ?_
                        refine QRun_b [.bool ((w64 (x6 + x7.weight)) == s3.weight), .bool ((w64 (x6 + x7.weight)) == s3.weight)] 3 _ (by kernel_rfl) (fun w => by kernel_rfl) ?_
                        exact QRun_done [0, 4, 5, 6, 8, 11, 40, 41, 42, 86] (by kernel_rfl) (by kernel_rfl)
                      refine Run_cond (b := (w64 (x6 + x7.weight)) == s3.weight) (by kernel_rfl) (fun hb9 => ?_) (fun hb9 => ?_)
                      · have gs5 := (M.ite_some gs5).1 hb9
                        refine Run_ops ?_
                        refine Run_b [.pointer (some ⟨b1, 1, none⟩)] 0 _ (by kernel_rfl) (fun w => by kernel_rfl) ?_
                        refine Run_y (.int .i64 s3.count) (by kernel_rfl) (Y_load1 (t := 2) (p := ⟨b1, 1, none⟩) (v := .int .i64 s3.count) (by kernel_rfl) (fun w => by kernel_rfl) (H10.cell 2 rfl rfl)) ?_
                        refine Run_b [.pointer (some ⟨b2, 1, none⟩)] 2 _ (by kernel_rfl) (fun w => by kernel_rfl) ?_
                        refine Run_y (.int .i64 x7.count) (by kernel_rfl) (Y_load1 (t := 2) (p := ⟨b2, 1, none⟩) (v := .int .i64 x7.count) (by kernel_rfl) (fun w => by kernel_rfl) (H10.cell 0 rfl rfl)) ?_
                        refine Run_b [.int .i64 (w64 (s3.count + x7.count)), .pointer (some ⟨b1, 1, none⟩)] 4 _ (by kernel_rfl) (fun w => by kernel_rfl) ?_
                        have H14 : Hold h h10 [box b1 127 [.int .i64 s3.weight, .int .i64 s3.count], box b2 127 [.int .i64 x7.weight, .int .i64 x7.count], own cd127 a1 l1.length l1.length s1.1] := H10.pick [2, 0, 1] (by kernel_rfl)
                        refine Run_E (by kernel_rfl) ?_
                        refine E_bput (t := 2) (off := 1) (us := [.int .i64 s3.weight, .int .i64 (w64 (s3.count + x7.count))]) (v := .int .i64 (w64 (s3.count + x7.count))) H14 (by kernel_rfl) (by kernel_rfl) rfl (by kernel_rfl) rfl (fun h12 H13 => ?_)
                        refine Run_nil (by kernel_rfl) ?_
                        refine Run_keep [0, 4, 5, 6, 8, 40, 41, 42] (L' := [(0, .slice aa_ a_.length ca_), (4, .slice a1 l1.length l1.length), (5, .int .i64 (w64 ((ishl .i64 1 (a_.length : Int)) - 1))), (6, .int .i64 s1.2), (8, .pointer (some ⟨b1, 0, none⟩)), (40, .slice a2 x4.length c1), (41, .int .i64 (x4.length : Int)), (42, .int .i64 i1)]) (by kernel_rfl) ?_
                        have H17 : Hold h h12 [own cd127 a1 l1.length l1.length s1.1, box b1 127 [.int .i64 s3.weight, .int .i64 (w64 (s3.count + x7.count))]] := H13.pick [2, 0] (by kernel_rfl)
                        have gs5 := M.ret_some gs5
                        subst gs5
                        exact Run_fall [0, 4, 5, 6, 8, 40, 41, 42] (by kernel_rfl) ⟨rfl, H17⟩
                      · have gs5 := (M.ite_some gs5).2 hb9
                        refine Run_skip ?_
                        have H18 : Hold h h10 [own cd127 a1 l1.length l1.length s1.1, box b1 127 [.int .i64 s3.weight, .int .i64 s3.count]] := H10.pick [1, 2] (by kernel_rfl)
                        have gs5 := M.ret_some gs5
                        subst gs5
                        exact Run_fall [0, 4, 5, 6, 8, 40, 41, 42] (by kernel_rfl) ⟨rfl, H18⟩
            · have gx5 := M.for_end gx5 hb3
              subst gx5
              refine Run_exit (k' := _) rfl ?_
              exact Run_fall [0, 4, 5, 6, 8] (by kernel_rfl) ⟨rfl, H7⟩
    · have hB1 := (M.ite_some hB1).2 hb1
      refine Run_exit (k' := _) rfl ?_
      have hB1 := M.ret_some hB1
      have gx1 := houty1 _ hB1.symm
      subst gx1
      exact Run_fall [4] (by kernel_rfl) ⟨rfl, H2⟩

set_option maxRecDepth 100000 in
set_option maxHeartbeats 4000000 in
theorem w_impl_bestAssignment (h : Heap) (a_ : List (List Int)) (aa_ : Option Addr) (ca_ : Nat) (ra_ : Rd cd39 h (Lt h) aa_ ca_ a_) (n : Nat) (r : (List Int) × Bool) (hF : impl_bestAssignment a_ n = some r) :
    Fn Try.prog 90 #[.slice aa_ a_.length ca_] h fun v h' => ∃ (a0 : Option Addr) (c0 : Nat), v = .tuple #[.slice a0 r.1.length c0, .bool r.2] ∧ Hold h h' [own cd2 a0 r.1.length c0 r.1] := by
  unfold impl_bestAssignment at hF
  refine Fn_enter (args := [.slice aa_ a_.length ca_]) Try.func90 rfl (by kernel_rfl) (by kernel_rfl) (fun w0 _ => ?_)
  have H0 := Hold.init h
  refine Run_seq ?_
  refine Run_reg 2 (by kernel_rfl) (L' := [(0, .slice aa_ a_.length ca_)]) ?_ ?_
  · refine QRun_b [.slice none 0 0, .bool false] 0 _ (by kernel_rfl) (fun w => by kernel_rfl) ?_
    exact QRun_done [0] (by kernel_rfl) (by kernel_rfl)
  refine Run_seq ?_
  refine Run_ops ?_
  refine Run_b [.slice aa_ a_.length ca_] 0 _ (by kernel_rfl) (fun w => by kernel_rfl) ?_
  obtain ⟨x1, hx1, hF⟩ := M.bind_some hF
  refine Run_E (by kernel_rfl) ?_
  refine E_call (f := 130) (args := #[.slice aa_ a_.length ca_]) (w_impl_permanents h a_ aa_ ca_ ra_ _ _ hx1) (by kernel_rfl) (fun v1 h1 hp1 => ?_)
  obtain ⟨a1, c1, rfl, H1⟩ := hp1
  have H2 : Hold h h1 [own cd127 a1 x1.length c1 x1] := H0.call H1 rfl
  refine Run_b [.slice a1 x1.length c1] 2 _ (by kernel_rfl) (fun w => by kernel_rfl) ?_
  refine Run_nil (by kernel_rfl) ?_
  refine Run_keep [0, 4] (L' := [(0, .slice aa_ a_.length ca_), (4, .slice a1 x1.length c1)]) (by kernel_rfl) ?_
  refine Run_seq ?_
  refine Run_seq ?_
  obtain ⟨x2, hx2, hF⟩ := M.bind_some hF
  obtain ⟨hx2l, hx2u, hx2⟩ := M.idx_some hx2
  refine Run_reg 5 (by kernel_rfl) (L' := [(0, .slice aa_ a_.length ca_), (4, .slice a1 x1.length c1), (18, .bool (x2.weight == (-1000000000000000)))]) ?_ ?_
  · refine QRun_b [.slice a1 x1.length c1] 0 _ (by kernel_rfl) (fun w => by kernel_rfl) ?_
    refine QRun_y (.pointer (some (adr a1 (0 * 2)))) (by kernel_rfl) (Y_idx (t := 128) (e := 127) (sz := 2) (a := a1) (n := x1.length) (cap := c1) (kk := .i64) (i := 0) (by kernel_rfl) Try.underlying128 (by kernel_rfl) ((H2.rd 0 rfl).cell hx2).1 hx2l hx2u) ?_
    refine QRun_b [.pointer (some ((adr a1 (0 * 2)).add 0))] 2 _ (by kernel_rfl) (fun w => by kernel_rfl) ?_
    refine QRun_y (.int .i64 x2.weight) (by kernel_rfl) (Y_load1 (t := 2) (p := (adr a1 (0 * 2)).add 0) (v := .int .i64 x2.weight) (by kernel_rfl) (fun w => by kernel_rfl) (cd127_f0 (H2.rd 0 rfl) hx2)) ?_
    refine QRun_b [.bool (x2.weight == (-1000000000000000))] 4 _ (by kernel_rfl) (fun w => by kernel_rfl) ?_
    exact QRun_done [0, 4, 18] (by kernel_rfl) (by kernel_rfl)
  refine Run_cond (b := x2.weight == (-1000000000000000)) (by kernel_rfl) (fun hb1 => ?_) (fun hb1 => ?_)
  · have hF := (M.ite_some hF).1 hb1
    refine Run_seq ?_
    refine Run_reg 2 (by kernel_rfl) (L' := [(2, .slice none 0 0), (3, .bool false)]) ?_ ?_
    · refine QRun_b [.slice none 0 0, .bool false] 0 _ (by kernel_rfl) (fun w => by kernel_rfl) ?_
      exact QRun_done [2, 3] (by kernel_rfl) (by kernel_rfl)
    have hF := M.ret_some hF
    subst hF
    have H3 := H2.empty cd2
    have H4 : Hold h h1 [own cd2 none 0 0 []] := H3.pick [0] (by kernel_rfl)
    exact Run_ret2 rfl (ResV_tmp (v := .slice none 0 0) (by kernel_rfl)) (ResV_tmp (v := .bool false) (by kernel_rfl)) ⟨none, 0, rfl, H4⟩
  · have hF := (M.ite_some hF).2 hb1
    refine Run_skip ?_
    refine Run_seq ?_
    refine Run_reg 1 (by kernel_rfl) (L' := [(0, .slice aa_ a_.length ca_), (4, .slice a1 x1.length c1), (5, .slice none 0 0)]) ?_ ?_
    · refine QRun_b [.slice none 0 0] 0 _ (by kernel_rfl) (fun w => by kernel_rfl) ?_
      exact QRun_done [0, 4, 5] (by kernel_rfl) (by kernel_rfl)
    refine Run_seq ?_
    refine Run_reg 1 (by kernel_rfl) (L' := [(0, .slice aa_ a_.length ca_), (4, .slice a1 x1.length c1), (5, .slice none 0 0), (6, .int .i64 0)]) ?_ ?_
    · refine QRun_b [.int .i64 0] 0 _ (by kernel_rfl) (fun w => by kernel_rfl) ?_
      exact QRun_done [0, 4, 5, 6] (by kernel_rfl) (by kernel_rfl)
    refine Run_seq ?_
    refine Run_seq ?_
    refine Run_reg 3 (by kernel_rfl) (L' := [(4, .slice a1 x1.length c1), (5, .slice none 0 0), (6, .int .i64 0), (19, .slice aa_ a_.length ca_), (20, .int .i64 (a_.length : Int)), (21, .int .i64 0)]) ?_ ?_
    · refine QRun_b [.slice aa_ a_.length ca_, .int .i64 (a_.length : Int), .int .i64 0] 0 _ (by kernel_rfl) (fun w => by kernel_rfl) ?_
      exact QRun_done [4, 5, 6, 19, 20, 21] (by kernel_rfl) (by kernel_rfl)
    obtain ⟨x3, gx3, hF⟩ := M.bind_some hF
    obtain ⟨hloy1, hhiy1, gx3⟩ := M.for_start gx3
    refine Run_join (fun L' h' => ∃ (a3 : Option Addr) (c3 : Nat), L' = [(5, .slice a3 x3.1.length c3)] ∧ Hold h h' [own cd2 a3 x3.1.length c3 x3.1]) ?_ ?_
    · rintro _ h3 ⟨a3, c3, rfl, H6⟩
      refine Run_seq ?_
      refine Run_reg 3 (by kernel_rfl) (L' := [(2, .slice a3 x3.1.length c3), (3, .bool true)]) ?_ ?_
      · refine QRun_b [.slice a3 x3.1.length c3, .slice a3 x3.1.length c3, .bool true] 0 _ (by kernel_rfl) (fun w => by kernel_rfl) ?_
        exact QRun_done [2, 3] (by kernel_rfl) (by kernel_rfl)
      have hF := M.ret_some hF
      subst hF
      exact Run_ret2 rfl (ResV_tmp (v := .slice a3 x3.1.length c3) (by kernel_rfl)) (ResV_tmp (v := .bool true) (by kernel_rfl)) ⟨a3, c3, rfl, H6⟩
    · refine Run_block ?_
      have H27 := H2.empty cd2
      have H28 : Hold h h1 [own cd127 a1 x1.length c1 x1, own cd2 none 0 0 []] := H27.pick [1, 0] (by kernel_rfl)
      refine Run_keep [4, 5, 6, 19, 20, 21] (L' := [(4, .slice a1 x1.length c1), (5, .slice none 0 0), (6, .int .i64 0), (19, .slice aa_ a_.length ca_), (20, .int .i64 (a_.length : Int)), (21, .int .i64 0)]) (by kernel_rfl) ?_
      refine Run_loop (fun m L' h' => ∃ (i1 : Int) (s1 : (List Int) × Int) (a2 : Option Addr) (c2 : Nat), 0 ≤ i1 ∧ M.forN (a_.length : Int) _ _ n m i1 s1 = some x3 ∧ L' = [(4, .slice a1 x1.length c1), (5, .slice a2 s1.1.length c2), (6, .int .i64 s1.2), (19, .slice aa_ a_.length ca_), (20, .int .i64 (a_.length : Int)), (21, .int .i64 i1)] ∧ Hold h h' [own cd127 a1 x1.length c1 x1, own cd2 a2 s1.1.length c2 s1.1]) ((a_.length : Int) - 0 : Int).toNat ⟨0, ([], 0), none, 0, Int.le_refl _, gx3, rfl, H28⟩ ?_
      rintro my1 _ h2 ⟨i1, s1, a2, c2, hloy1', gx3, rfl, H5⟩
      refine Run_seq ?_
      refine Run_reg 1 (by kernel_rfl) (L' := [(4, .slice a1 x1.length c1), (5, .slice a2 s1.1.length c2), (6, .int .i64 s1.2), (19, .slice aa_ a_.length ca_), (20, .int .i64 (a_.length : Int)), (21, .int .i64 i1), (22, .bool (decide (i1 < (a_.length : Int))))]) ?_ ?_
      · refine QRun_b [.bool (decide (i1 < (a_.length : Int)))] 0 _ (by kernel_rfl) (fun w => by kernel_rfl) ?_
        exact QRun_done [4, 5, 6, 19, 20, 21, 22] (by kernel_rfl) (by kernel_rfl)
      refine Run_seq ?_
      refine Run_cond (b := decide (i1 < (a_.length : Int))) (by kernel_rfl) (fun hb2 => ?_) (fun hb2 => ?_)
      · obtain ⟨my1, y1, rfl, hB1, hgoy1, houty1⟩ := M.for_go gx3 hb2
        have hlty1 := of_decide_eq_true hb2
        refine Run_skip ?_
        refine Run_seq ?_
        refine Run_block ?_
        refine Run_seq ?_
        obtain ⟨x4, hx3, hB1⟩ := M.bind_some hB1
        obtain ⟨hx3l, hx3u, hx3⟩ := M.idx_some hx3
        obtain ⟨a4, c4, hc1, r1⟩ := ra_.row hx3
        refine Run_reg 3 (by kernel_rfl) (L' := [(4, .slice a1 x1.length c1), (5, .slice a2 s1.1.length c2), (6, .int .i64 s1.2), (8, .slice a4 x4.length c4), (19, .slice aa_ a_.length ca_), (20, .int .i64 (a_.length : Int)), (21, .int .i64 i1)]) ?_ ?_
        · refine QRun_y (.pointer (some (adr aa_ (i1.toNat * 1)))) (by kernel_rfl) (Y_idx (t := 37) (e := 39) (sz := 1) (a := aa_) (n := a_.length) (cap := ca_) (kk := .i64) (i := i1) (by kernel_rfl) Try.underlying37 (by kernel_rfl) ((ra_.at H5.ext).cell hx3).1 hx3l hx3u) ?_
          refine QRun_y (.slice a4 x4.length c4) (by kernel_rfl) (Y_load1 (t := 39) (p := adr aa_ (i1.toNat * 1)) (v := .slice a4 x4.length c4) (by kernel_rfl) (fun w => by kernel_rfl) (cell_at H5.ext hc1)) ?_
          refine QRun_b [.slice a4 x4.length c4] 2 _ (by kernel_rfl) (fun w => by kernel_rfl) ?_
          exact QRun_done [4, 5, 6, 8, 19, 20, 21] (by kernel_rfl) (by kernel_rfl)
        refine Run_seq ?_
        refine Run_reg 3 (by kernel_rfl) (L' := [(4, .slice a1 x1.length c1), (5, .slice a2 s1.1.length c2), (6, .int .i64 s1.2), (19, .slice aa_ a_.length ca_), (20, .int .i64 (a_.length : Int)), (21, .int .i64 i1), (25, .slice a4 x4.length c4), (26, .int .i64 (x4.length : Int)), (27, .int .i64 0)]) ?_ ?_
        · refine QRun_b [.slice a4 x4.length c4, .int .i64 (x4.length : Int), .int .i64 0] 0 _ (by kernel_rfl) (fun w => by kernel_rfl) ?_
          exact QRun_done [4, 5, 6, 19, 20, 21, 25, 26, 27] (by kernel_rfl) (by kernel_rfl)
        obtain ⟨x5, gx5, hB1⟩ := M.bind_some hB1
        obtain ⟨hloy2, hhiy2, gx5⟩ := M.for_start gx5
        refine Run_join (fun L' h' => ∃ (a6 : Option Addr) (c6 : Nat), L' = [(4, .slice a1 x1.length c1), (5, .slice a6 x5.1.length c6), (6, .int .i64 x5.2), (19, .slice aa_ a_.length ca_), (20, .int .i64 (a_.length : Int)), (21, .int .i64 i1)] ∧ Hold h h' [own cd127 a1 x1.length c1 x1, own cd2 a6 x5.1.length c6 x5.1]) ?_ ?_
        · rintro _ h5 ⟨a6, c6, rfl, H8⟩
          refine Run_blk ?_
          refine Run_reg 2 (by kernel_rfl) (L' := [(4, .slice a1 x1.length c1), (5, .slice a6 x5.1.length c6), (6, .int .i64 x5.2), (19, .slice aa_ a_.length ca_), (20, .int .i64 (a_.length : Int)), (21, .int .i64 (i1 + 1))]) ?_ ?_
          · refine QRun_y (.int .i64 (i1 + 1)) (by kernel_rfl) (Y_eq (v := .int .i64 (w64 (i1 + 1))) (Y_pure (fun w => by kernel_rfl)) (by rw [w64_eq _ (by omega)])) ?_
            refine QRun_b [.int .i64 (i1 + 1)] 1 _ (by kernel_rfl) (fun w => by kernel_rfl) ?_
            exact QRun_done [4, 5, 6, 19, 20, 21] (by kernel_rfl) (by kernel_rfl)
          have H21 : Hold h h5 [own cd2 a6 x5.1.length c6 x5.1, own cd127 a1 x1.length c1 x1] := H8.pick [1, 0] (by kernel_rfl)
          have H22 : Hold h h5 [own cd127 a1 x1.length c1 x1, own cd2 a6 x5.1.length c6 x5.1] := H21.pick [1, 0] (by kernel_rfl)
          have hB1 := M.ret_some hB1
          have gx3 := hgoy1 _ hB1.symm
          exact Run_again [4, 5, 6, 19, 20, 21] (by kernel_rfl) my1 (Nat.lt_succ_self _) ⟨i1 + 1, (x5.1, x5.2), a6, c6, by omega, gx3, rfl, H22⟩
        · refine Run_block ?_
          have H23 : Hold h h2 [own cd2 a2 s1.1.length c2 s1.1, own cd127 a1 x1.length c1 x1] := H5.pick [1, 0] (by kernel_rfl)
          have H24 : Hold h h2 [own cd127 a1 x1.length c1 x1, own cd2 a2 s1.1.length c2 s1.1] := H23.pick [1, 0] (by kernel_rfl)
          refine Run_keep [4, 5, 6, 19, 20, 21, 25, 26, 27] (L' := [(4, .slice a1 x1.length c1), (5, .slice a2 s1.1.length c2), (6, .int .i64 s1.2), (19, .slice aa_ a_.length ca_), (20, .int .i64 (a_.length : Int)), (21, .int .i64 i1), (25, .slice a4 x4.length c4), (26, .int .i64 (x4.length : Int)), (27, .int .i64 0)]) (by kernel_rfl) ?_
          refine Run_loop (fun m L' h' => ∃ (i2 : Int) (s2 : (List Int) × Int) (a5 : Option Addr) (c5 : Nat), 0 ≤ i2 ∧ M.forN (x4.length : Int) _ _ n m i2 s2 = some x5 ∧ L' = [(4, .slice a1 x1.length c1), (5, .slice a5 s2.1.length c5), (6, .int .i64 s2.2), (19, .slice aa_ a_.length ca_), (20, .int .i64 (a_.length : Int)), (21, .int .i64 i1), (25, .slice a4 x4.length c4), (26, .int .i64 (x4.length : Int)), (27, .int .i64 i2)] ∧ Hold h h' [own cd127 a1 x1.length c1 x1, own cd2 a5 s2.1.length c5 s2.1]) ((x4.length : Int) - 0 : Int).toNat ⟨0, (s1.1, s1.2), a2, c2, Int.le_refl _, gx5, rfl, H24⟩ ?_
          rintro my2 _ h4 ⟨i2, s2, a5, c5, hloy2', gx5, rfl, H7⟩
          refine Run_seq ?_
          refine Run_reg 1 (by kernel_rfl) (L' := [(4, .slice a1 x1.length c1), (5, .slice a5 s2.1.length c5), (6, .int .i64 s2.2), (19, .slice aa_ a_.length ca_), (20, .int .i64 (a_.length : Int)), (21, .int .i64 i1), (25, .slice a4 x4.length c4), (26, .int .i64 (x4.length : Int)), (27, .int .i64 i2), (28, .bool (decide (i2 < (x4.length : Int))))]) ?_ ?_
          · refine QRun_b [.bool (decide (i2 < (x4.length : Int)))] 0 _ (by kernel_rfl) (fun w => by kernel_rfl) ?_
            exact QRun_done [4, 5, 6, 19, 20, 21, 25, 26, 27, 28] (by kernel_rfl) (by kernel_rfl)
          refine Run_seq ?_
          refine Run_cond (b := decide (i2 < (x4.length : Int))) (by kernel_rfl) (fun hb3 => ?_) (fun hb3 => ?_)
          · obtain ⟨my2, y2, rfl, hB2, hgoy2, houty2⟩ := M.for_go gx5 hb3
            have hlty2 := of_decide_eq_true hb3
            refine Run_skip ?_
            refine Run_seq ?_
            refine Run_block ?_
            refine Run_seq ?_
            obtain ⟨x6, hx4, hB2⟩ := M.bind_some hB2
            obtain ⟨hx4l, hx4u, hx4⟩ := M.idx_some hx4
            refine Run_reg 5 (by kernel_rfl) (L' := [(4, .slice a1 x1.length c1), (5, .slice a5 s2.1.length c5), (6, .int .i64 s2.2), (9, .int .i64 i2), (10, .int .i64 x6), (19, .slice aa_ a_.length ca_), (20, .int .i64 (a_.length : Int)), (21, .int .i64 i1), (25, .slice a4 x4.length c4), (26, .int .i64 (x4.length : Int)), (27, .int .i64 i2)]) ?_ ?_
            · refine QRun_b [.int .i64 i2] 0 _ (by kernel_rfl) (fun w => by kernel_rfl) ?_
              refine QRun_y (.pointer (some (adr a4 (i2.toNat * 1)))) (by kernel_rfl) (Y_idx (t := 39) (e := 2) (sz := 1) (a := a4) (n := x4.length) (cap := c4) (kk := .i64) (i := i2) (by kernel_rfl) Try.underlying39 (by kernel_rfl) ((r1.at H7.ext).cell hx4).1 hx4l hx4u) ?_
              refine QRun_y (.int .i64 x6) (by kernel_rfl) (Y_load1 (t := 2) (p := adr a4 (i2.toNat * 1)) (v := .int .i64 x6) (by kernel_rfl) (fun w => by kernel_rfl) (cd2_cell (r1.at H7.ext) hx4)) ?_
              refine QRun_b [.int .i64 i2, .int .i64 x6] 3 _ (by kernel_rfl) (fun w => by kernel_rfl) ?_
              exact QRun_done [4, 5, 6, 9, 10, 19, 20, 21, 25, 26, 27] (by kernel_rfl) (by kernel_rfl)
            refine Run_seq ?_
            refine Run_ops ?_
            obtain ⟨u1, hz1, hB2⟩ := M.bind_some hB2
            have hz1 := M.guard_some hz1
            obtain ⟨x7, hx5, hB2⟩ := M.bind_some hB2
            obtain ⟨hx5l, hx5u, hx5⟩ := M.idx_some hx5
            refine Run_b [.slice a1 x1.length c1, .int .i64 s2.2, .int .i64 i2] 0 _ (by kernel_rfl) (fun w => by kernel_rfl) ?_
            refine Run_y (.int .i64 (ishl .i64 1 i2)) (by kernel_rfl) (Y_shl (k := .i64) (x := 1) (kk := .i64) (y := i2) (by kernel_rfl) hz1) ?_
            refine Run_b [.int .i64 (ibit .or .i64 s2.2 (ishl .i64 1 i2))] 4 _ (by kernel_rfl) (fun w => by kernel_rfl) ?_
            refine Run_y (.pointer (some (adr a1 ((ibit .or .i64 s2.2 (ishl .i64 1 i2)).toNat * 2)))) (by kernel_rfl) (Y_idx (t := 128) (e := 127) (sz := 2) (a := a1) (n := x1.length) (cap := c1) (kk := .i64) (i := ibit .or .i64 s2.2 (ishl .i64 1 i2)) (by kernel_rfl) Try.underlying128 (by kernel_rfl) ((H7.rd 0 rfl).cell hx5).1 hx5l hx5u) ?_
            refine Run_y (.agg #[.int .i64 x7.weight, .int .i64 x7.count]) (by kernel_rfl) (Y_loadA (t := 127) (n := 2) (p := adr a1 ((ibit .or .i64 s2.2 (ishl .i64 1 i2)).toNat * 2)) (cs := [.int .i64 x7.weight, .int .i64 x7.count]) (by kernel_rfl) (fun w => by kernel_rfl) (by kernel_rfl) rfl (cd127_elem (H7.rd 0 rfl) hx5)) ?_
            refine Run_E (by kernel_rfl) ?_
            refine E_box (ty := 127) (cs := [.int .i64 0, .int .i64 0]) H7 (fun w => by kernel_rfl) (fun b1 h6 H9 => ?_)
            refine Run_E (by kernel_rfl) ?_
            refine E_bput (t := 127) (off := 0) (us := [.int .i64 x7.weight, .int .i64 x7.count]) (v := .agg #[.int .i64 x7.weight, .int .i64 x7.count]) H9 (by kernel_rfl) (by kernel_rfl) rfl (by kernel_rfl) rfl (fun h7 H10 => ?_)
            refine Run_nil (by kernel_rfl) ?_
            refine Run_keep [4, 5, 6, 9, 10, 11, 19, 20, 21, 25, 26, 27] (L' := [(4, .slice a1 x1.length c1), (5, .slice a5 s2.1.length c5), (6, .int .i64 s2.2), (9, .int .i64 i2), (10, .int .i64 x6), (11, .pointer (some ⟨b1, 0, none⟩)), (19, .slice aa_ a_.length ca_), (20, .int .i64 (a_.length : Int)), (21, .int .i64 i1), (25, .slice a4 x4.length c4), (26, .int .i64 (x4.length : Int)), (27, .int .i64 i2)]) (by kernel_rfl) ?_
            refine Run_seq ?_
            obtain ⟨u2, hz2, hB2⟩ := M.bind_some hB2
            have hz2 := M.guard_some hz2
            obtain ⟨x10, gx10, hB2⟩ := M.bind_some hB2
            refine Run_draw 26 mixed (by kernel_rfl) (by kernel_rfl) (L' := [(4, .slice a1 x1.length c1), (5, .slice a5 s2.1.length c5), (6, .int .i64 s2.2), (9, .int .i64 i2), (19, .slice aa_ a_.length ca_), (20, .int .i64 (a_.length : Int)), (21, .int .i64 i1), (25, .slice a4 x4.length c4), (26, .int .i64 (x4.length : Int)), (27, .int .i64 i2), (64, .bool x10)]) ?_ ?_
            · refine QRun_b [.int .i64 s2.2, .int .i64 i2] 0 _ (by kernel_rfl) (fun w => by kernel_rfl) ?_
              refine QRun_y (.int .i64 (ishr .i64 s2.2 i2)) (by kernel_rfl) (Y_shr (k := .i64) (x := s2.2) (kk := .i64) (y := i2) (by kernel_rfl) hz2) ?_
              refine QRun_b [.int .i64 (ibit .and .i64 (ishr .i64 s2.2 i2) 1), .bool ((ibit .and .i64 (ishr .i64 s2.2 i2) 1) == 0)] 3 _ (by kernel_rfl) (fun w => by kernel_rfl) ?_
              refine QRun_seq 9 [(4, .slice a1 x1.length c1), (5, .slice a5 s2.1.length c5), (6, .int .i64 s2.2), (9, .int .i64 i2), (10, .int .i64 x6), (11, .pointer (some ⟨b1, 0, none⟩)), (19, .slice aa_ a_.length ca_), (20, .int .i64 (a_.length : Int)), (21, .int .i64 i1), (25, .slice a4 x4.length c4), (26, .int .i64 (x4.length : Int)), (27, .int .i64 i2), (47, .bool (((ibit .and .i64 (ishr .i64 s2.2 i2) 1) == 0) && (x6 != (-1000000000000000))))] ?_ ?_
              · rcases Bool.eq_false_or_eq_true ((ibit .and .i64 (ishr .i64 s2.2 i2) 1) == 0) with hb4 | hb4
                · refine QRun_bool ((ibit .and .i64 (ishr .i64 s2.2 i2) 1) == 0) true (by kernel_rfl) (fun w => by kernel_rfl) hb4 ?_
                  refine QRun_b [.int .i64 x6, .bool (x6 != (-1000000000000000))] 6 _ (by kernel_rfl) (fun w => by kernel_rfl) ?_
                  refine QRun_bool (x6 != (-1000000000000000)) (((ibit .and .i64 (ishr .i64 s2.2 i2) 1) == 0) && (x6 != (-1000000000000000))) (by kernel_rfl) (fun w => by kernel_rfl) (by rw [hb4]; rfl) ?_
                  exact QRun_done [4, 5, 6, 9, 10, 11, 19, 20, 21, 25, 26, 27, 47] (by kernel_rfl) (by kernel_rfl)
                · refine QRun_bool ((ibit .and .i64 (ishr .i64 s2.2 i2) 1) == 0) false (by kernel_rfl) (fun w => by kernel_rfl) hb4 ?_
                  refine QRun_n (by kernel_rfl) ?_
                  refine QRun_n (by kernel_rfl) ?_
                  refine QRun_bool false (((ibit .and .i64 (ishr .i64 s2.2 i2) 1) == 0) && (x6 != (-1000000000000000))) (by kernel_rfl) (fun w => by kernel_rfl) (by rw [hb4]; rfl) ?_
                  exact QRun_done [4, 5, 6, 9, 10, 11, 19, 20, 21, 25, 26, 27, 47] (by kernel_rfl) (by kernel_rfl)
              refine QRun_seq 14 [(4, .slice a1 x1.length c1), (5, .slice a5 s2.1.length c5), (6, .int .i64 s2.2), (9, .int .i64 i2), (10, .int .i64 x6), (11, .pointer (some ⟨b1, 0, none⟩)), (19, .slice aa_ a_.length ca_), (20, .int .i64 (a_.length : Int)), (21, .int .i64 i1), (25, .slice a4 x4.length c4), (26, .int .i64 (x4.length : Int)), (27, .int .i64 i2), (52, .bool ((((ibit .and .i64 (ishr .i64 s2.2 i2) 1) == 0) && (x6 != (-1000000000000000))) && (x7.weight != (-1000000000000000))))] ?_ ?_
              · rcases Bool.eq_false_or_eq_true (((ibit .and .i64 (ishr .i64 s2.2 i2) 1) == 0) && (x6 != (-1000000000000000))) with hb5 | hb5
                · refine QRun_bool (((ibit .and .i64 (ishr .i64 s2.2 i2) 1) == 0) && (x6 != (-1000000000000000))) true (by kernel_rfl) (fun w => by kernel_rfl) hb5 ?_
                  refine QRun_b [.pointer (some ⟨b1, 0, none⟩)] 10 _ (by kernel_rfl) (fun w => by kernel_rfl) ?_
                  refine QRun_y (.int .i64 x7.weight) (by kernel_rfl) (Y_load1 (t := 2) (p := ⟨b1, 0, none⟩) (v := .int .i64 x7.weight) (by kernel_rfl) (fun w => by kernel_rfl) (H10.cell 0 rfl rfl)) ?_
                  refine QRun_b [.bool (x7.weight != (-1000000000000000))] 12 _ (by kernel_rfl) (fun w => by kernel_rfl) ?_
                  refine QRun_bool (x7.weight != (-1000000000000000)) ((((ibit .and .i64 (ishr .i64 s2.2 i2) 1) == 0) && (x6 != (-1000000000000000))) && (x7.weight != (-1000000000000000))) (by kernel_rfl) (fun w => by kernel_rfl) (by rw [hb5]; rfl) ?_
                  exact QRun_done [4, 5, 6, 9, 10, 11, 19, 20, 21, 25, 26, 27, 52] (by kernel_rfl) (by kernel_rfl)
                · refine QRun_bool (((ibit .and .i64 (ishr .i64 s2.2 i2) 1) == 0) && (x6 != (-1000000000000000))) false (by kernel_rfl) (fun w => by kernel_rfl) hb5 ?_
                  refine QRun_n (by kernel_rfl) ?_
                  refine QRun_n (by kernel_rfl) ?_
                  refine QRun_n (by kernel_rfl) ?_
                  refine QRun_bool false ((((ibit .and .i64 (ishr .i64 s2.2 i2) 1) == 0) && (x6 != (-1000000000000000))) && (x7.weight != (-1000000000000000))) (by kernel_rfl) (fun w => by kernel_rfl) (by rw [hb5]; rfl) ?_
                  exact QRun_done [4, 5, 6, 9, 10, 11, 19, 20, 21, 25, 26, 27, 52] (by kernel_rfl) (by kernel_rfl)
              refine QRun_seq 26 [(4, .slice a1 x1.length c1), (5, .slice a5 s2.1.length c5), (6, .int .i64 s2.2), (9, .int .i64 i2), (19, .slice aa_ a_.length ca_), (20, .int .i64 (a_.length : Int)), (21, .int .i64 i1), (25, .slice a4 x4.length c4), (26, .int .i64 (x4.length : Int)), (27, .int .i64 i2), (64, .bool x10)] ?_ ?_
              · rcases Bool.eq_false_or_eq_true ((((ibit .and .i64 (ishr .i64 s2.2 i2) 1) == 0) && (x6 != (-1000000000000000))) && (x7.weight != (-1000000000000000))) with hb6 | hb6
                · refine QRun_bool ((((ibit .and .i64 (ishr .i64 s2.2 i2) 1) == 0) && (x6 != (-1000000000000000))) && (x7.weight != (-1000000000000000))) true (by kernel_rfl) (fun w => by kernel_rfl) hb6 ?_
                  have gx10 := (M.ite_some gx10).1 hb6
                  obtain ⟨x11, hx6, gx10⟩ := M.bind_some gx10
                  obtain ⟨hx6l, hx6u, hx6⟩ := M.idx_some hx6
                  have gx10 := M.ret_some gx10
                  refine QRun_b [.int .i64 x6, .pointer (some ⟨b1, 0, none⟩)] 15 _ (by kernel_rfl) (fun w => by kernel_rfl) ?_
                  refine QRun_y (.int .i64 x7.weight) (by kernel_rfl) (Y_load1 (t := 2) (p := ⟨b1, 0, none⟩) (v := .int .i64 x7.weight) (by kernel_rfl) (fun w => by kernel_rfl) (H10.cell 0 rfl rfl)) ?_
                  refine QRun_b [.int .i64 (w64 (x6 + x7.weight)), .slice a1 x1.length c1, .int .i64 s2.2] 18 _ (by kernel_rfl) (fun w => by kernel_rfl) ?_
                  refine QRun_y (.pointer (some (adr a1 (s2.2.toNat * 2)))) (by kernel_rfl) (Y_idx (t := 128) (e := 127) (sz := 2) (a := a1) (n := x1.length) (cap := c1) (kk := .i64) (i := s2.2) (by kernel_rfl) Try.underlying128 (by kernel_rfl) ((H10.rd 1 rfl).cell hx6).1 hx6l hx6u) ?_
                  refine QRun_b [.pointer (some ((adr a1 (s2.2.toNat * 2)).add 0))] 22 _ (by kernel_rfl) (fun w => by kernel_rfl) ?_
                  refine QRun_y (.int .i64 x11.weight) (by kernel_rfl) (Y_load1 (t := 2) (p := (adr a1 (s2.2.toNat * 2)).add 0) (v := .int .i64 x11.weight) (by kernel_rfl) (fun w => by kernel_rfl) (cd127_f0 (H10.rd 1 rfl) hx6)) ?_
                  refine QRun_b [.bool ((w64 (x6 + x7.weight)) == x11.weight)] 24 _ (by kernel_rfl) (fun w => by kernel_rfl) ?_
                  refine QRun_bool ((w64 (x6 + x7.weight)) == x11.weight) x10 (by kernel_rfl) (fun w => by kernel_rfl) gx10 ?_
                  exact QRun_done [4, 5, 6, 9, 19, 20, 21, 25, 26, 27, 64] (by kernel_rfl) (by kernel_rfl)
                · refine QRun_bool ((((ibit .and .i64 (ishr .i64 s2.2 i2) 1) == 0) && (x6 != (-1000000000000000))) && (x7.weight != (-1000000000000000))) false (by kernel_rfl) (fun w => by kernel_rfl) hb6 ?_
                  have gx10 := M.ret_some ((M.ite_some gx10).2 hb6)
                  refine QRun_n (by kernel_rfl) ?_
                  refine QRun_n (by kernel_rfl) ?_
                  refine QRun_n (by kernel_rfl) ?_
                  refine QRun_n (by kernel_rfl) ?_
                  refine QRun_n (by kernel_rfl) ?_
                  refine QRun_n (by kernel_rfl) ?_
                  refine QRun_n (by kernel_rfl) ?_
                  refine QRun_n (by kernel_rfl) ?_
                  refine QRun_n (by kernel_rfl) ?_
                  refine QRun_n (by kernel_rfl) ?_
                  refine QRun_bool false x10 (by kernel_rfl) (fun w => by kernel_rfl) gx10 ?_
                  exact QRun_done [4, 5, 6, 9, 19, 20, 21, 25, 26, 27, 64] (by kernel_rfl) (by kernel_rfl)
              exact QRun_done [4, 5, 6, 9, 19, 20, 21, 25, 26, 27, 64] (by kernel_rfl) (by kernel_rfl)
            refine Run_cond (b := x10) (by kernel_rfl) (fun hb7 => ?_) (fun hb7 => ?_)
            · have hB2 := (M.ite_some hB2).1 hb7
              refine Run_seq ?_
              refine Run_ops ?_
              refine Run_b [.slice a5 s2.1.length c5, .int .i64 i2] 0 _ (by kernel_rfl) (fun w => by kernel_rfl) ?_
              refine Run_E (by kernel_rfl) ?_
              refine E_lit (C := cd2) (n := 1) (l := ([i2] : List Int)) (cs := [.int .i64 i2]) H10 (fun w => by kernel_rfl) (Enc.consE (cd2_own i2 _) (Enc.nil _ _) rfl) rfl (by decide) (fun a7 h8 H11 => ?_)
              obtain ⟨l1, hl1, hB2⟩ := M.bind_some hB2
              have hl1 := M.app_some hl1
              have H12 : Hold h h8 [own cd2 a5 s2.1.length c5 s2.1, own cd2 a7 1 1 ([i2] : List Int), box b1 127 [.int .i64 x7.weight, .int .i64 x7.count], own cd127 a1 x1.length c1 x1] := H11.pick [3, 0, 1, 2] (by kernel_rfl)
              have H13 : Hold h h8 [own cd2 a7 1 1 ([i2] : List Int), own cd2 a5 s2.1.length c5 s2.1, box b1 127 [.int .i64 x7.weight, .int .i64 x7.count], own cd127 a1 x1.length c1 x1] := H12.pick [1, 0, 2, 3] (by kernel_rfl)
              have H14 : Hold h h8 [own cd2 a5 s2.1.length c5 s2.1, own cd2 a7 1 1 ([i2] : List Int), box b1 127 [.int .i64 x7.weight, .int .i64 x7.count], own cd127 a1 x1.length c1 x1] := H13.pick [1, 0, 2, 3] (by kernel_rfl)
              refine Run_E (by kernel_rfl) ?_
              refine E_app (C := cd2) (t := 39) (ty := 39) (n := s2.1.length) (m := 1) H14 cd2_ti rfl Try.underlying39 (by decide) (by kernel_rfl) hl1 (fun a8 c7 h9 H15 => ?_)
              refine Run_b [.slice a8 l1.length c7] 4 _ (by kernel_rfl) (fun w => by kernel_rfl) ?_
              refine Run_nil (by kernel_rfl) ?_
              refine Run_keep [4, 5, 6, 9, 19, 20, 21] (L' := [(4, .slice a1 x1.length c1), (5, .slice a8 l1.length c7), (6, .int .i64 s2.2), (9, .int .i64 i2), (19, .slice aa_ a_.length ca_), (20, .int .i64 (a_.length : Int)), (21, .int .i64 i1)]) (by kernel_rfl) ?_
              refine Run_seq ?_
              obtain ⟨u3, hz3, hB2⟩ := M.bind_some hB2
              have hz3 := M.guard_some hz3
              refine Run_reg 5 (by kernel_rfl) (L' := [(4, .slice a1 x1.length c1), (5, .slice a8 l1.length c7), (6, .int .i64 (ibit .or .i64 s2.2 (ishl .i64 1 i2))), (19, .slice aa_ a_.length ca_), (20, .int .i64 (a_.length : Int)), (21, .int .i64 i1)]) ?_ ?_
              · refine QRun_b [.int .i64 s2.2, .int .i64 i2] 0 _ (by kernel_rfl) (fun w => by kernel_rfl) ?_
                refine QRun_y (.int .i64 (ishl .i64 1 i2)) (by kernel_rfl) (Y_shl (k := .i64) (x := 1) (kk := .i64) (y := i2) (by kernel_rfl) hz3) ?_
                refine QRun_b [.int .i64 (ibit .or .i64 s2.2 (ishl .i64 1 i2)), .int .i64 (ibit .or .i64 s2.2 (ishl .i64 1 i2))] 3 _ (by kernel_rfl) (fun w => by kernel_rfl) ?_
                exact QRun_done [4, 5, 6, 19, 20, 21] (by kernel_rfl) (by kernel_rfl)
              refine Run_exit (k' := _) rfl ?_
              have H16 : Hold h h9 [own cd127 a1 x1.length c1 x1, own cd2 a8 l1.length c7 l1] := H15.pick [2, 0] (by kernel_rfl)
              have hB2 := M.ret_some hB2
              have gx5 := houty2 _ hB2.symm
              subst gx5
              exact Run_fall [4, 5, 6, 19, 20, 21] (by kernel_rfl) ⟨a8, c7, rfl, H16⟩
            · have hB2 := (M.ite_some hB2).2 hb7
              refine Run_skip ?_
              refine Run_blk ?_
              refine Run_reg 2 (by kernel_rfl) (L' := [(4, .slice a1 x1.length c1), (5, .slice a5 s2.1.length c5), (6, .int .i64 s2.2), (19, .slice aa_ a_.length ca_), (20, .int .i64 (a_.length : Int)), (21, .int .i64 i1), (25, .slice a4 x4.length c4), (26, .int .i64 (x4.length : Int)), (27, .int .i64 (i2 + 1))]) ?_ ?_
              · refine QRun_y (.int .i64 (i2 + 1)) (by kernel_rfl) (Y_eq (v := .int .i64 (w64 (i2 + 1))) (Y_pure (fun w => by kernel_rfl)) (by rw [w64_eq _ (by omega)])) ?_
                refine QRun_b [.int .i64 (i2 + 1)] 1 _ (by kernel_rfl) (fun w => by kernel_rfl) ?_
                exact QRun_done [4, 5, 6, 19, 20, 21, 25, 26, 27] (by kernel_rfl) (by kernel_rfl)
              have H17 : Hold h h7 [own cd2 a5 s2.1.length c5 s2.1, box b1 127 [.int .i64 x7.weight, .int .i64 x7.count], own cd127 a1 x1.length c1 x1] := H10.pick [2, 0, 1] (by kernel_rfl)
              have H18 : Hold h h7 [own cd127 a1 x1.length c1 x1, own cd2 a5 s2.1.length c5 s2.1] := H17.pick [2, 0] (by kernel_rfl)
              have hB2 := M.ret_some hB2
              have gx5 := hgoy2 _ hB2.symm
              exact Run_again [4, 5, 6, 19, 20, 21, 25, 26, 27] (by kernel_rfl) my2 (Nat.lt_succ_self _) ⟨i2 + 1, (s2.1, s2.2), a5, c5, by omega, gx5, rfl, H18⟩
          · have gx5 := M.for_end gx5 hb3
            subst gx5
            refine Run_exit (k' := _) rfl ?_
            have H19 : Hold h h4 [own cd2 a5 s2.1.length c5 s2.1, own cd127 a1 x1.length c1 x1] := H7.pick [1, 0] (by kernel_rfl)
            have H20 : Hold h h4 [own cd127 a1 x1.length c1 x1, own cd2 a5 s2.1.length c5 s2.1] := H19.pick [1, 0] (by kernel_rfl)
            exact Run_fall [4, 5, 6, 19, 20, 21] (by kernel_rfl) ⟨a5, c5, rfl, H20⟩
      · have gx3 := M.for_end gx3 hb2
        subst gx3
        refine Run_exit (k' := _) rfl ?_
        have H25 : Hold h h2 [own cd2 a2 s1.1.length c2 s1.1, own cd127 a1 x1.length c1 x1] := H5.pick [1, 0] (by kernel_rfl)
        have H26 : Hold h h2 [own cd2 a2 s1.1.length c2 s1.1] := H25.pick [0] (by kernel_rfl)
        exact Run_fall [5] (by kernel_rfl) ⟨a2, c2, rfl, H26⟩

set_option maxRecDepth 100000 in
set_option maxHeartbeats 4000000 in
theorem w_impl_BestAssignment (h : Heap) (a_ : List (List Int)) (aa_ : Option Addr) (ca_ : Nat) (ra_ : Rd cd39 h (Lt h) aa_ ca_ a_) (n : Nat) (r : (List Int) × Int) (hF : impl_BestAssignment a_ n = some r) :
    Fn Try.prog 54 #[.slice aa_ a_.length ca_] h fun v h' => ∃ (a0 : Option Addr) (c0 : Nat), v = .tuple #[.slice a0 r.1.length c0, .int .i64 r.2] ∧ Hold h h' [own cd2 a0 r.1.length c0 r.1] := by
  unfold impl_BestAssignment at hF
  refine Fn_enter (args := [.slice aa_ a_.length ca_]) Try.func54 rfl (by kernel_rfl) (by kernel_rfl) (fun w0 _ => ?_)
  have H0 := Hold.init h
  refine Run_seq ?_
  refine Run_reg 2 (by kernel_rfl) (L' := [(0, .slice aa_ a_.length ca_)]) ?_ ?_
  · refine QRun_b [.slice none 0 0, .int .i64 0] 0 _ (by kernel_rfl) (fun w => by kernel_rfl) ?_
    exact QRun_done [0] (by kernel_rfl) (by kernel_rfl)
  refine Run_seq ?_
  refine Run_seq ?_
  obtain ⟨x1, hx1, hF⟩ := M.bind_some hF
  refine Run_regC (j := 3) (C := fun x => Hold h x []) (by kernel_rfl) H0 (L' := [(0, .slice aa_ a_.length ca_), (8, .bool (!x1))]) ?_ (fun h1 H1 => ?_)
  · refine QRun_b [.slice aa_ a_.length ca_] 0 _ (by kernel_rfl) (fun w => by kernel_rfl) ?_
    refine QRun_y (.bool x1) (by kernel_rfl) (Y_call (f := 89) (args := #[.slice aa_ a_.length ca_]) (v := .bool x1) (by kernel_rfl) fun hx Hx => (w_impl_isSquare hx a_ aa_ ca_ (ra_.at Hx.ext) _ _ hx1).mono fun _ _ ⟨e, H'⟩ => ⟨e, Hx.call H' rfl⟩) ?_
    refine QRun_b [.bool (!x1)] 2 _ (by kernel_rfl) (fun w => by kernel_rfl) ?_
    exact QRun_done [0, 8] (by kernel_rfl) (by kernel_rfl)
  have H2 : Hold h h1 [] := H1
  refine Run_cond (b := !x1) (by kernel_rfl) (fun hb1 => ?_) (fun hb1 => ?_)
  · have hF := (M.ite_some hF).1 hb1
    refine Run_seq ?_
    refine Run_reg 2 (by kernel_rfl) (L' := [(2, .slice none 0 0), (3, .int .i64 1)]) ?_ ?_
    · refine QRun_b [.slice none 0 0, .int .i64 1] 0 _ (by kernel_rfl) (fun w => by kernel_rfl) ?_
      exact QRun_done [2, 3] (by kernel_rfl) (by kernel_rfl)
    have hF := M.ret_some hF
    subst hF
    have H3 := H2.empty cd2
    exact Run_ret2 rfl (ResV_tmp (v := .slice none 0 0) (by kernel_rfl)) (ResV_tmp (v := .int .i64 1) (by kernel_rfl)) ⟨none, 0, rfl, H3⟩
  · have hF := (M.ite_some hF).2 hb1
    refine Run_skip ?_
    refine Run_seq ?_
    refine Run_ops ?_
    refine Run_b [.slice aa_ a_.length ca_] 0 _ (by kernel_rfl) (fun w => by kernel_rfl) ?_
    obtain ⟨x2, hx2, hF⟩ := M.bind_some hF
    refine Run_E (by kernel_rfl) ?_
    refine E_call (f := 90) (args := #[.slice aa_ a_.length ca_]) (w_impl_bestAssignment h1 a_ aa_ ca_ (ra_.at H2.ext) _ _ hx2) (by kernel_rfl) (fun v1 h2 hp1 => ?_)
    obtain ⟨a1, c1, rfl, H4⟩ := hp1
    have H5 : Hold h h2 [own cd2 a1 x2.1.length c1 x2.1] := H2.call H4 rfl
    refine Run_b [.tuple #[.slice a1 x2.1.length c1, .bool x2.2], .slice a1 x2.1.length c1, .bool x2.2, .slice a1 x2.1.length c1, .bool x2.2] 2 _ (by kernel_rfl) (fun w => by kernel_rfl) ?_
    refine Run_nil (by kernel_rfl) ?_
    refine Run_keep [4, 5] (L' := [(4, .slice a1 x2.1.length c1), (5, .bool x2.2)]) (by kernel_rfl) ?_
    refine Run_seq ?_
    refine Run_seq ?_
    refine Run_reg 2 (by kernel_rfl) (L' := [(4, .slice a1 x2.1.length c1), (15, .bool (!x2.2))]) ?_ ?_
    · refine QRun_b [.bool x2.2, .bool (!x2.2)] 0 _ (by kernel_rfl) (fun w => by kernel_rfl) ?_
      exact QRun_done [4, 15] (by kernel_rfl) (by kernel_rfl)
    refine Run_cond (b := !x2.2) (by kernel_rfl) (fun hb2 => ?_) (fun hb2 => ?_)
    · have hF := (M.ite_some hF).1 hb2
      refine Run_seq ?_
      refine Run_reg 2 (by kernel_rfl) (L' := [(2, .slice none 0 0), (3, .int .i64 4)]) ?_ ?_
      · refine QRun_b [.slice none 0 0, .int .i64 4] 0 _ (by kernel_rfl) (fun w => by kernel_rfl) ?_
        exact QRun_done [2, 3] (by kernel_rfl) (by kernel_rfl)
      have hF := M.ret_some hF
      subst hF
      have H6 := H5.empty cd2
      have H7 : Hold h h2 [own cd2 none 0 0 []] := H6.pick [0] (by kernel_rfl)
      exact Run_ret2 rfl (ResV_tmp (v := .slice none 0 0) (by kernel_rfl)) (ResV_tmp (v := .int .i64 4) (by kernel_rfl)) ⟨none, 0, rfl, H7⟩
    · have hF := (M.ite_some hF).2 hb2
      refine Run_skip ?_
      refine Run_seq ?_
      refine Run_reg 3 (by kernel_rfl) (L' := [(2, .slice a1 x2.1.length c1), (3, .int .i64 0)]) ?_ ?_
      · refine QRun_b [.slice a1 x2.1.length c1, .slice a1 x2.1.length c1, .int .i64 0] 0 _ (by kernel_rfl) (fun w => by kernel_rfl) ?_
        exact QRun_done [2, 3] (by kernel_rfl) (by kernel_rfl)
      have hF := M.ret_some hF
      subst hF
      exact Run_ret2 rfl (ResV_tmp (v := .slice a1 x2.1.length c1) (by kernel_rfl)) (ResV_tmp (v := .int .i64 0) (by kernel_rfl)) ⟨a1, c1, rfl, H5⟩

set_option maxRecDepth 100000 in
set_option maxHeartbeats 4000000 in
theorem w_spec_l01In (h : Heap) (n_ : Int) (low : Int) (high : Int) (n : Nat) (r : Bool) (hF : spec_l01In n_ low high n = some r) :
    Fn Try.prog 78 #[.int .i64 n_, .int .i64 low, .int .i64 high] h fun v h' => v = .bool r ∧ h' = h := by
  unfold spec_l01In at hF
  refine Fn_enter (args := [.int .i64 n_, .int .i64 low, .int .i64 high]) Try.func78 rfl (by kernel_rfl) (by kernel_rfl) (fun w0 _ => ?_)
  refine Run_seq ?_
  refine Run_reg 1 (by kernel_rfl) (L' := [(0, .int .i64 n_), (1, .int .i64 low), (2, .int .i64 high)]) ?_ ?_
  · refine QRun_b [.bool false] 0 _ (by kernel_rfl) (fun w => by kernel_rfl) ?_
    exact QRun_done [0, 1, 2] (by kernel_rfl) (by kernel_rfl)
  refine Run_seq ?_
  refine Run_reg 9 (by kernel_rfl) (L' := [(6, .bool ((decide (low ≤ n_)) && (decide (n_ ≤ high))))]) ?_ ?_
  · refine QRun_b [.int .i64 n_, .int .i64 low, .bool (decide (low ≤ n_))] 0 _ (by kernel_rfl) (fun w => by kernel_rfl) ?_
    refine QRun_seq 8 [(14, .bool ((decide (low ≤ n_)) && (decide (n_ ≤ high))))] ?_ ?_
    · rcases Bool.eq_false_or_eq_true (decide (low ≤ n_)) with hb1 | hb1
      · refine QRun_bool (decide (low ≤ n_)) true (by kernel_rfl) (fun w => by kernel_rfl) hb1 ?_
        refine QRun_b [.int .i64 n_, .int .i64 high, .bool (decide (n_ ≤ high))] 4 _ (by kernel_rfl) (fun w => by kernel_rfl) ?_
        refine QRun_bool (decide (n_ ≤ high)) ((decide (low ≤ n_)) && (decide (n_ ≤ high))) (by kernel_rfl) (fun w => by kernel_rfl) (by rw [hb1]; rfl) ?_
        exact QRun_done [14] (by kernel_rfl) (by kernel_rfl)
      · refine QRun_bool (decide (low ≤ n_)) false (by kernel_rfl) (fun w => by kernel_rfl) hb1 ?_
        refine QRun_n (by kernel_rfl) ?_
        refine QRun_n (by kernel_rfl) ?_
        refine QRun_n (by kernel_rfl) ?_
        refine QRun_bool false ((decide (low ≤ n_)) && (decide (n_ ≤ high))) (by kernel_rfl) (fun w => by kernel_rfl) (by rw [hb1]; rfl) ?_
        exact QRun_done [14] (by kernel_rfl) (by kernel_rfl)
    refine QRun_b [.bool ((decide (low ≤ n_)) && (decide (n_ ≤ high)))] 8 _ (by kernel_rfl) (fun w => by kernel_rfl) ?_
    exact QRun_done [6] (by kernel_rfl) (by kernel_rfl)
  have hF := M.ret_some hF
  subst hF
  exact Run_ret1 rfl (ResV_tmp (v := .bool ((decide (low ≤ n_)) && (decide (n_ ≤ high)))) (by kernel_rfl)) ⟨rfl, rfl⟩

set_option maxRecDepth 100000 in
set_option maxHeartbeats 4000000 in
theorem w_spec_l01Finite (h : Heap) (a_ : Int) (n : Nat) (r : Bool) (hF : spec_l01Finite a_ n = some r) :
    Fn Try.prog 169 #[.int .i64 a_] h fun v h' => v = .bool r ∧ h' = h := by
  unfold spec_l01Finite at hF
  refine Fn_enter (args := [.int .i64 a_]) Try.func169 rfl (by kernel_rfl) (by kernel_rfl) (fun w0 _ => ?_)
  refine Run_seq ?_
  refine Run_reg 1 (by kernel_rfl) (L' := [(0, .int .i64 a_)]) ?_ ?_
  · refine QRun_b [.bool false] 0 _ (by kernel_rfl) (fun w => by kernel_rfl) ?_
    exact QRun_done [0] (by kernel_rfl) (by kernel_rfl)
  refine Run_seq ?_
  obtain ⟨x1, hx1, hF⟩ := M.bind_some hF
  refine Run_reg 3 (by kernel_rfl) (L' := [(2, .bool x1)]) ?_ ?_
  · refine QRun_b [.int .i64 a_] 0 _ (by kernel_rfl) (fun w => by kernel_rfl) ?_
    refine QRun_y (.bool x1) (by kernel_rfl) (Y_callq (f := 78) (args := #[.int .i64 a_, .int .i64 (-1000000), .int .i64 1000000]) (v := .bool x1) (by kernel_rfl) (w_spec_l01In h a_ (-1000000) 1000000 _ _ hx1)) ?_
    refine QRun_b [.bool x1] 2 _ (by kernel_rfl) (fun w => by kernel_rfl) ?_
    exact QRun_done [2] (by kernel_rfl) (by kernel_rfl)
  have hF := M.ret_some hF
  subst hF
  exact Run_ret1 rfl (ResV_tmp (v := .bool x1) (by kernel_rfl)) ⟨rfl, rfl⟩

set_option maxRecDepth 100000 in
set_option maxHeartbeats 4000000 in
theorem w_spec_IsValue (h : Heap) (a_ : Int) (n : Nat) (r : Bool) (hF : spec_IsValue a_ n = some r) :
    Fn Try.prog 153 #[.int .i64 a_] h fun v h' => v = .bool r ∧ h' = h := by
  unfold spec_IsValue at hF
  refine Fn_enter (args := [.int .i64 a_]) Try.func153 rfl (by kernel_rfl) (by kernel_rfl) (fun w0 _ => ?_)
  refine Run_seq ?_
  refine Run_reg 1 (by kernel_rfl) (L' := [(0, .int .i64 a_)]) ?_ ?_
  · refine QRun_b [.bool false] 0 _ (by kernel_rfl) (fun w => by kernel_rfl) ?_
    exact QRun_done [0] (by kernel_rfl) (by kernel_rfl)
  refine Run_seq ?_
  obtain ⟨x1, gx1, hF⟩ := M.bind_some hF
  refine Run_reg 7 (by kernel_rfl) (L' := [(2, .bool x1)]) ?_ ?_
  · refine QRun_b [.int .i64 a_, .bool (a_ == (-1000000000000000))] 0 _ (by kernel_rfl) (fun w => by kernel_rfl) ?_
    refine QRun_seq 6 [(8, .bool x1)] ?_ ?_
    · rcases Bool.eq_false_or_eq_true (a_ == (-1000000000000000)) with hb1 | hb1
      · refine QRun_bool (a_ == (-1000000000000000)) true (by kernel_rfl) (fun w => by kernel_rfl) hb1 ?_
        have gx1 := M.ret_some ((M.ite_some gx1).1 hb1)
        refine QRun_n (by kernel_rfl) ?_
        refine QRun_n (by kernel_rfl) ?_
        refine QRun_bool true x1 (by kernel_rfl) (fun w => by kernel_rfl) gx1 ?_
        exact QRun_done [8] (by kernel_rfl) (by kernel_rfl)
      · refine QRun_bool (a_ == (-1000000000000000)) false (by kernel_rfl) (fun w => by kernel_rfl) hb1 ?_
        have gx1 := (M.ite_some gx1).2 hb1
        obtain ⟨x2, hx1, gx1⟩ := M.bind_some gx1
        have gx1 := M.ret_some gx1
        refine QRun_b [.int .i64 a_] 3 _ (by kernel_rfl) (fun w => by kernel_rfl) ?_
        refine QRun_y (.bool x2) (by kernel_rfl) (Y_callq (f := 169) (args := #[.int .i64 a_]) (v := .bool x2) (by kernel_rfl) (w_spec_l01Finite h a_ _ _ hx1)) ?_
        refine QRun_bool x2 x1 (by kernel_rfl) (fun w => by kernel_rfl) gx1 ?_
        exact QRun_done [8] (by kernel_rfl) (by kernel_rfl)
    refine QRun_b [.bool x1] 6 _ (by kernel_rfl) (fun w => by kernel_rfl) ?_
    exact QRun_done [2] (by kernel_rfl) (by kernel_rfl)
  have hF := M.ret_some hF
  subst hF
  exact Run_ret1 rfl (ResV_tmp (v := .bool x1) (by kernel_rfl)) ⟨rfl, rfl⟩

set_option maxRecDepth 100000 in
set_option maxHeartbeats 4000000 in
theorem w_spec_l01All (h : Heap) (list : List Int) {Slist : Bs} (alist : Option Addr) (clist : Nat) (rlist : Rd cd2 h Slist alist clist list) (finite : Bool) (n : Nat) (r : Bool) (hF : spec_l01All list finite n = some r) :
    Fn Try.prog 87 #[.slice alist list.length clist, .bool finite] h fun v h' => v = .bool r ∧ h' = h := by
  unfold spec_l01All at hF
  refine Fn_enter (args := [.slice alist list.length clist, .bool finite]) Try.func87 rfl (by kernel_rfl) (by kernel_rfl) (fun w0 _ => ?_)
  refine Run_seq ?_
  refine Run_reg 1 (by kernel_rfl) (L' := [(0, .slice alist list.length clist), (1, .bool finite)]) ?_ ?_
  · refine QRun_b [.bool false] 0 _ (by kernel_rfl) (fun w => by kernel_rfl) ?_
    exact QRun_done [0, 1] (by kernel_rfl) (by kernel_rfl)
  refine Run_seq ?_
  refine Run_seq ?_
  refine Run_reg 1 (by kernel_rfl) (L' := [(0, .slice alist list.length clist), (1, .bool finite), (5, .int .i64 0)]) ?_ ?_
  · refine QRun_b [.int .i64 0] 0 _ (by kernel_rfl) (fun w => by kernel_rfl) ?_
    exact QRun_done [0, 1, 5] (by kernel_rfl) (by kernel_rfl)
  obtain ⟨x1, gx1, hF⟩ := M.bind_some hF
  obtain ⟨hloy1, hhiy1, gx1⟩ := M.for_start gx1
  refine Run_join (fun L' h' => ∃ (s2 : Unit), x1 = .inl s2 ∧ L' = [] ∧ h = h') ?_ ?_
  · rintro _ _ ⟨s2, es2, rfl, rfl⟩
    have hF := M.cont_inl' hF es2
    refine Run_seq ?_
    refine Run_reg 1 (by kernel_rfl) (L' := [(4, .bool true)]) ?_ ?_
    · refine QRun_b [.bool true] 0 _ (by kernel_rfl) (fun w => by kernel_rfl) ?_
      exact QRun_done [4] (by kernel_rfl) (by kernel_rfl)
    have hF := M.ret_some hF
    subst hF
    exact Run_ret1 rfl (ResV_tmp (v := .bool true) (by kernel_rfl)) ⟨rfl, rfl⟩
  · refine Run_block ?_
    refine Run_keep [0, 1, 5] (L' := [(0, .slice alist list.length clist), (1, .bool finite), (5, .int .i64 0)]) (by kernel_rfl) ?_
    refine Run_loop (fun m L' h' => ∃ (i1 : Int) (s1 : Unit), 0 ≤ i1 ∧ M.forN (list.length : Int) _ _ n m i1 s1 = some x1 ∧ L' = [(0, .slice alist list.length clist), (1, .bool finite), (5, .int .i64 i1)] ∧ h = h') ((list.length : Int) - 0 : Int).toNat ⟨0, (), Int.le_refl _, gx1, rfl, rfl⟩ ?_
    rintro my1 _ _ ⟨i1, s1, hloy1', gx1, rfl, rfl⟩
    refine Run_seq ?_
    refine Run_seq ?_
    refine Run_reg 4 (by kernel_rfl) (L' := [(0, .slice alist list.length clist), (1, .bool finite), (5, .int .i64 i1), (9, .bool (decide (i1 < (list.length : Int))))]) ?_ ?_
    · refine QRun_b [.int .i64 i1, .slice alist list.length clist, .int .i64 (list.length : Int), .bool (decide (i1 < (list.length : Int)))] 0 _ (by kernel_rfl) (fun w => by kernel_rfl) ?_
      exact QRun_done [0, 1, 5, 9] (by kernel_rfl) (by kernel_rfl)
    refine Run_cond (b := decide (i1 < (list.length : Int))) (by kernel_rfl) (fun hb1 => ?_) (fun hb1 => ?_)
    · obtain ⟨my1, y1, rfl, hB1, hgoy1, houty1⟩ := M.for_go gx1 hb1
      have hlty1 := of_decide_eq_true hb1
      refine Run_skip ?_
      refine Run_seq ?_
      refine Run_block ?_
      refine Run_seq ?_
      obtain ⟨x2, hx1, hB1⟩ := M.bind_some hB1
      obtain ⟨hx1l, hx1u, hx1⟩ := M.idx_some hx1
      obtain ⟨x3, hx2, hB1⟩ := M.bind_some hB1
      obtain ⟨x4, gx4, hB1⟩ := M.bind_some hB1
      refine Run_reg 16 (by kernel_rfl) (L' := [(0, .slice alist list.length clist), (1, .bool finite), (5, .int .i64 i1), (27, .bool x4)]) ?_ ?_
      · refine QRun_b [.slice alist list.length clist, .int .i64 i1] 0 _ (by kernel_rfl) (fun w => by kernel_rfl) ?_
        refine QRun_y (.pointer (some (adr alist (i1.toNat * 1)))) (by kernel_rfl) (Y_idx (t := 39) (e := 2) (sz := 1) (a := alist) (n := list.length) (cap := clist) (kk := .i64) (i := i1) (by kernel_rfl) Try.underlying39 (by kernel_rfl) (rlist.cell hx1).1 hx1l hx1u) ?_
        refine QRun_y (.int .i64 x2) (by kernel_rfl) (Y_load1 (t := 2) (p := adr alist (i1.toNat * 1)) (v := .int .i64 x2) (by kernel_rfl) (fun w => by kernel_rfl) (cd2_cell rlist hx1)) ?_
        refine QRun_y (.bool x3) (by kernel_rfl) (Y_callq (f := 153) (args := #[.int .i64 x2]) (v := .bool x3) (by kernel_rfl) (w_spec_IsValue h x2 _ _ hx2)) ?_
        refine QRun_b [.bool (!x3)] 5 _ (by kernel_rfl) (fun w => by kernel_rfl) ?_
        refine QRun_seq 16 [(0, .slice alist list.length clist), (1, .bool finite), (5, .int .i64 i1), (27, .bool x4)] ?_ ?_
        · rcases Bool.eq_false_or_eq_true (!x3) with hb2 | hb2
          · refine QRun_bool (!x3) true (by kernel_rfl) (fun w => by kernel_rfl) hb2 ?_
            have gx4 := M.ret_some ((M.ite_some gx4).1 hb2)
            refine QRun_n (by kernel_rfl) ?_
            refine QRun_n (by kernel_rfl) ?_
            refine QRun_n (by kernel_rfl) ?_
            refine QRun_n (by kernel_rfl) ?_
            refine QRun_n (by kernel_rfl) ?_
            refine QRun_n (by kernel_rfl) ?_
            refine QRun_n (by kernel_rfl) ?_
            refine QRun_n (by kernel_rfl) ?_
            refine QRun_bool true x4 (by kernel_rfl) (fun w => by kernel_rfl) gx4 ?_
            exact QRun_done [0, 1, 5, 27] (by kernel_rfl) (by kernel_rfl)
          · refine QRun_bool (!x3) false (by kernel_rfl) (fun w => by kernel_rfl) hb2 ?_
            have gx4 := (M.ite_some gx4).2 hb2
            obtain ⟨x5, gx5, gx4⟩ := M.bind_some gx4
            have gx4 := M.ret_some gx4
            refine QRun_b [.bool finite] 7 _ (by kernel_rfl) (fun w => by kernel_rfl) ?_
            refine QRun_seq 15 [(0, .slice alist list.length clist), (1, .bool finite), (5, .int .i64 i1), (18, .bool false), (26, .bool x5)] ?_ ?_
            · rcases Bool.eq_false_or_eq_true finite with hb3 | hb3
              · refine QRun_bool finite true (by kernel_rfl) (fun w => by kernel_rfl) hb3 ?_
                have gx5 := (M.ite_some gx5).1 hb3
                obtain ⟨x6, hx3, gx5⟩ := M.bind_some gx5
                obtain ⟨hx3l, hx3u, hx3⟩ := M.idx_some hx3
                have gx5 := M.ret_some gx5
                refine QRun_b [.slice alist list.length clist, .int .i64 i1] 9 _ (by kernel_rfl) (fun w => by kernel_rfl) ?_
                refine QRun_y (.pointer (some (adr alist (i1.toNat * 1)))) (by kernel_rfl) (Y_idx (t := 39) (e := 2) (sz := 1) (a := alist) (n := list.length) (cap := clist) (kk := .i64) (i := i1) (by kernel_rfl) Try.underlying39 (by kernel_rfl) (rlist.cell hx3).1 hx3l hx3u) ?_
                refine QRun_y (.int .i64 x6) (by kernel_rfl) (Y_load1 (t := 2) (p := adr alist (i1.toNat * 1)) (v := .int .i64 x6) (by kernel_rfl) (fun w => by kernel_rfl) (cd2_cell rlist hx3)) ?_
                refine QRun_b [.bool (x6 == (-1000000000000000))] 13 _ (by kernel_rfl) (fun w => by kernel_rfl) ?_
                refine QRun_bool (x6 == (-1000000000000000)) x5 (by kernel_rfl) (fun w => by kernel_rfl) gx5 ?_
                exact QRun_done [0, 1, 5, 18, 26] (by kernel_rfl) (by kernel_rfl)
              · refine QRun_bool finite false (by kernel_rfl) (fun w => by kernel_rfl) hb3 ?_
                have gx5 := M.ret_some ((M.ite_some gx5).2 hb3)
                refine QRun_n (by kernel_rfl) ?_
                refine QRun_n (by kernel_rfl) ?_
                refine QRun_n (by kernel_rfl) ?_
                refine QRun_n (by kernel_rfl) ?_
                refine QRun_n (by kernel_rfl) ?_
                refine QRun_bool false x5 (by kernel_rfl) (fun w => by kernel_rfl) gx5 ?_
                exact QRun_done [0, 1, 5, 18, 26] (by kernel_rfl) (by kernel_rfl)
            refine QRun_bool x5 x4 (by kernel_rfl) (fun w => by kernel_rfl) gx4 ?_
            exact QRun_done [0, 1, 5, 27] (by kernel_rfl) (by kernel_rfl)
        exact QRun_done [0, 1, 5, 27] (by kernel_rfl) (by kernel_rfl)
      refine Run_cond (b := x4) (by kernel_rfl) (fun hb4 => ?_) (fun hb4 => ?_)
      · have hB1 := (M.ite_some hB1).1 hb4
        refine Run_seq ?_
        refine Run_reg 1 (by kernel_rfl) (L' := [(4, .bool false)]) ?_ ?_
        · refine QRun_b [.bool false] 0 _ (by kernel_rfl) (fun w => by kernel_rfl) ?_
          exact QRun_done [4] (by kernel_rfl) (by kernel_rfl)
        have hB1 := M.ret_some hB1
        have gx1 := houty1 _ hB1.symm
        have hF := M.cont_inr' hF gx1
        have hF := M.ret_some hF
        subst hF
        exact Run_ret1 rfl (ResV_tmp (v := .bool false) (by kernel_rfl)) ⟨rfl, rfl⟩
      · have hB1 := (M.ite_some hB1).2 hb4
        refine Run_skip ?_
        refine Run_blk ?_
        refine Run_reg 3 (by kernel_rfl) (L' := [(0, .slice alist list.length clist), (1, .bool finite), (5, .int .i64 (i1 + 1))]) ?_ ?_
        · refine QRun_b [.int .i64 i1] 0 _ (by kernel_rfl) (fun w => by kernel_rfl) ?_
          refine QRun_y (.int .i64 (i1 + 1)) (by kernel_rfl) (Y_eq (v := .int .i64 (w64 (i1 + 1))) (Y_pure (fun w => by kernel_rfl)) (by rw [w64_eq _ (by omega)])) ?_
          refine QRun_b [.int .i64 (i1 + 1)] 2 _ (by kernel_rfl) (fun w => by kernel_rfl) ?_
          exact QRun_done [0, 1, 5] (by kernel_rfl) (by kernel_rfl)
        have hB1 := M.ret_some hB1
        have gx1 := hgoy1 _ hB1.symm
        exact Run_again [0, 1, 5] (by kernel_rfl) my1 (Nat.lt_succ_self _) ⟨i1 + 1, (), by omega, gx1, rfl, rfl⟩
    · have gx1 := M.for_end gx1 hb1
      subst gx1
      refine Run_exit (k' := _) rfl ?_
      exact Run_fall [] (by kernel_rfl) ⟨(), rfl, rfl, rfl⟩

set_option maxRecDepth 100000 in
set_option maxHeartbeats 4000000 in
theorem w_spec_l02Vector (h : Heap) (x_ : List Int) {Sx_ : Bs} (ax_ : Option Addr) (cx_ : Nat) (rx_ : Rd cd2 h Sx_ ax_ cx_ x_) (n : Nat) (r : Bool) (hF : spec_l02Vector x_ n = some r) :
    Fn Try.prog 175 #[.slice ax_ x_.length cx_] h fun v h' => v = .bool r ∧ h' = h := by
  unfold spec_l02Vector at hF
  refine Fn_enter (args := [.slice ax_ x_.length cx_]) Try.func175 rfl (by kernel_rfl) (by kernel_rfl) (fun w0 _ => ?_)
  refine Run_seq ?_
  refine Run_reg 1 (by kernel_rfl) (L' := [(0, .slice ax_ x_.length cx_)]) ?_ ?_
  · refine QRun_b [.bool false] 0 _ (by kernel_rfl) (fun w => by kernel_rfl) ?_
    exact QRun_done [0] (by kernel_rfl) (by kernel_rfl)
  refine Run_seq ?_
  obtain ⟨x1, hx1, hF⟩ := M.bind_some hF
  obtain ⟨x2, gx2, hF⟩ := M.bind_some hF
  refine Run_reg 8 (by kernel_rfl) (L' := [(2, .bool x2)]) ?_ ?_
  · refine QRun_b [.slice ax_ x_.length cx_, .int .i64 (x_.length : Int)] 0 _ (by kernel_rfl) (fun w => by kernel_rfl) ?_
    refine QRun_y (.bool x1) (by kernel_rfl) (Y_callq (f := 78) (args := #[.int .i64 (x_.length : Int), .int .i64 1, .int .i64 10]) (v := .bool x1) (by kernel_rfl) (w_spec_l01In h (x_.length : Int) 1 10 _ _ hx1)) ?_
    refine QRun_seq 7 [(9, .bool x2)] ?_ ?_
    · rcases Bool.eq_false_or_eq_true x1 with hb1 | hb1
      · refine QRun_bool x1 true (by kernel_rfl) (fun w => by kernel_rfl) hb1 ?_
        have gx2 := (M.ite_some gx2).1 hb1
        obtain ⟨x3, hx2, gx2⟩ := M.bind_some gx2
        have gx2 := M.ret_some gx2
        refine QRun_b [.slice ax_ x_.length cx_] 4 _ (by kernel_rfl) (fun w => by kernel_rfl) ?_
        refine QRun_y (.bool x3) (by kernel_rfl) (Y_callq (f := 87) (args := #[.slice ax_ x_.length cx_, .bool false]) (v := .bool x3) (by kernel_rfl) (w_spec_l01All h x_ ax_ cx_ rx_ false _ _ hx2)) ?_
        refine QRun_bool x3 x2 (by kernel_rfl) (fun w => by kernel_rfl) gx2 ?_
        exact QRun_done [9] (by kernel_rfl) (by kernel_rfl)
      · refine QRun_bool x1 false (by kernel_rfl) (fun w => by kernel_rfl) hb1 ?_
        have gx2 := M.ret_some ((M.ite_some gx2).2 hb1)
        refine QRun_n (by kernel_rfl) ?_
        refine QRun_n (by kernel_rfl) ?_
        refine QRun_bool false x2 (by kernel_rfl) (fun w => by kernel_rfl) gx2 ?_
        exact QRun_done [9] (by kernel_rfl) (by kernel_rfl)
    refine QRun_b [.bool x2] 7 _ (by kernel_rfl) (fun w => by kernel_rfl) ?_
    exact QRun_done [2] (by kernel_rfl) (by kernel_rfl)
  have hF := M.ret_some hF
  subst hF
  exact Run_ret1 rfl (ResV_tmp (v := .bool x2) (by kernel_rfl)) ⟨rfl, rfl⟩

set_option maxRecDepth 100000 in
set_option maxHeartbeats 4000000 in
theorem w_spec_IsMatrix (h : Heap) (a_ : List (List Int)) {Sa_ : Bs} (aa_ : Option Addr) (ca_ : Nat) (ra_ : Rd cd39 h Sa_ aa_ ca_ a_) (n : Nat) (r : Bool) (hF : spec_IsMatrix a_ n = some r) :
    Fn Try.prog 148 #[.slice aa_ a_.length ca_] h fun v h' => v = .bool r ∧ h' = h := by
  unfold spec_IsMatrix at hF
  refine Fn_enter (args := [.slice aa_ a_.length ca_]) Try.func148 rfl (by kernel_rfl) (by kernel_rfl) (fun w0 _ => ?_)
  refine Run_seq ?_
  refine Run_reg 1 (by kernel_rfl) (L' := [(0, .slice aa_ a_.length ca_)]) ?_ ?_
  · refine QRun_b [.bool false] 0 _ (by kernel_rfl) (fun w => by kernel_rfl) ?_
    exact QRun_done [0] (by kernel_rfl) (by kernel_rfl)
  refine Run_seq ?_
  refine Run_seq ?_
  refine Run_reg 8 (by kernel_rfl) (L' := [(0, .slice aa_ a_.length ca_), (11, .bool ((decide ((a_.length : Int) < 1)) || (decide (10 < (a_.length : Int)))))]) ?_ ?_
  · refine QRun_b [.slice aa_ a_.length ca_, .int .i64 (a_.length : Int), .bool (decide ((a_.length : Int) < 1))] 0 _ (by kernel_rfl) (fun w => by kernel_rfl) ?_
    refine QRun_seq 8 [(0, .slice aa_ a_.length ca_), (11, .bool ((decide ((a_.length : Int) < 1)) || (decide (10 < (a_.length : Int)))))] ?_ ?_
    · rcases Bool.eq_false_or_eq_true (decide ((a_.length : Int) < 1)) with hb1 | hb1
      · refine QRun_bool (decide ((a_.length : Int) < 1)) true (by kernel_rfl) (fun w => by kernel_rfl) hb1 ?_
        refine QRun_n (by kernel_rfl) ?_
        refine QRun_n (by kernel_rfl) ?_
        refine QRun_n (by kernel_rfl) ?_
        refine QRun_bool true ((decide ((a_.length : Int) < 1)) || (decide (10 < (a_.length : Int)))) (by kernel_rfl) (fun w => by kernel_rfl) (by rw [hb1]; rfl) ?_
        exact QRun_done [0, 11] (by kernel_rfl) (by kernel_rfl)
      · refine QRun_bool (decide ((a_.length : Int) < 1)) false (by kernel_rfl) (fun w => by kernel_rfl) hb1 ?_
        refine QRun_b [.slice aa_ a_.length ca_, .int .i64 (a_.length : Int), .bool (decide (10 < (a_.length : Int)))] 4 _ (by kernel_rfl) (fun w => by kernel_rfl) ?_
        refine QRun_bool (decide (10 < (a_.length : Int))) ((decide ((a_.length : Int) < 1)) || (decide (10 < (a_.length : Int)))) (by kernel_rfl) (fun w => by kernel_rfl) (by rw [hb1]; rfl) ?_
        exact QRun_done [0, 11] (by kernel_rfl) (by kernel_rfl)
    exact QRun_done [0, 11] (by kernel_rfl) (by kernel_rfl)
  refine Run_cond (b := (decide ((a_.length : Int) < 1)) || (decide (10 < (a_.length : Int)))) (by kernel_rfl) (fun hb2 => ?_) (fun hb2 => ?_)
  · have hF := (M.ite_some hF).1 hb2
    refine Run_seq ?_
    refine Run_reg 1 (by kernel_rfl) (L' := [(2, .bool false)]) ?_ ?_
    · refine QRun_b [.bool false] 0 _ (by kernel_rfl) (fun w => by kernel_rfl) ?_
      exact QRun_done [2] (by kernel_rfl) (by kernel_rfl)
    have hF := M.ret_some hF
    subst hF
    exact Run_ret1 rfl (ResV_tmp (v := .bool false) (by kernel_rfl)) ⟨rfl, rfl⟩
  · have hF := (M.ite_some hF).2 hb2
    refine Run_skip ?_
    refine Run_seq ?_
    refine Run_seq ?_
    refine Run_reg 1 (by kernel_rfl) (L' := [(0, .slice aa_ a_.length ca_), (3, .int .i64 0)]) ?_ ?_
    · refine QRun_b [.int .i64 0] 0 _ (by kernel_rfl) (fun w => by kernel_rfl) ?_
      exact QRun_done [0, 3] (by kernel_rfl) (by kernel_rfl)
    obtain ⟨x2, gx2, hF⟩ := M.bind_some hF
    obtain ⟨hloy1, hhiy1, gx2⟩ := M.for_start gx2
    refine Run_join (fun L' h' => ∃ (s2 : Unit), x2 = .inl s2 ∧ L' = [] ∧ h = h') ?_ ?_
    · rintro _ _ ⟨s2, es2, rfl, rfl⟩
      have hF := M.cont_inl' hF es2
      refine Run_seq ?_
      refine Run_reg 1 (by kernel_rfl) (L' := [(2, .bool true)]) ?_ ?_
      · refine QRun_b [.bool true] 0 _ (by kernel_rfl) (fun w => by kernel_rfl) ?_
        exact QRun_done [2] (by kernel_rfl) (by kernel_rfl)
      have hF := M.ret_some hF
      subst hF
      exact Run_ret1 rfl (ResV_tmp (v := .bool true) (by kernel_rfl)) ⟨rfl, rfl⟩
    · refine Run_block ?_
      refine Run_keep [0, 3] (L' := [(0, .slice aa_ a_.length ca_), (3, .int .i64 0)]) (by kernel_rfl) ?_
      refine Run_loop (fun m L' h' => ∃ (i1 : Int) (s1 : Unit), 0 ≤ i1 ∧ M.forN (a_.length : Int) _ _ n m i1 s1 = some x2 ∧ L' = [(0, .slice aa_ a_.length ca_), (3, .int .i64 i1)] ∧ h = h') ((a_.length : Int) - 0 : Int).toNat ⟨0, (), Int.le_refl _, gx2, rfl, rfl⟩ ?_
      rintro my1 _ _ ⟨i1, s1, hloy1', gx2, rfl, rfl⟩
      refine Run_seq ?_
      refine Run_seq ?_
      refine Run_reg 4 (by kernel_rfl) (L' := [(0, .slice aa_ a_.length ca_), (3, .int .i64 i1), (15, .bool (decide (i1 < (a_.length : Int))))]) ?_ ?_
      · refine QRun_b [.int .i64 i1, .slice aa_ a_.length ca_, .int .i64 (a_.length : Int), .bool (decide (i1 < (a_.length : Int)))] 0 _ (by kernel_rfl) (fun w => by kernel_rfl) ?_
        exact QRun_done [0, 3, 15] (by kernel_rfl) (by kernel_rfl)
      refine Run_cond (b := decide (i1 < (a_.length : Int))) (by kernel_rfl) (fun hb3 => ?_) (fun hb3 => ?_)
      · obtain ⟨my1, y1, rfl, hB1, hgoy1, houty1⟩ := M.for_go gx2 hb3
        have hlty1 := of_decide_eq_true hb3
        refine Run_skip ?_
        refine Run_seq ?_
        refine Run_block ?_
        refine Run_seq ?_
        obtain ⟨x3, hx1, hB1⟩ := M.bind_some hB1
        obtain ⟨hx1l, hx1u, hx1⟩ := M.idx_some hx1
        obtain ⟨a1, c1, hc1, r1⟩ := ra_.row hx1
        obtain ⟨x4, hx2, hB1⟩ := M.bind_some hB1
        obtain ⟨x5, gx5, hB1⟩ := M.bind_some hB1
        refine Run_draw 18 mixed (by kernel_rfl) (by kernel_rfl) (L' := [(0, .slice aa_ a_.length ca_), (3, .int .i64 i1), (35, .bool x5)]) ?_ ?_
        · refine QRun_b [.slice aa_ a_.length ca_, .int .i64 i1] 0 _ (by kernel_rfl) (fun w => by kernel_rfl) ?_
          refine QRun_y (.pointer (some (adr aa_ (i1.toNat * 1)))) (by kernel_rfl) (Y_idx (t := 37) (e := 39) (sz := 1) (a := aa_) (n := a_.length) (cap := ca_) (kk := .i64) (i := i1) (by kernel_rfl) Try.underlying37 (by kernel_rfl) (ra_.cell hx1).1 hx1l hx1u) ?_
          refine QRun_y (.slice a1 x3.length c1) (by kernel_rfl) (Y_load1 (t := 39) (p := adr aa_ (i1.toNat * 1)) (v := .slice a1 x3.length c1) (by kernel_rfl) (fun w => by kernel_rfl) hc1) ?_
          refine QRun_y (.bool x4) (by kernel_rfl) (Y_callq (f := 175) (args := #[.slice a1 x3.length c1]) (v := .bool x4) (by kernel_rfl) (w_spec_l02Vector h x3 a1 c1 r1 _ _ hx2)) ?_
          refine QRun_b [.bool (!x4)] 5 _ (by kernel_rfl) (fun w => by kernel_rfl) ?_
          refine QRun_seq 18 [(0, .slice aa_ a_.length ca_), (3, .int .i64 i1), (35, .bool x5)] ?_ ?_
          · rcases Bool.eq_false_or_eq_true (!x4) with hb4 | hb4
            · refine QRun_bool (!x4) true (by kernel_rfl) (fun w => by kernel_rfl) hb4 ?_
              have gx5 := M.ret_some ((M.ite_some gx5).1 hb4)
              refine QRun_n (by kernel_rfl) ?_
              refine QRun_n (by kernel_rfl) ?_
              refine QRun_n (by kernel_rfl) ?_
              refine QRun_n (by kernel_rfl) ?_
              refine QRun_n (by kernel_rfl) ?_
              refine QRun_n (by kernel_rfl) ?_
              refine QRun_n (by kernel_rfl) ?_
              refine QRun_n (by kernel_rfl) ?_
              refine QRun_n (by kernel_rfl) ?_
              refine QRun_n (by kernel_rfl) ?_
              refine QRun_bool true x5 (by kernel_rfl) (fun w => by kernel_rfl) gx5 ?_
              exact QRun_done [0, 3, 35] (by kernel_rfl) (by kernel_rfl)
            · refine QRun_bool (!x4) false (by kernel_rfl) (fun w => by kernel_rfl) hb4 ?_
              have gx5 := (M.ite_some gx5).2 hb4
              obtain ⟨x6, hx3, gx5⟩ := M.bind_some gx5
              obtain ⟨hx3l, hx3u, hx3⟩ := M.idx_some hx3
              obtain ⟨a2, c2, hc2, r2⟩ := ra_.row hx3
              obtain ⟨x7, hx4, gx5⟩ := M.bind_some gx5
              obtain ⟨hx4l, hx4u, hx4⟩ := M.idx_some hx4
              obtain ⟨a3, c3, hc3, r3⟩ := ra_.row hx4
              have gx5 := M.ret_some gx5
              refine QRun_b [.slice aa_ a_.length ca_, .int .i64 i1] 7 _ (by kernel_rfl) (fun w => by kernel_rfl) ?_
              refine QRun_y (.pointer (some (adr aa_ (i1.toNat * 1)))) (by kernel_rfl) (Y_idx (t := 37) (e := 39) (sz := 1) (a := aa_) (n := a_.length) (cap := ca_) (kk := .i64) (i := i1) (by kernel_rfl) Try.underlying37 (by kernel_rfl) (ra_.cell hx3).1 hx3l hx3u) ?_
              refine QRun_y (.slice a2 x6.length c2) (by kernel_rfl) (Y_load1 (t := 39) (p := adr aa_ (i1.toNat * 1)) (v := .slice a2 x6.length c2) (by kernel_rfl) (fun w => by kernel_rfl) hc2) ?_
              refine QRun_b [.int .i64 (x6.length : Int), .slice aa_ a_.length ca_] 11 _ (by kernel_rfl) (fun w => by kernel_rfl) ?_
              refine QRun_y (.pointer (some (adr aa_ (0 * 1)))) (by kernel_rfl) (Y_idx (t := 37) (e := 39) (sz := 1) (a := aa_) (n := a_.length) (cap := ca_) (kk := .i64) (i := 0) (by kernel_rfl) Try.underlying37 (by kernel_rfl) (ra_.cell hx4).1 hx4l hx4u) ?_
              refine QRun_y (.slice a3 x7.length c3) (by kernel_rfl) (Y_load1 (t := 39) (p := adr aa_ (0 * 1)) (v := .slice a3 x7.length c3) (by kernel_rfl) (fun w => by kernel_rfl) hc3) ?_
              refine QRun_b [.int .i64 (x7.length : Int), .bool ((x6.length : Int) != (x7.length : Int))] 15 _ (by kernel_rfl) (fun w => by kernel_rfl) ?_
              refine QRun_bool ((x6.length : Int) != (x7.length : Int)) x5 (by kernel_rfl) (fun w => by kernel_rfl) gx5 ?_
              exact QRun_done [0, 3, 35] (by kernel_rfl) (by kernel_rfl)
          exact QRun_done [0, 3, 35] (by kernel_rfl) (by kernel_rfl)
        refine Run_cond (b := x5) (by kernel_rfl) (fun hb5 => ?_) (fun hb5 => ?_)
        · have hB1 := (M.ite_some hB1).1 hb5
          refine Run_seq ?_
          refine Run_reg 1 (by kernel_rfl) (L' := [(2, .bool false)]) ?_ ?_
          · refine QRun_b [.bool false] 0 _ (by kernel_rfl) (fun w => by kernel_rfl) ?_
            exact QRun_done [2] (by kernel_rfl) (by kernel_rfl)
          have hB1 := M.ret_some hB1
          have gx2 := houty1 _ hB1.symm
          have hF := M.cont_inr' hF gx2
          have hF := M.ret_some hF
          subst hF
          exact Run_ret1 rfl (ResV_tmp (v := .bool false) (by kernel_rfl)) ⟨rfl, rfl⟩
        · have hB1 := (M.ite_some hB1).2 hb5
          refine Run_skip ?_
          refine Run_blk ?_
          refine Run_reg 3 (by kernel_rfl) (L' := [(0, .slice aa_ a_.length ca_), (3, .int .i64 (i1 + 1))]) ?_ ?_
          · refine QRun_b [.int .i64 i1] 0 _ (by kernel_rfl) (fun w => by kernel_rfl) ?_
            refine QRun_y (.int .i64 (i1 + 1)) (by kernel_rfl) (Y_eq (v := .int .i64 (w64 (i1 + 1))) (Y_pure (fun w => by kernel_rfl)) (by rw [w64_eq _ (by omega)])) ?_
            refine QRun_b [.int .i64 (i1 + 1)] 2 _ (by kernel_rfl) (fun w => by kernel_rfl) ?_
            exact QRun_done [0, 3] (by kernel_rfl) (by kernel_rfl)
          have hB1 := M.ret_some hB1
          have gx2 := hgoy1 _ hB1.symm
          exact Run_again [0, 3] (by kernel_rfl) my1 (Nat.lt_succ_self _) ⟨i1 + 1, (), by omega, gx2, rfl, rfl⟩
      · have gx2 := M.for_end gx2 hb3
        subst gx2
        refine Run_exit (k' := _) rfl ?_
        exact Run_fall [] (by kernel_rfl) ⟨(), rfl, rfl, rfl⟩

set_option maxRecDepth 100000 in
set_option maxHeartbeats 4000000 in
theorem w_spec_l02Square (h : Heap) (a_ : List (List Int)) {Sa_ : Bs} (aa_ : Option Addr) (ca_ : Nat) (ra_ : Rd cd39 h Sa_ aa_ ca_ a_) (n : Nat) (r : Bool) (hF : spec_l02Square a_ n = some r) :
    Fn Try.prog 82 #[.slice aa_ a_.length ca_] h fun v h' => v = .bool r ∧ h' = h := by
  unfold spec_l02Square at hF
  refine Fn_enter (args := [.slice aa_ a_.length ca_]) Try.func82 rfl (by kernel_rfl) (by kernel_rfl) (fun w0 _ => ?_)
  refine Run_seq ?_
  refine Run_reg 1 (by kernel_rfl) (L' := [(0, .slice aa_ a_.length ca_)]) ?_ ?_
  · refine QRun_b [.bool false] 0 _ (by kernel_rfl) (fun w => by kernel_rfl) ?_
    exact QRun_done [0] (by kernel_rfl) (by kernel_rfl)
  refine Run_seq ?_
  obtain ⟨x1, hx1, hF⟩ := M.bind_some hF
  obtain ⟨x2, gx2, hF⟩ := M.bind_some hF
  refine Run_reg 12 (by kernel_rfl) (L' := [(2, .bool x2)]) ?_ ?_
  · refine QRun_b [.slice aa_ a_.length ca_] 0 _ (by kernel_rfl) (fun w => by kernel_rfl) ?_
    refine QRun_y (.bool x1) (by kernel_rfl) (Y_callq (f := 148) (args := #[.slice aa_ a_.length ca_]) (v := .bool x1) (by kernel_rfl) (w_spec_IsMatrix h a_ aa_ ca_ ra_ _ _ hx1)) ?_
    refine QRun_seq 11 [(13, .bool x2)] ?_ ?_
    · rcases Bool.eq_false_or_eq_true x1 with hb1 | hb1
      · refine QRun_bool x1 true (by kernel_rfl) (fun w => by kernel_rfl) hb1 ?_
        have gx2 := (M.ite_some gx2).1 hb1
        obtain ⟨x3, hx2, gx2⟩ := M.bind_some gx2
        obtain ⟨hx2l, hx2u, hx2⟩ := M.idx_some hx2
        obtain ⟨a1, c1, hc1, r1⟩ := ra_.row hx2
        have gx2 := M.ret_some gx2
        refine QRun_b [.slice aa_ a_.length ca_, .int .i64 (a_.length : Int), .slice aa_ a_.length ca_] 3 _ (by kernel_rfl) (fun w => by kernel_rfl) ?_
        refine QRun_y (.pointer (some (adr aa_ (0 * 1)))) (by kernel_rfl) (Y_idx (t := 37) (e := 39) (sz := 1) (a := aa_) (n := a_.length) (cap := ca_) (kk := .i64) (i := 0) (by kernel_rfl) Try.underlying37 (by kernel_rfl) (ra_.cell hx2).1 hx2l hx2u) ?_
        refine QRun_y (.slice a1 x3.length c1) (by kernel_rfl) (Y_load1 (t := 39) (p := adr aa_ (0 * 1)) (v := .slice a1 x3.length c1) (by kernel_rfl) (fun w => by kernel_rfl) hc1) ?_
        refine QRun_b [.int .i64 (x3.length : Int), .bool ((a_.length : Int) == (x3.length : Int))] 8 _ (by kernel_rfl) (fun w => by kernel_rfl) ?_
        refine QRun_bool ((a_.length : Int) == (x3.length : Int)) x2 (by kernel_rfl) (fun w => by kernel_rfl) gx2 ?_
        exact QRun_done [13] (by kernel_rfl) (by kernel_rfl)
      · refine QRun_bool x1 false (by kernel_rfl) (fun w => by kernel_rfl) hb1 ?_
        have gx2 := M.ret_some ((M.ite_some gx2).2 hb1)
        refine QRun_n (by kernel_rfl) ?_
        refine QRun_n (by kernel_rfl) ?_
        refine QRun_n (by kernel_rfl) ?_
        refine QRun_n (by kernel_rfl) ?_
        refine QRun_n (by kernel_rfl) ?_
        refine QRun_n (by kernel_rfl) ?_
        refine QRun_n (by kernel_rfl) ?_
        refine QRun_bool false x2 (by kernel_rfl) (fun w => by kernel_rfl) gx2 ?_
        exact QRun_done [13] (by kernel_rfl) (by kernel_rfl)
    refine QRun_b [.bool x2] 11 _ (by kernel_rfl) (fun w => by kernel_rfl) ?_
    exact QRun_done [2] (by kernel_rfl) (by kernel_rfl)
  have hF := M.ret_some hF
  subst hF
  exact Run_ret1 rfl (ResV_tmp (v := .bool x2) (by kernel_rfl)) ⟨rfl, rfl⟩

set_option maxRecDepth 100000 in
set_option maxHeartbeats 4000000 in
theorem w_spec_l01Times (h : Heap) (a_ : Int) (b : Int) (n : Nat) (r : Int) (hF : spec_l01Times a_ b n = some r) :
    Fn Try.prog 117 #[.int .i64 a_, .int .i64 b] h fun v h' => v = .int .i64 r ∧ h' = h := by
  unfold spec_l01Times at hF
  refine Fn_enter (args := [.int .i64 a_, .int .i64 b]) Try.func117 rfl (by kernel_rfl) (by kernel_rfl) (fun w0 _ => ?_)
  refine Run_seq ?_
  refine Run_reg 1 (by kernel_rfl) (L' := [(0, .int .i64 a_), (1, .int .i64 b)]) ?_ ?_
  · refine QRun_b [.int .i64 0] 0 _ (by kernel_rfl) (fun w => by kernel_rfl) ?_
    exact QRun_done [0, 1] (by kernel_rfl) (by kernel_rfl)
  refine Run_seq ?_
  refine Run_seq ?_
  refine Run_reg 6 (by kernel_rfl) (L' := [(0, .int .i64 a_), (1, .int .i64 b), (10, .bool ((a_ == (-1000000000000000)) || (b == (-1000000000000000))))]) ?_ ?_
  · refine QRun_b [.int .i64 a_, .bool (a_ == (-1000000000000000))] 0 _ (by kernel_rfl) (fun w => by kernel_rfl) ?_
    refine QRun_seq 6 [(0, .int .i64 a_), (1, .int .i64 b), (10, .bool ((a_ == (-1000000000000000)) || (b == (-1000000000000000))))] ?_ ?_
    · rcases Bool.eq_false_or_eq_true (a_ == (-1000000000000000)) with hb1 | hb1
      · refine QRun_bool (a_ == (-1000000000000000)) true (by kernel_rfl) (fun w => by kernel_rfl) hb1 ?_
        refine QRun_n (by kernel_rfl) ?_
        refine QRun_n (by kernel_rfl) ?_
        refine QRun_bool true ((a_ == (-1000000000000000)) || (b == (-1000000000000000))) (by kernel_rfl) (fun w => by kernel_rfl) (by rw [hb1]; rfl) ?_
        exact QRun_done [0, 1, 10] (by kernel_rfl) (by kernel_rfl)
      · refine QRun_bool (a_ == (-1000000000000000)) false (by kernel_rfl) (fun w => by kernel_rfl) hb1 ?_
        refine QRun_b [.int .i64 b, .bool (b == (-1000000000000000))] 3 _ (by kernel_rfl) (fun w => by kernel_rfl) ?_
        refine QRun_bool (b == (-1000000000000000)) ((a_ == (-1000000000000000)) || (b == (-1000000000000000))) (by kernel_rfl) (fun w => by kernel_rfl) (by rw [hb1]; rfl) ?_
        exact QRun_done [0, 1, 10] (by kernel_rfl) (by kernel_rfl)
    exact QRun_done [0, 1, 10] (by kernel_rfl) (by kernel_rfl)
  refine Run_cond (b := (a_ == (-1000000000000000)) || (b == (-1000000000000000))) (by kernel_rfl) (fun hb2 => ?_) (fun hb2 => ?_)
  · have hF := (M.ite_some hF).1 hb2
    refine Run_seq ?_
    refine Run_reg 1 (by kernel_rfl) (L' := [(4, .int .i64 (-1000000000000000))]) ?_ ?_
    · refine QRun_b [.int .i64 (-1000000000000000)] 0 _ (by kernel_rfl) (fun w => by kernel_rfl) ?_
      exact QRun_done [4] (by kernel_rfl) (by kernel_rfl)
    have hF := M.ret_some hF
    subst hF
    exact Run_ret1 rfl (ResV_tmp (v := .int .i64 (-1000000000000000)) (by kernel_rfl)) ⟨rfl, rfl⟩
  · have hF := (M.ite_some hF).2 hb2
    refine Run_skip ?_
    refine Run_seq ?_
    refine Run_reg 4 (by kernel_rfl) (L' := [(4, .int .i64 (w64 (a_ + b)))]) ?_ ?_
    · refine QRun_b [.int .i64 a_, .int .i64 b, .int .i64 (w64 (a_ + b)), .int .i64 (w64 (a_ + b))] 0 _ (by kernel_rfl) (fun w => by kernel_rfl) ?_
      exact QRun_done [4] (by kernel_rfl) (by kernel_rfl)
    have hF := M.ret_some hF
    subst hF
    exact Run_ret1 rfl (ResV_tmp (v := .int .i64 (w64 (a_ + b))) (by kernel_rfl)) ⟨rfl, rfl⟩

end Go.Proofs.Ytipdgiljgbjjkaa
