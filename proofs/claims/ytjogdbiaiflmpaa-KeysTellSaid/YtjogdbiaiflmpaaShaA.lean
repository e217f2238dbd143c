/- SHA-2's rotations, walked. -/
import Derived.Test.YtjogdbiaiflmpaaOwn
import Derived.Test.YtjogdbiaiflmpaaProg
import Derived.OpenShut
namespace Go.Proofs.Ytjogdbiaiflmpaa
set_option linter.unusedVariables false
set_option linter.unusedSimpArgs false
open Go.RowKit Go.Proofs.YtjogdbiaiflmpaaL

/-- x turned right by k bits. -/
def rr32 (x : Int) (k : Nat) : Int := bits .or .u32 (x / 2 ^ k) (x * 2 ^ (32 - k) % 4294967296)
def rr64 (x : Int) (k : Nat) : Int := bits .or .u64 (x / 2 ^ k) (IntKind.u64.wrap (x * 2 ^ (64 - k)))
theorem bits_or_comm (k : IntKind) (x y : Int) : bits .or k x y = bits .or k y x := by
  simp only [bits]
  rw [BitVec.or_comm]
theorem bits_range32 (op : BinOp) (x y : Int) : 0 ≤ bits op .u32 x y ∧ bits op .u32 x y < 4294967296 := wf_u32_range (wf_bits op .u32 x y)
theorem bits_range64 (op : BinOp) (x y : Int) : 0 ≤ bits op .u64 x y ∧ bits op .u64 x y < 18446744073709551616 := wf_u64_range (wf_bits op .u64 x y)
theorem rr32_range (x : Int) (k : Nat) : 0 ≤ rr32 x k ∧ rr32 x k < 4294967296 := bits_range32 _ _ _
theorem rr64_range (x : Int) (k : Nat) : 0 ≤ rr64 x k ∧ rr64 x k < 18446744073709551616 := bits_range64 _ _ _

set_option maxHeartbeats 400000 in
theorem rotl32_7 (x : Int) (h0 : 0 ≤ x) (h1 : x < 4294967296) (w : World) :
    Calls Try.prog 28 #[.int .u32 x, .int .i64 (-7)] w fun e w' => e = .returned (.int .u32 (rr32 x 7)) ∧ w' = w := by
  have hk : bits .and .u64 (IntKind.u64.wrap (-7)) 31 = 25 := by kernel_rfl
  have hc : bits .or .u32 (x * 33554432 % 4294967296) (x / 128) = rr32 x 7 := bits_or_comm _ _ _
  go_enter Try.func28, Try.ntmps28
  go_wp2
  go_ret
  exact ⟨ret_int rfl, rfl⟩

set_option maxHeartbeats 400000 in
theorem rot32_7 (x : Int) (h0 : 0 ≤ x) (h1 : x < 4294967296) (w : World) :
    Calls Try.prog 21 #[.int .u32 x, .int .i64 7] w fun e w' => e = .returned (.int .u32 (rr32 x 7)) ∧ Drawn w w' := by
  have hc : bits .or .u32 (x / 128) (x * 33554432 % 4294967296) = rr32 x 7 := rfl
  go_enter Try.func21, Try.ntmps21
  go_wp2
  go_quiet (fail)
  go_wp2
  go_ret
  exact ⟨ret_int rfl, drawn_drewN _ _⟩

set_option maxHeartbeats 400000 in
theorem rotl32_18 (x : Int) (h0 : 0 ≤ x) (h1 : x < 4294967296) (w : World) :
    Calls Try.prog 28 #[.int .u32 x, .int .i64 (-18)] w fun e w' => e = .returned (.int .u32 (rr32 x 18)) ∧ w' = w := by
  have hk : bits .and .u64 (IntKind.u64.wrap (-18)) 31 = 14 := by kernel_rfl
  have hc : bits .or .u32 (x * 16384 % 4294967296) (x / 262144) = rr32 x 18 := bits_or_comm _ _ _
  go_enter Try.func28, Try.ntmps28
  go_wp2
  go_ret
  exact ⟨ret_int rfl, rfl⟩

set_option maxHeartbeats 400000 in
theorem rot32_18 (x : Int) (h0 : 0 ≤ x) (h1 : x < 4294967296) (w : World) :
    Calls Try.prog 21 #[.int .u32 x, .int .i64 18] w fun e w' => e = .returned (.int .u32 (rr32 x 18)) ∧ Drawn w w' := by
  have hc : bits .or .u32 (x / 262144) (x * 16384 % 4294967296) = rr32 x 18 := rfl
  go_enter Try.func21, Try.ntmps21
  go_wp2
  go_quiet (fail)
  go_wp2
  go_ret
  exact ⟨ret_int rfl, drawn_drewN _ _⟩

set_option maxHeartbeats 400000 in
theorem rotl32_17 (x : Int) (h0 : 0 ≤ x) (h1 : x < 4294967296) (w : World) :
    Calls Try.prog 28 #[.int .u32 x, .int .i64 (-17)] w fun e w' => e = .returned (.int .u32 (rr32 x 17)) ∧ w' = w := by
  have hk : bits .and .u64 (IntKind.u64.wrap (-17)) 31 = 15 := by kernel_rfl
  have hc : bits .or .u32 (x * 32768 % 4294967296) (x / 131072) = rr32 x 17 := bits_or_comm _ _ _
  go_enter Try.func28, Try.ntmps28
  go_wp2
  go_ret
  exact ⟨ret_int rfl, rfl⟩

set_option maxHeartbeats 400000 in
theorem rot32_17 (x : Int) (h0 : 0 ≤ x) (h1 : x < 4294967296) (w : World) :
    Calls Try.prog 21 #[.int .u32 x, .int .i64 17] w fun e w' => e = .returned (.int .u32 (rr32 x 17)) ∧ Drawn w w' := by
  have hc : bits .or .u32 (x / 131072) (x * 32768 % 4294967296) = rr32 x 17 := rfl
  go_enter Try.func21, Try.ntmps21
  go_wp2
  go_quiet (fail)
  go_wp2
  go_ret
  exact ⟨ret_int rfl, drawn_drewN _ _⟩

set_option maxHeartbeats 400000 in
theorem rotl32_19 (x : Int) (h0 : 0 ≤ x) (h1 : x < 4294967296) (w : World) :
    Calls Try.prog 28 #[.int .u32 x, .int .i64 (-19)] w fun e w' => e = .returned (.int .u32 (rr32 x 19)) ∧ w' = w := by
  have hk : bits .and .u64 (IntKind.u64.wrap (-19)) 31 = 13 := by kernel_rfl
  have hc : bits .or .u32 (x * 8192 % 4294967296) (x / 524288) = rr32 x 19 := bits_or_comm _ _ _
  go_enter Try.func28, Try.ntmps28
  go_wp2
  go_ret
  exact ⟨ret_int rfl, rfl⟩

set_option maxHeartbeats 400000 in
theorem rot32_19 (x : Int) (h0 : 0 ≤ x) (h1 : x < 4294967296) (w : World) :
    Calls Try.prog 21 #[.int .u32 x, .int .i64 19] w fun e w' => e = .returned (.int .u32 (rr32 x 19)) ∧ Drawn w w' := by
  have hc : bits .or .u32 (x / 524288) (x * 8192 % 4294967296) = rr32 x 19 := rfl
  go_enter Try.func21, Try.ntmps21
  go_wp2
  go_quiet (fail)
  go_wp2
  go_ret
  exact ⟨ret_int rfl, drawn_drewN _ _⟩

set_option maxHeartbeats 400000 in
theorem rotl32_6 (x : Int) (h0 : 0 ≤ x) (h1 : x < 4294967296) (w : World) :
    Calls Try.prog 28 #[.int .u32 x, .int .i64 (-6)] w fun e w' => e = .returned (.int .u32 (rr32 x 6)) ∧ w' = w := by
  have hk : bits .and .u64 (IntKind.u64.wrap (-6)) 31 = 26 := by kernel_rfl
  have hc : bits .or .u32 (x * 67108864 % 4294967296) (x / 64) = rr32 x 6 := bits_or_comm _ _ _
  go_enter Try.func28, Try.ntmps28
  go_wp2
  go_ret
  exact ⟨ret_int rfl, rfl⟩

set_option maxHeartbeats 400000 in
theorem rot32_6 (x : Int) (h0 : 0 ≤ x) (h1 : x < 4294967296) (w : World) :
    Calls Try.prog 21 #[.int .u32 x, .int .i64 6] w fun e w' => e = .returned (.int .u32 (rr32 x 6)) ∧ Drawn w w' := by
  have hc : bits .or .u32 (x / 64) (x * 67108864 % 4294967296) = rr32 x 6 := rfl
  go_enter Try.func21, Try.ntmps21
  go_wp2
  go_quiet (fail)
  go_wp2
  go_ret
  exact ⟨ret_int rfl, drawn_drewN _ _⟩

set_option maxHeartbeats 400000 in
theorem rotl32_11 (x : Int) (h0 : 0 ≤ x) (h1 : x < 4294967296) (w : World) :
    Calls Try.prog 28 #[.int .u32 x, .int .i64 (-11)] w fun e w' => e = .returned (.int .u32 (rr32 x 11)) ∧ w' = w := by
  have hk : bits .and .u64 (IntKind.u64.wrap (-11)) 31 = 21 := by kernel_rfl
  have hc : bits .or .u32 (x * 2097152 % 4294967296) (x / 2048) = rr32 x 11 := bits_or_comm _ _ _
  go_enter Try.func28, Try.ntmps28
  go_wp2
  go_ret
  exact ⟨ret_int rfl, rfl⟩

set_option maxHeartbeats 400000 in
theorem rot32_11 (x : Int) (h0 : 0 ≤ x) (h1 : x < 4294967296) (w : World) :
    Calls Try.prog 21 #[.int .u32 x, .int .i64 11] w fun e w' => e = .returned (.int .u32 (rr32 x 11)) ∧ Drawn w w' := by
  have hc : bits .or .u32 (x / 2048) (x * 2097152 % 4294967296) = rr32 x 11 := rfl
  go_enter Try.func21, Try.ntmps21
  go_wp2
  go_quiet (fail)
  go_wp2
  go_ret
  exact ⟨ret_int rfl, drawn_drewN _ _⟩

set_option maxHeartbeats 400000 in
theorem rotl32_25 (x : Int) (h0 : 0 ≤ x) (h1 : x < 4294967296) (w : World) :
    Calls Try.prog 28 #[.int .u32 x, .int .i64 (-25)] w fun e w' => e = .returned (.int .u32 (rr32 x 25)) ∧ w' = w := by
  have hk : bits .and .u64 (IntKind.u64.wrap (-25)) 31 = 7 := by kernel_rfl
  have hc : bits .or .u32 (x * 128 % 4294967296) (x / 33554432) = rr32 x 25 := bits_or_comm _ _ _
  go_enter Try.func28, Try.ntmps28
  go_wp2
  go_ret
  exact ⟨ret_int rfl, rfl⟩

set_option maxHeartbeats 400000 in
theorem rot32_25 (x : Int) (h0 : 0 ≤ x) (h1 : x < 4294967296) (w : World) :
    Calls Try.prog 21 #[.int .u32 x, .int .i64 25] w fun e w' => e = .returned (.int .u32 (rr32 x 25)) ∧ Drawn w w' := by
  have hc : bits .or .u32 (x / 33554432) (x * 128 % 4294967296) = rr32 x 25 := rfl
  go_enter Try.func21, Try.ntmps21
  go_wp2
  go_quiet (fail)
  go_wp2
  go_ret
  exact ⟨ret_int rfl, drawn_drewN _ _⟩

set_option maxHeartbeats 400000 in
theorem rotl32_2 (x : Int) (h0 : 0 ≤ x) (h1 : x < 4294967296) (w : World) :
    Calls Try.prog 28 #[.int .u32 x, .int .i64 (-2)] w fun e w' => e = .returned (.int .u32 (rr32 x 2)) ∧ w' = w := by
  have hk : bits .and .u64 (IntKind.u64.wrap (-2)) 31 = 30 := by kernel_rfl
  have hc : bits .or .u32 (x * 1073741824 % 4294967296) (x / 4) = rr32 x 2 := bits_or_comm _ _ _
  go_enter Try.func28, Try.ntmps28
  go_wp2
  go_ret
  exact ⟨ret_int rfl, rfl⟩

set_option maxHeartbeats 400000 in
theorem rot32_2 (x : Int) (h0 : 0 ≤ x) (h1 : x < 4294967296) (w : World) :
    Calls Try.prog 21 #[.int .u32 x, .int .i64 2] w fun e w' => e = .returned (.int .u32 (rr32 x 2)) ∧ Drawn w w' := by
  have hc : bits .or .u32 (x / 4) (x * 1073741824 % 4294967296) = rr32 x 2 := rfl
  go_enter Try.func21, Try.ntmps21
  go_wp2
  go_quiet (fail)
  go_wp2
  go_ret
  exact ⟨ret_int rfl, drawn_drewN _ _⟩

set_option maxHeartbeats 400000 in
theorem rotl32_13 (x : Int) (h0 : 0 ≤ x) (h1 : x < 4294967296) (w : World) :
    Calls Try.prog 28 #[.int .u32 x, .int .i64 (-13)] w fun e w' => e = .returned (.int .u32 (rr32 x 13)) ∧ w' = w := by
  have hk : bits .and .u64 (IntKind.u64.wrap (-13)) 31 = 19 := by kernel_rfl
  have hc : bits .or .u32 (x * 524288 % 4294967296) (x / 8192) = rr32 x 13 := bits_or_comm _ _ _
  go_enter Try.func28, Try.ntmps28
  go_wp2
  go_ret
  exact ⟨ret_int rfl, rfl⟩

set_option maxHeartbeats 400000 in
theorem rot32_13 (x : Int) (h0 : 0 ≤ x) (h1 : x < 4294967296) (w : World) :
    Calls Try.prog 21 #[.int .u32 x, .int .i64 13] w fun e w' => e = .returned (.int .u32 (rr32 x 13)) ∧ Drawn w w' := by
  have hc : bits .or .u32 (x / 8192) (x * 524288 % 4294967296) = rr32 x 13 := rfl
  go_enter Try.func21, Try.ntmps21
  go_wp2
  go_quiet (fail)
  go_wp2
  go_ret
  exact ⟨ret_int rfl, drawn_drewN _ _⟩

set_option maxHeartbeats 400000 in
theorem rotl32_22 (x : Int) (h0 : 0 ≤ x) (h1 : x < 4294967296) (w : World) :
    Calls Try.prog 28 #[.int .u32 x, .int .i64 (-22)] w fun e w' => e = .returned (.int .u32 (rr32 x 22)) ∧ w' = w := by
  have hk : bits .and .u64 (IntKind.u64.wrap (-22)) 31 = 10 := by kernel_rfl
  have hc : bits .or .u32 (x * 1024 % 4294967296) (x / 4194304) = rr32 x 22 := bits_or_comm _ _ _
  go_enter Try.func28, Try.ntmps28
  go_wp2
  go_ret
  exact ⟨ret_int rfl, rfl⟩

set_option maxHeartbeats 400000 in
theorem rot32_22 (x : Int) (h0 : 0 ≤ x) (h1 : x < 4294967296) (w : World) :
    Calls Try.prog 21 #[.int .u32 x, .int .i64 22] w fun e w' => e = .returned (.int .u32 (rr32 x 22)) ∧ Drawn w w' := by
  have hc : bits .or .u32 (x / 4194304) (x * 1024 % 4294967296) = rr32 x 22 := rfl
  go_enter Try.func21, Try.ntmps21
  go_wp2
  go_quiet (fail)
  go_wp2
  go_ret
  exact ⟨ret_int rfl, drawn_drewN _ _⟩

end Go.Proofs.Ytjogdbiaiflmpaa
