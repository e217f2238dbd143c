/- SHA-2's rotations, walked. -/
import Derived.Test.YtncdbgpmhkiedaaOwn
import Derived.Test.YtncdbgpmhkiedaaProg
import Derived.OpenShut
namespace Go.Proofs.Ytncdbgpmhkiedaa
set_option linter.unusedVariables false
set_option linter.unusedSimpArgs false
open Go.RowKit Go.Proofs.YtncdbgpmhkiedaaL

/-- x turned right by k bits. -/
def rr32 (x : Int) (k : Nat) : Int := bits .or .u32 (x / 2 ^ k) (x * 2 ^ (32 - k) % 4294967296)
def rr64 (x : Int) (k : Nat) : Int := bits .or .u64 (x / 2 ^ k) (IntKind.u64.wrap (x * 2 ^ (64 - k)))
theorem bits_or_comm (k : IntKind) (x y : Int) : bits .or k x y = bits .or k y x := by
  simp only [bits]
  rw [BitVec.or_comm]
theorem bits_range32 (op : BinOp) (x y : Int) : 0 ≤ bits op .u32 x y ∧ bits op .u32 x y < 4294967296 := wf_u32_range (wf_bits op .u32 x y)
theorem bits_range64 (op : BinOp) (x y : Int) : 0 ≤ bits op .u64 x y ∧ bits op .u64 x y < 18446744073709551616 := wf_u64_range (wf_bits op .u64 x y)
theorem rr32_range (x : Int) (k : Nat) : 0 ≤ rr32 x k ∧ rr32 x k < 4294967296 := bits_range32 _ _ _
theorem rr64_range (x : Int) (k : Nat) : 0 ≤ rr64 x k ∧ rr64 x k < 18446744073709551616 := bits_range64 _ _ _

set_option maxHeartbeats 400000 in
theorem rotl32_7 (x : Int) (h0 : 0 ≤ x) (h1 : x < 4294967296) (w : World) :
    Calls Try.prog 20 #[.int .u32 x, .int .i64 (-7)] w fun e w' => e = .returned (.int .u32 (rr32 x 7)) ∧ w' = w := by
  have hk : bits .and .u64 (IntKind.u64.wrap (-7)) 31 = 25 := by kernel_rfl
  have hc : bits .or .u32 (x * 33554432 % 4294967296) (x / 128) = rr32 x 7 := bits_or_comm _ _ _
  go_enter Try.func20, Try.ntmps20
  go_wp2
  go_ret
  exact ⟨ret_int rfl, rfl⟩

set_option maxHeartbeats 400000 in
theorem rot32_7 (x : Int) (h0 : 0 ≤ x) (h1 : x < 4294967296) (w : World) :
    Calls Try.prog 14 #[.int .u32 x, .int .i64 7] w fun e w' => e = .returned (.int .u32 (rr32 x 7)) ∧ Drawn w w' := by
  have hc : bits .or .u32 (x / 128) (x * 33554432 % 4294967296) = rr32 x 7 := rfl
  go_enter Try.func14, Try.ntmps14
  go_wp2
  go_quiet (fail)
  go_wp2
  go_ret
  exact ⟨ret_int rfl, drawn_drewN _ _⟩

set_option maxHeartbeats 400000 in
theorem rotl32_18 (x : Int) (h0 : 0 ≤ x) (h1 : x < 4294967296) (w : World) :
    Calls Try.prog 20 #[.int .u32 x, .int .i64 (-18)] w fun e w' => e = .returned (.int .u32 (rr32 x 18)) ∧ w' = w := by
  have hk : bits .and .u64 (IntKind.u64.wrap (-18)) 31 = 14 := by kernel_rfl
  have hc : bits .or .u32 (x * 16384 % 4294967296) (x / 262144) = rr32 x 18 := bits_or_comm _ _ _
  go_enter Try.func20, Try.ntmps20
  go_wp2
  go_ret
  exact ⟨ret_int rfl, rfl⟩

set_option maxHeartbeats 400000 in
theorem rot32_18 (x : Int) (h0 : 0 ≤ x) (h1 : x < 4294967296) (w : World) :
    Calls Try.prog 14 #[.int .u32 x, .int .i64 18] w fun e w' => e = .returned (.int .u32 (rr32 x 18)) ∧ Drawn w w' := by
  have hc : bits .or .u32 (x / 262144) (x * 16384 % 4294967296) = rr32 x 18 := rfl
  go_enter Try.func14, Try.ntmps14
  go_wp2
  go_quiet (fail)
  go_wp2
  go_ret
  exact ⟨ret_int rfl, drawn_drewN _ _⟩

set_option maxHeartbeats 400000 in
theorem rotl32_17 (x : Int) (h0 : 0 ≤ x) (h1 : x < 4294967296) (w : World) :
    Calls Try.prog 20 #[.int .u32 x, .int .i64 (-17)] w fun e w' => e = .returned (.int .u32 (rr32 x 17)) ∧ w' = w := by
  have hk : bits .and .u64 (IntKind.u64.wrap (-17)) 31 = 15 := by kernel_rfl
  have hc : bits .or .u32 (x * 32768 % 4294967296) (x / 131072) = rr32 x 17 := bits_or_comm _ _ _
  go_enter Try.func20, Try.ntmps20
  go_wp2
  go_ret
  exact ⟨ret_int rfl, rfl⟩

set_option maxHeartbeats 400000 in
theorem rot32_17 (x : Int) (h0 : 0 ≤ x) (h1 : x < 4294967296) (w : World) :
    Calls Try.prog 14 #[.int .u32 x, .int .i64 17] w fun e w' => e = .returned (.int .u32 (rr32 x 17)) ∧ Drawn w w' := by
  have hc : bits .or .u32 (x / 131072) (x * 32768 % 4294967296) = rr32 x 17 := rfl
  go_enter Try.func14, Try.ntmps14
  go_wp2
  go_quiet (fail)
  go_wp2
  go_ret
  exact ⟨ret_int rfl, drawn_drewN _ _⟩

set_option maxHeartbeats 400000 in
theorem rotl32_19 (x : Int) (h0 : 0 ≤ x) (h1 : x < 4294967296) (w : World) :
    Calls Try.prog 20 #[.int .u32 x, .int .i64 (-19)] w fun e w' => e = .returned (.int .u32 (rr32 x 19)) ∧ w' = w := by
  have hk : bits .and .u64 (IntKind.u64.wrap (-19)) 31 = 13 := by kernel_rfl
  have hc : bits .or .u32 (x * 8192 % 4294967296) (x / 524288) = rr32 x 19 := bits_or_comm _ _ _
  go_enter Try.func20, Try.ntmps20
  go_wp2
  go_ret
  exact ⟨ret_int rfl, rfl⟩

set_option maxHeartbeats 400000 in
theorem rot32_19 (x : Int) (h0 : 0 ≤ x) (h1 : x < 4294967296) (w : World) :
    Calls Try.prog 14 #[.int .u32 x, .int .i64 19] w fun e w' => e = .returned (.int .u32 (rr32 x 19)) ∧ Drawn w w' := by
  have hc : bits .or .u32 (x / 524288) (x * 8192 % 4294967296) = rr32 x 19 := rfl
  go_enter Try.func14, Try.ntmps14
  go_wp2
  go_quiet (fail)
  go_wp2
  go_ret
  exact ⟨ret_int rfl, drawn_drewN _ _⟩

set_option maxHeartbeats 400000 in
theorem rotl32_6 (x : Int) (h0 : 0 ≤ x) (h1 : x < 4294967296) (w : World) :
    Calls Try.prog 20 #[.int .u32 x, .int .i64 (-6)] w fun e w' => e = .returned (.int .u32 (rr32 x 6)) ∧ w' = w := by
  have hk : bits .and .u64 (IntKind.u64.wrap (-6)) 31 = 26 := by kernel_rfl
  have hc : bits .or .u32 (x * 67108864 % 4294967296) (x / 64) = rr32 x 6 := bits_or_comm _ _ _
  go_enter Try.func20, Try.ntmps20
  go_wp2
  go_ret
  exact ⟨ret_int rfl, rfl⟩

set_option maxHeartbeats 400000 in
theorem rot32_6 (x : Int) (h0 : 0 ≤ x) (h1 : x < 4294967296) (w : World) :
    Calls Try.prog 14 #[.int .u32 x, .int .i64 6] w fun e w' => e = .returned (.int .u32 (rr32 x 6)) ∧ Drawn w w' := by
  have hc : bits .or .u32 (x / 64) (x * 67108864 % 4294967296) = rr32 x 6 := rfl
  go_enter Try.func14, Try.ntmps14
  go_wp2
  go_quiet (fail)
  go_wp2
  go_ret
  exact ⟨ret_int rfl, drawn_drewN _ _⟩

set_option maxHeartbeats 400000 in
theorem rotl32_11 (x : Int) (h0 : 0 ≤ x) (h1 : x < 4294967296) (w : World) :
    Calls Try.prog 20 #[.int .u32 x, .int .i64 (-11)] w fun e w' => e = .returned (.int .u32 (rr32 x 11)) ∧ w' = w := by
  have hk : bits .and .u64 (IntKind.u64.wrap (-11)) 31 = 21 := by kernel_rfl
  have hc : bits .or .u32 (x * 2097152 % 4294967296) (x / 2048) = rr32 x 11 := bits_or_comm _ _ _
  go_enter Try.func20, Try.ntmps20
  go_wp2
  go_ret
  exact ⟨ret_int rfl, rfl⟩

set_option maxHeartbeats 400000 in
theorem rot32_11 (x : Int) (h0 : 0 ≤ x) (h1 : x < 4294967296) (w : World) :
    Calls Try.prog 14 #[.int .u32 x, .int .i64 11] w fun e w' => e = .returned (.int .u32 (rr32 x 11)) ∧ Drawn w w' := by
  have hc : bits .or .u32 (x / 2048) (x * 2097152 % 4294967296) = rr32 x 11 := rfl
  go_enter Try.func14, Try.ntmps14
  go_wp2
  go_quiet (fail)
  go_wp2
  go_ret
  exact ⟨ret_int rfl, drawn_drewN _ _⟩

set_option maxHeartbeats 400000 in
theorem rotl32_25 (x : Int) (h0 : 0 ≤ x) (h1 : x < 4294967296) (w : World) :
    Calls Try.prog 20 #[.int .u32 x, .int .i64 (-25)] w fun e w' => e = .returned (.int .u32 (rr32 x 25)) ∧ w' = w := by
  have hk : bits .and .u64 (IntKind.u64.wrap (-25)) 31 = 7 := by kernel_rfl
  have hc : bits .or .u32 (x * 128 % 4294967296) (x / 33554432) = rr32 x 25 := bits_or_comm _ _ _
  go_enter Try.func20, Try.ntmps20
  go_wp2
  go_ret
  exact ⟨ret_int rfl, rfl⟩

set_option maxHeartbeats 400000 in
theorem rot32_25 (x : Int) (h0 : 0 ≤ x) (h1 : x < 4294967296) (w : World) :
    Calls Try.prog 14 #[.int .u32 x, .int .i64 25] w fun e w' => e = .returned (.int .u32 (rr32 x 25)) ∧ Drawn w w' := by
  have hc : bits .or .u32 (x / 33554432) (x * 128 % 4294967296) = rr32 x 25 := rfl
  go_enter Try.func14, Try.ntmps14
  go_wp2
  go_quiet (fail)
  go_wp2
  go_ret
  exact ⟨ret_int rfl, drawn_drewN _ _⟩

set_option maxHeartbeats 400000 in
theorem rotl32_2 (x : Int) (h0 : 0 ≤ x) (h1 : x < 4294967296) (w : World) :
    Calls Try.prog 20 #[.int .u32 x, .int .i64 (-2)] w fun e w' => e = .returned (.int .u32 (rr32 x 2)) ∧ w' = w := by
  have hk : bits .and .u64 (IntKind.u64.wrap (-2)) 31 = 30 := by kernel_rfl
  have hc : bits .or .u32 (x * 1073741824 % 4294967296) (x / 4) = rr32 x 2 := bits_or_comm _ _ _
  go_enter Try.func20, Try.ntmps20
  go_wp2
  go_ret
  exact ⟨ret_int rfl, rfl⟩

set_option maxHeartbeats 400000 in
theorem rot32_2 (x : Int) (h0 : 0 ≤ x) (h1 : x < 4294967296) (w : World) :
    Calls Try.prog 14 #[.int .u32 x, .int .i64 2] w fun e w' => e = .returned (.int .u32 (rr32 x 2)) ∧ Drawn w w' := by
  have hc : bits .or .u32 (x / 4) (x * 1073741824 % 4294967296) = rr32 x 2 := rfl
  go_enter Try.func14, Try.ntmps14
  go_wp2
  go_quiet (fail)
  go_wp2
  go_ret
  exact ⟨ret_int rfl, drawn_drewN _ _⟩

set_option maxHeartbeats 400000 in
theorem rotl32_13 (x : Int) (h0 : 0 ≤ x) (h1 : x < 4294967296) (w : World) :
    Calls Try.prog 20 #[.int .u32 x, .int .i64 (-13)] w fun e w' => e = .returned (.int .u32 (rr32 x 13)) ∧ w' = w := by
  have hk : bits .and .u64 (IntKind.u64.wrap (-13)) 31 = 19 := by kernel_rfl
  have hc : bits .or .u32 (x * 524288 % 4294967296) (x / 8192) = rr32 x 13 := bits_or_comm _ _ _
  go_enter Try.func20, Try.ntmps20
  go_wp2
  go_ret
  exact ⟨ret_int rfl, rfl⟩

set_option maxHeartbeats 400000 in
theorem rot32_13 (x : Int) (h0 : 0 ≤ x) (h1 : x < 4294967296) (w : World) :
    Calls Try.prog 14 #[.int .u32 x, .int .i64 13] w fun e w' => e = .returned (.int .u32 (rr32 x 13)) ∧ Drawn w w' := by
  have hc : bits .or .u32 (x / 8192) (x * 524288 % 4294967296) = rr32 x 13 := rfl
  go_enter Try.func14, Try.ntmps14
  go_wp2
  go_quiet (fail)
  go_wp2
  go_ret
  exact ⟨ret_int rfl, drawn_drewN _ _⟩

set_option maxHeartbeats 400000 in
theorem rotl32_22 (x : Int) (h0 : 0 ≤ x) (h1 : x < 4294967296) (w : World) :
    Calls Try.prog 20 #[.int .u32 x, .int .i64 (-22)] w fun e w' => e = .returned (.int .u32 (rr32 x 22)) ∧ w' = w := by
  have hk : bits .and .u64 (IntKind.u64.wrap (-22)) 31 = 10 := by kernel_rfl
  have hc : bits .or .u32 (x * 1024 % 4294967296) (x / 4194304) = rr32 x 22 := bits_or_comm _ _ _
  go_enter Try.func20, Try.ntmps20
  go_wp2
  go_ret
  exact ⟨ret_int rfl, rfl⟩

set_option maxHeartbeats 400000 in
theorem rot32_22 (x : Int) (h0 : 0 ≤ x) (h1 : x < 4294967296) (w : World) :
    Calls Try.prog 14 #[.int .u32 x, .int .i64 22] w fun e w' => e = .returned (.int .u32 (rr32 x 22)) ∧ Drawn w w' := by
  have hc : bits .or .u32 (x / 4194304) (x * 1024 % 4294967296) = rr32 x 22 := rfl
  go_enter Try.func14, Try.ntmps14
  go_wp2
  go_quiet (fail)
  go_wp2
  go_ret
  exact ⟨ret_int rfl, drawn_drewN _ _⟩

set_option maxHeartbeats 400000 in
theorem rotl64_1 (x : Int) (h0 : 0 ≤ x) (h1 : x < 18446744073709551616) (w : World) :
    Calls Try.prog 25 #[.int .u64 x, .int .i64 (-1)] w fun e w' => e = .returned (.int .u64 (rr64 x 1)) ∧ w' = w := by
  have hk : bits .and .u64 (IntKind.u64.wrap (-1)) 63 = 63 := by kernel_rfl
  have hc : bits .or .u64 (IntKind.u64.wrap (x * 9223372036854775808)) (x / 2) = rr64 x 1 := bits_or_comm _ _ _
  go_enter Try.func25, Try.ntmps25
  go_wp2
  go_ret
  exact ⟨ret_int rfl, rfl⟩

set_option maxHeartbeats 400000 in
theorem rot64_1 (x : Int) (h0 : 0 ≤ x) (h1 : x < 18446744073709551616) (w : World) :
    Calls Try.prog 15 #[.int .u64 x, .int .i64 1] w fun e w' => e = .returned (.int .u64 (rr64 x 1)) ∧ Drawn w w' := by
  have hc : bits .or .u64 (x / 2) (IntKind.u64.wrap (x * 9223372036854775808)) = rr64 x 1 := rfl
  go_enter Try.func15, Try.ntmps15
  go_wp2
  go_quiet (fail)
  go_wp2
  go_ret
  exact ⟨ret_int rfl, drawn_drewN _ _⟩

set_option maxHeartbeats 400000 in
theorem rotl64_8 (x : Int) (h0 : 0 ≤ x) (h1 : x < 18446744073709551616) (w : World) :
    Calls Try.prog 25 #[.int .u64 x, .int .i64 (-8)] w fun e w' => e = .returned (.int .u64 (rr64 x 8)) ∧ w' = w := by
  have hk : bits .and .u64 (IntKind.u64.wrap (-8)) 63 = 56 := by kernel_rfl
  have hc : bits .or .u64 (IntKind.u64.wrap (x * 72057594037927936)) (x / 256) = rr64 x 8 := bits_or_comm _ _ _
  go_enter Try.func25, Try.ntmps25
  go_wp2
  go_ret
  exact ⟨ret_int rfl, rfl⟩

set_option maxHeartbeats 400000 in
theorem rot64_8 (x : Int) (h0 : 0 ≤ x) (h1 : x < 18446744073709551616) (w : World) :
    Calls Try.prog 15 #[.int .u64 x, .int .i64 8] w fun e w' => e = .returned (.int .u64 (rr64 x 8)) ∧ Drawn w w' := by
  have hc : bits .or .u64 (x / 256) (IntKind.u64.wrap (x * 72057594037927936)) = rr64 x 8 := rfl
  go_enter Try.func15, Try.ntmps15
  go_wp2
  go_quiet (fail)
  go_wp2
  go_ret
  exact ⟨ret_int rfl, drawn_drewN _ _⟩

set_option maxHeartbeats 400000 in
theorem rotl64_19 (x : Int) (h0 : 0 ≤ x) (h1 : x < 18446744073709551616) (w : World) :
    Calls Try.prog 25 #[.int .u64 x, .int .i64 (-19)] w fun e w' => e = .returned (.int .u64 (rr64 x 19)) ∧ w' = w := by
  have hk : bits .and .u64 (IntKind.u64.wrap (-19)) 63 = 45 := by kernel_rfl
  have hc : bits .or .u64 (IntKind.u64.wrap (x * 35184372088832)) (x / 524288) = rr64 x 19 := bits_or_comm _ _ _
  go_enter Try.func25, Try.ntmps25
  go_wp2
  go_ret
  exact ⟨ret_int rfl, rfl⟩

set_option maxHeartbeats 400000 in
theorem rot64_19 (x : Int) (h0 : 0 ≤ x) (h1 : x < 18446744073709551616) (w : World) :
    Calls Try.prog 15 #[.int .u64 x, .int .i64 19] w fun e w' => e = .returned (.int .u64 (rr64 x 19)) ∧ Drawn w w' := by
  have hc : bits .or .u64 (x / 524288) (IntKind.u64.wrap (x * 35184372088832)) = rr64 x 19 := rfl
  go_enter Try.func15, Try.ntmps15
  go_wp2
  go_quiet (fail)
  go_wp2
  go_ret
  exact ⟨ret_int rfl, drawn_drewN _ _⟩

set_option maxHeartbeats 400000 in
theorem rotl64_61 (x : Int) (h0 : 0 ≤ x) (h1 : x < 18446744073709551616) (w : World) :
    Calls Try.prog 25 #[.int .u64 x, .int .i64 (-61)] w fun e w' => e = .returned (.int .u64 (rr64 x 61)) ∧ w' = w := by
  have hk : bits .and .u64 (IntKind.u64.wrap (-61)) 63 = 3 := by kernel_rfl
  have hc : bits .or .u64 (IntKind.u64.wrap (x * 8)) (x / 2305843009213693952) = rr64 x 61 := bits_or_comm _ _ _
  go_enter Try.func25, Try.ntmps25
  go_wp2
  go_ret
  exact ⟨ret_int rfl, rfl⟩

set_option maxHeartbeats 400000 in
theorem rot64_61 (x : Int) (h0 : 0 ≤ x) (h1 : x < 18446744073709551616) (w : World) :
    Calls Try.prog 15 #[.int .u64 x, .int .i64 61] w fun e w' => e = .returned (.int .u64 (rr64 x 61)) ∧ Drawn w w' := by
  have hc : bits .or .u64 (x / 2305843009213693952) (IntKind.u64.wrap (x * 8)) = rr64 x 61 := rfl
  go_enter Try.func15, Try.ntmps15
  go_wp2
  go_quiet (fail)
  go_wp2
  go_ret
  exact ⟨ret_int rfl, drawn_drewN _ _⟩

set_option maxHeartbeats 400000 in
theorem rotl64_14 (x : Int) (h0 : 0 ≤ x) (h1 : x < 18446744073709551616) (w : World) :
    Calls Try.prog 25 #[.int .u64 x, .int .i64 (-14)] w fun e w' => e = .returned (.int .u64 (rr64 x 14)) ∧ w' = w := by
  have hk : bits .and .u64 (IntKind.u64.wrap (-14)) 63 = 50 := by kernel_rfl
  have hc : bits .or .u64 (IntKind.u64.wrap (x * 1125899906842624)) (x / 16384) = rr64 x 14 := bits_or_comm _ _ _
  go_enter Try.func25, Try.ntmps25
  go_wp2
  go_ret
  exact ⟨ret_int rfl, rfl⟩

set_option maxHeartbeats 400000 in
theorem rot64_14 (x : Int) (h0 : 0 ≤ x) (h1 : x < 18446744073709551616) (w : World) :
    Calls Try.prog 15 #[.int .u64 x, .int .i64 14] w fun e w' => e = .returned (.int .u64 (rr64 x 14)) ∧ Drawn w w' := by
  have hc : bits .or .u64 (x / 16384) (IntKind.u64.wrap (x * 1125899906842624)) = rr64 x 14 := rfl
  go_enter Try.func15, Try.ntmps15
  go_wp2
  go_quiet (fail)
  go_wp2
  go_ret
  exact ⟨ret_int rfl, drawn_drewN _ _⟩

set_option maxHeartbeats 400000 in
theorem rotl64_18 (x : Int) (h0 : 0 ≤ x) (h1 : x < 18446744073709551616) (w : World) :
    Calls Try.prog 25 #[.int .u64 x, .int .i64 (-18)] w fun e w' => e = .returned (.int .u64 (rr64 x 18)) ∧ w' = w := by
  have hk : bits .and .u64 (IntKind.u64.wrap (-18)) 63 = 46 := by kernel_rfl
  have hc : bits .or .u64 (IntKind.u64.wrap (x * 70368744177664)) (x / 262144) = rr64 x 18 := bits_or_comm _ _ _
  go_enter Try.func25, Try.ntmps25
  go_wp2
  go_ret
  exact ⟨ret_int rfl, rfl⟩

set_option maxHeartbeats 400000 in
theorem rot64_18 (x : Int) (h0 : 0 ≤ x) (h1 : x < 18446744073709551616) (w : World) :
    Calls Try.prog 15 #[.int .u64 x, .int .i64 18] w fun e w' => e = .returned (.int .u64 (rr64 x 18)) ∧ Drawn w w' := by
  have hc : bits .or .u64 (x / 262144) (IntKind.u64.wrap (x * 70368744177664)) = rr64 x 18 := rfl
  go_enter Try.func15, Try.ntmps15
  go_wp2
  go_quiet (fail)
  go_wp2
  go_ret
  exact ⟨ret_int rfl, drawn_drewN _ _⟩

set_option maxHeartbeats 400000 in
theorem rotl64_41 (x : Int) (h0 : 0 ≤ x) (h1 : x < 18446744073709551616) (w : World) :
    Calls Try.prog 25 #[.int .u64 x, .int .i64 (-41)] w fun e w' => e = .returned (.int .u64 (rr64 x 41)) ∧ w' = w := by
  have hk : bits .and .u64 (IntKind.u64.wrap (-41)) 63 = 23 := by kernel_rfl
  have hc : bits .or .u64 (IntKind.u64.wrap (x * 8388608)) (x / 2199023255552) = rr64 x 41 := bits_or_comm _ _ _
  go_enter Try.func25, Try.ntmps25
  go_wp2
  go_ret
  exact ⟨ret_int rfl, rfl⟩

set_option maxHeartbeats 400000 in
theorem rot64_41 (x : Int) (h0 : 0 ≤ x) (h1 : x < 18446744073709551616) (w : World) :
    Calls Try.prog 15 #[.int .u64 x, .int .i64 41] w fun e w' => e = .returned (.int .u64 (rr64 x 41)) ∧ Drawn w w' := by
  have hc : bits .or .u64 (x / 2199023255552) (IntKind.u64.wrap (x * 8388608)) = rr64 x 41 := rfl
  go_enter Try.func15, Try.ntmps15
  go_wp2
  go_quiet (fail)
  go_wp2
  go_ret
  exact ⟨ret_int rfl, drawn_drewN _ _⟩

set_option maxHeartbeats 400000 in
theorem rotl64_28 (x : Int) (h0 : 0 ≤ x) (h1 : x < 18446744073709551616) (w : World) :
    Calls Try.prog 25 #[.int .u64 x, .int .i64 (-28)] w fun e w' => e = .returned (.int .u64 (rr64 x 28)) ∧ w' = w := by
  have hk : bits .and .u64 (IntKind.u64.wrap (-28)) 63 = 36 := by kernel_rfl
  have hc : bits .or .u64 (IntKind.u64.wrap (x * 68719476736)) (x / 268435456) = rr64 x 28 := bits_or_comm _ _ _
  go_enter Try.func25, Try.ntmps25
  go_wp2
  go_ret
  exact ⟨ret_int rfl, rfl⟩

set_option maxHeartbeats 400000 in
theorem rot64_28 (x : Int) (h0 : 0 ≤ x) (h1 : x < 18446744073709551616) (w : World) :
    Calls Try.prog 15 #[.int .u64 x, .int .i64 28] w fun e w' => e = .returned (.int .u64 (rr64 x 28)) ∧ Drawn w w' := by
  have hc : bits .or .u64 (x / 268435456) (IntKind.u64.wrap (x * 68719476736)) = rr64 x 28 := rfl
  go_enter Try.func15, Try.ntmps15
  go_wp2
  go_quiet (fail)
  go_wp2
  go_ret
  exact ⟨ret_int rfl, drawn_drewN _ _⟩

set_option maxHeartbeats 400000 in
theorem rotl64_34 (x : Int) (h0 : 0 ≤ x) (h1 : x < 18446744073709551616) (w : World) :
    Calls Try.prog 25 #[.int .u64 x, .int .i64 (-34)] w fun e w' => e = .returned (.int .u64 (rr64 x 34)) ∧ w' = w := by
  have hk : bits .and .u64 (IntKind.u64.wrap (-34)) 63 = 30 := by kernel_rfl
  have hc : bits .or .u64 (IntKind.u64.wrap (x * 1073741824)) (x / 17179869184) = rr64 x 34 := bits_or_comm _ _ _
  go_enter Try.func25, Try.ntmps25
  go_wp2
  go_ret
  exact ⟨ret_int rfl, rfl⟩

set_option maxHeartbeats 400000 in
theorem rot64_34 (x : Int) (h0 : 0 ≤ x) (h1 : x < 18446744073709551616) (w : World) :
    Calls Try.prog 15 #[.int .u64 x, .int .i64 34] w fun e w' => e = .returned (.int .u64 (rr64 x 34)) ∧ Drawn w w' := by
  have hc : bits .or .u64 (x / 17179869184) (IntKind.u64.wrap (x * 1073741824)) = rr64 x 34 := rfl
  go_enter Try.func15, Try.ntmps15
  go_wp2
  go_quiet (fail)
  go_wp2
  go_ret
  exact ⟨ret_int rfl, drawn_drewN _ _⟩

set_option maxHeartbeats 400000 in
theorem rotl64_39 (x : Int) (h0 : 0 ≤ x) (h1 : x < 18446744073709551616) (w : World) :
    Calls Try.prog 25 #[.int .u64 x, .int .i64 (-39)] w fun e w' => e = .returned (.int .u64 (rr64 x 39)) ∧ w' = w := by
  have hk : bits .and .u64 (IntKind.u64.wrap (-39)) 63 = 25 := by kernel_rfl
  have hc : bits .or .u64 (IntKind.u64.wrap (x * 33554432)) (x / 549755813888) = rr64 x 39 := bits_or_comm _ _ _
  go_enter Try.func25, Try.ntmps25
  go_wp2
  go_ret
  exact ⟨ret_int rfl, rfl⟩

set_option maxHeartbeats 400000 in
theorem rot64_39 (x : Int) (h0 : 0 ≤ x) (h1 : x < 18446744073709551616) (w : World) :
    Calls Try.prog 15 #[.int .u64 x, .int .i64 39] w fun e w' => e = .returned (.int .u64 (rr64 x 39)) ∧ Drawn w w' := by
  have hc : bits .or .u64 (x / 549755813888) (IntKind.u64.wrap (x * 33554432)) = rr64 x 39 := rfl
  go_enter Try.func15, Try.ntmps15
  go_wp2
  go_quiet (fail)
  go_wp2
  go_ret
  exact ⟨ret_int rfl, drawn_drewN _ _⟩

end Go.Proofs.Ytncdbgpmhkiedaa
