/- ChaCha20's words: rotations and numbers of four bytes, walked; the quarter of a round. -/
import Derived.Test.YthhijeokeljcjaaLib
import Derived.Test.YthhijeokeljcjaaRows
import Derived.OpenShut
namespace Go.Proofs.Ythhijeokeljcjaa
set_option linter.unusedVariables false
set_option linter.unusedSimpArgs false
open Go.RowKit Go.Proofs.YthhijeokeljcjaaL

/-- x turned left by k bits. -/
def rl (x : Int) (k : Nat) : Int := bits .or .u32 (x * 2 ^ k % 4294967296) (x / 2 ^ (32 - k))
theorem bits_or_comm (k : IntKind) (x y : Int) : bits .or k x y = bits .or k y x := by
  simp only [bits]
  rw [BitVec.or_comm]
theorem bits_range32 (op : BinOp) (x y : Int) : 0 ≤ bits op .u32 x y ∧ bits op .u32 x y < 4294967296 := wf_u32_range (wf_bits op .u32 x y)
theorem rl_range (x : Int) (k : Nat) : 0 ≤ rl x k ∧ rl x k < 4294967296 := bits_range32 _ _ _

set_option maxHeartbeats 400000 in
theorem rotl_16 (x : Int) (h0 : 0 ≤ x) (h1 : x < 4294967296) (w : World) :
    Calls Try.prog 40 #[.int .u32 x, .int .i64 16] w fun e w' => e = .returned (.int .u32 (rl x 16)) ∧ w' = w := by
  have hk : bits .and .u64 16 31 = 16 := by kernel_rfl
  go_enter Try.func40, Try.ntmps40
  go_wp2
  go_ret
  exact ⟨ret_int rfl, rfl⟩

set_option maxHeartbeats 400000 in
theorem rotl_12 (x : Int) (h0 : 0 ≤ x) (h1 : x < 4294967296) (w : World) :
    Calls Try.prog 40 #[.int .u32 x, .int .i64 12] w fun e w' => e = .returned (.int .u32 (rl x 12)) ∧ w' = w := by
  have hk : bits .and .u64 12 31 = 12 := by kernel_rfl
  go_enter Try.func40, Try.ntmps40
  go_wp2
  go_ret
  exact ⟨ret_int rfl, rfl⟩

set_option maxHeartbeats 400000 in
theorem rotl_8 (x : Int) (h0 : 0 ≤ x) (h1 : x < 4294967296) (w : World) :
    Calls Try.prog 40 #[.int .u32 x, .int .i64 8] w fun e w' => e = .returned (.int .u32 (rl x 8)) ∧ w' = w := by
  have hk : bits .and .u64 8 31 = 8 := by kernel_rfl
  go_enter Try.func40, Try.ntmps40
  go_wp2
  go_ret
  exact ⟨ret_int rfl, rfl⟩

set_option maxHeartbeats 400000 in
theorem rotl_7 (x : Int) (h0 : 0 ≤ x) (h1 : x < 4294967296) (w : World) :
    Calls Try.prog 40 #[.int .u32 x, .int .i64 7] w fun e w' => e = .returned (.int .u32 (rl x 7)) ∧ w' = w := by
  have hk : bits .and .u64 7 31 = 7 := by kernel_rfl
  go_enter Try.func40, Try.ntmps40
  go_wp2
  go_ret
  exact ⟨ret_int rfl, rfl⟩

set_option maxHeartbeats 400000 in
theorem rot_16 (x : Int) (h0 : 0 ≤ x) (h1 : x < 4294967296) (w : World) :
    Calls Try.prog 43 #[.int .u32 x, .int .i64 16] w fun e w' => e = .returned (.int .u32 (rl x 16)) ∧ Drawn w w' := by
  have hc : bits .or .u32 (x / 65536) (x * 65536 % 4294967296) = rl x 16 := bits_or_comm _ _ _
  go_enter Try.func43, Try.ntmps43
  go_wp2
  go_quiet (fail)
  go_wp2
  go_ret
  exact ⟨ret_int rfl, drawn_drewN _ _⟩

set_option maxHeartbeats 400000 in
theorem rot_20 (x : Int) (h0 : 0 ≤ x) (h1 : x < 4294967296) (w : World) :
    Calls Try.prog 43 #[.int .u32 x, .int .i64 20] w fun e w' => e = .returned (.int .u32 (rl x 12)) ∧ Drawn w w' := by
  have hc : bits .or .u32 (x / 1048576) (x * 4096 % 4294967296) = rl x 12 := bits_or_comm _ _ _
  go_enter Try.func43, Try.ntmps43
  go_wp2
  go_quiet (fail)
  go_wp2
  go_ret
  exact ⟨ret_int rfl, drawn_drewN _ _⟩

set_option maxHeartbeats 400000 in
theorem rot_24 (x : Int) (h0 : 0 ≤ x) (h1 : x < 4294967296) (w : World) :
    Calls Try.prog 43 #[.int .u32 x, .int .i64 24] w fun e w' => e = .returned (.int .u32 (rl x 8)) ∧ Drawn w w' := by
  have hc : bits .or .u32 (x / 16777216) (x * 256 % 4294967296) = rl x 8 := bits_or_comm _ _ _
  go_enter Try.func43, Try.ntmps43
  go_wp2
  go_quiet (fail)
  go_wp2
  go_ret
  exact ⟨ret_int rfl, drawn_drewN _ _⟩

set_option maxHeartbeats 400000 in
theorem rot_25 (x : Int) (h0 : 0 ≤ x) (h1 : x < 4294967296) (w : World) :
    Calls Try.prog 43 #[.int .u32 x, .int .i64 25] w fun e w' => e = .returned (.int .u32 (rl x 7)) ∧ Drawn w w' := by
  have hc : bits .or .u32 (x / 33554432) (x * 128 % 4294967296) = rl x 7 := bits_or_comm _ _ _
  go_enter Try.func43, Try.ntmps43
  go_wp2
  go_quiet (fail)
  go_wp2
  go_ret
  exact ⟨ret_int rfl, drawn_drewN _ _⟩


def word4 (a b c d : Int) : Int := bits .or .u32 (bits .or .u32 (bits .or .u32 a (b * 256)) (c * 65536)) (d * 16777216)
set_option maxHeartbeats 400000 in
theorem word_any (b o n cp : Nat) (c0 c1 c2 c3 : Int) (w : World) (hn : 4 ≤ n) (hn2 : (n : Int) ≤ 9223372036854775807) (h0 : 0 ≤ c0 ∧ c0 < 256) (h1 : 0 ≤ c1 ∧ c1 < 256) (h2 : 0 ≤ c2 ∧ c2 < 256) (h3 : 0 ≤ c3 ∧ c3 < 256)
    (e0 : w.cell? ⟨b, o, none⟩ = some (.int .u8 c0)) (e1 : w.cell? ⟨b, o + 1, none⟩ = some (.int .u8 c1)) (e2 : w.cell? ⟨b, o + 2, none⟩ = some (.int .u8 c2)) (e3 : w.cell? ⟨b, o + 3, none⟩ = some (.int .u8 c3)) :
    Calls Try.prog 28 #[.slice (some ⟨b, o, none⟩) n cp] w fun e w' => e = .returned (.int .u32 (word4 c0 c1 c2 c3)) ∧ Drawn w w' := by
  obtain ⟨a0, b0⟩ := h0
  obtain ⟨a1, b1⟩ := h1
  obtain ⟨a2, b2⟩ := h2
  obtain ⟨a3, b3⟩ := h3
  have n0 : (0 : Int) < n := by omega
  have n1 : (1 : Int) < n := by omega
  have n2 : (2 : Int) < n := by omega
  have n3 : (3 : Int) < n := by omega
  go_enter Try.func28, Try.ntmps28
  go_wp2
  go_quiet (fail)
  go_wp2
  go_ret
  exact ⟨ret_int rfl, drawn_drewN _ _⟩
set_option maxHeartbeats 400000 in
theorem four_any (b o n cp : Nat) (c0 c1 c2 c3 : Int) (w : World) (hn : 4 ≤ n) (hn2 : (n : Int) ≤ 9223372036854775807) (h0 : 0 ≤ c0 ∧ c0 < 256) (h1 : 0 ≤ c1 ∧ c1 < 256) (h2 : 0 ≤ c2 ∧ c2 < 256) (h3 : 0 ≤ c3 ∧ c3 < 256)
    (e0 : w.cell? ⟨b, o, none⟩ = some (.int .u8 c0)) (e1 : w.cell? ⟨b, o + 1, none⟩ = some (.int .u8 c1)) (e2 : w.cell? ⟨b, o + 2, none⟩ = some (.int .u8 c2)) (e3 : w.cell? ⟨b, o + 3, none⟩ = some (.int .u8 c3)) :
    Calls Try.prog 35 #[.slice (some ⟨b, o, none⟩) n cp] w fun e w' => e = .returned (.int .u32 (word4 c0 c1 c2 c3)) ∧ Drawn w w' := by
  obtain ⟨a0, b0⟩ := h0
  obtain ⟨a1, b1⟩ := h1
  obtain ⟨a2, b2⟩ := h2
  obtain ⟨a3, b3⟩ := h3
  have n0 : (0 : Int) < n := by omega
  have n1 : (1 : Int) < n := by omega
  have n2 : (2 : Int) < n := by omega
  have n3 : (3 : Int) < n := by omega
  go_enter Try.func35, Try.ntmps35
  go_wp2
  go_quiet (fail)
  go_wp2
  go_ret
  exact ⟨ret_int rfl, drawn_drewN _ _⟩

def enc32 (s : List Int) : Array Value := (s.map (Value.int .u32)).toArray
def Row32 (w : World) (b T : Nat) (s : List Int) : Prop := w.heap[b]? = some (.cells (enc32 s) T (0, 0))
def ok32 (s : List Int) : Prop := ∀ x ∈ s, 0 ≤ x ∧ x < 4294967296

theorem row32_at {w : World} {b T : Nat} {s : List Int} (h : Row32 w b T s) (i : Nat) (hi : i < s.length) : w.cell? ⟨b, i, none⟩ = some (.int .u32 (s.getD i 0)) :=
  row_cell h i _ (by simp [enc32, hi])
theorem row32_set {w' : World} {b T : Nat} {s : List Int} {i : Nat} {x : Int} (h : w'.heap[b]? = some (.cells ((enc32 s).setIfInBounds i (.int .u32 x)) T (0, 0))) : Row32 w' b T (s.set i x) := by
  unfold Row32
  rw [h]
  simp [enc32, List.map_set]
theorem ok32_at {s : List Int} (h : ok32 s) (i : Nat) : 0 ≤ s.getD i 0 ∧ s.getD i 0 < 4294967296 := by
  rw [List.getD_eq_getElem?_getD]
  cases hs : s[i]? with
  | none => simp
  | some x => exact h x (List.mem_of_getElem? hs)
theorem ok32_set {s : List Int} (h : ok32 s) (i : Nat) (x : Int) (hx : 0 ≤ x ∧ x < 4294967296) : ok32 (s.set i x) := fun y hy => by
  rcases List.mem_or_eq_of_mem_set hy with e | e
  · exact h y e
  · rw [e]; exact hx

def add32 (x y : Int) : Int := IntKind.u32.wrap (x + y)
def xor32 (x y : Int) : Int := bits .xor .u32 x y
theorem add32_range (x y : Int) : 0 ≤ add32 x y ∧ add32 x y < 4294967296 := wf_u32_range (wf_wrap .u32 (x + y))

/-- One step: place a gets the sum with place b. -/
def qa (s : List Int) (a b : Nat) : List Int := s.set a (add32 (s.getD a 0) (s.getD b 0))
/-- The other: place d is turned with place a in it. -/
def qx (s : List Int) (d a k : Nat) : List Int := s.set d (rl (xor32 (s.getD d 0) (s.getD a 0)) k)
theorem ok_qa {s : List Int} (h : ok32 s) (a b : Nat) : ok32 (qa s a b) := ok32_set h _ _ (add32_range _ _)
theorem ok_qx {s : List Int} (h : ok32 s) (d a k : Nat) : ok32 (qx s d a k) := ok32_set h _ _ (rl_range _ _)
def qr (s : List Int) (a b c d : Nat) : List Int :=
  qx (qa (qx (qa (qx (qa (qx (qa s a b) d a 16) c d) b c 12) a b) d a 8) c d) b c 7

theorem size_enc32 (s : List Int) : (enc32 s).size = s.length := by simp [enc32]

end Go.Proofs.Ythhijeokeljcjaa
