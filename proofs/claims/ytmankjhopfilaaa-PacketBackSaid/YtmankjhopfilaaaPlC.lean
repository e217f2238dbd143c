/- The seats' addresses, packets: towpathseat.Addr, Pack.Packet, Pack.Bytes; towpathhelp.Packet. -/
import Derived.Test.YtmankjhopfilaaaPlB
namespace Go.Proofs.Ytmankjhopfilaaa
set_option linter.unusedVariables false
set_option linter.unusedSimpArgs false
open Go.RowKit Go.Proofs.YtmankjhopfilaaaL

theorem or_hi_lo (lo x : Int) (k : Nat) (h0 : 0 ≤ lo) (h1 : lo < 2 ^ k) (hx : 0 ≤ x) (hs : x * 2 ^ k < 18446744073709551616) (hl : lo < 18446744073709551616) : bits .or .u64 (x * 2 ^ k) lo = x * 2 ^ k + lo := by
  have hk : (0 : Int) < 2 ^ k := Int.pow_pos (by decide)
  have hxk : 0 ≤ x * 2 ^ k := Int.mul_nonneg hx (Int.le_of_lt hk)
  have e := u64_or_add lo x k h0 h1 hl hx hs
  rw [u64_or _ _ hxk hs h0 hl, Nat.or_comm, ← u64_or _ _ h0 hl hxk hs, e, Int.add_comm]
def seatA (v6 : Bool) (a b : Int) : Ad := if v6 then ⟨true, 18230571291595767808 + a % 8 * 1099511627776 + b % 4 * 4, b⟩ else ⟨false, 720575940379279360 + a % 8 * 281474976710656 + b * 4294967296, 0⟩
theorem seatA_ok (v6 : Bool) (a b : Int) (b0 : 0 ≤ b) (b1 : b < 256) : (seatA v6 a b).ok ∧ (seatA v6 a b).right = true ∧ (seatA v6 a b).v6 = v6 := by
  cases v6
  · refine ⟨⟨show 0 ≤ 720575940379279360 + a % 8 * 281474976710656 + b * 4294967296 by omega, show 720575940379279360 + a % 8 * 281474976710656 + b * 4294967296 < 18446744073709551616 by omega, (by decide : (0 : Int) ≤ 0), (by decide : (0 : Int) < 18446744073709551616)⟩, ?_, rfl⟩
    show (false || ((0 : Int) == 0 && (720575940379279360 + a % 8 * 281474976710656 + b * 4294967296) % 4294967296 == 0)) = true
    rw [show (720575940379279360 + a % 8 * 281474976710656 + b * 4294967296) % 4294967296 = 0 by omega]; rfl
  · exact ⟨⟨show 0 ≤ 18230571291595767808 + a % 8 * 1099511627776 + b % 4 * 4 by omega, show 18230571291595767808 + a % 8 * 1099511627776 + b % 4 * 4 < 18446744073709551616 by omega, b0, show b < 18446744073709551616 by omega⟩, rfl, rfl⟩
set_option maxHeartbeats 8000000 in
set_option maxRecDepth 100000 in
theorem seatA_any (v6 : Bool) (a b : Int) (w : World) (a0 : 0 ≤ a) (a1 : a < 256) (b0 : 0 ≤ b) (b1 : b < 256) :
    Calls Try.prog 23 #[.bool v6, .int .u8 a, .int .u8 b] w fun e w' => e = .returned (seatA v6 a b).val ∧ w.grownBy w' none := by
  have HK := Lib.hid (own_start w)
  have h80 : 0 ≤ a % 8 := by omega
  have h81 : a % 8 < 8 := by omega
  have h40 : 0 ≤ b % 4 := by omega
  have h41 : b % 4 < 4 := by omega
  cases v6
  · show Calls Try.prog _ #[.bool false, .int .u8 a, .int .u8 b] w fun e w' => e = .returned (.agg #[.bool false, .int .u64 (720575940379279360 + a % 8 * 281474976710656 + b * 4294967296), .int .u64 0]) ∧ w.grownBy w' none
    have o1 := or_hi_lo (a % 8 * 281474976710656) 10 56 (by omega) (by rw [show (2 : Int) ^ 56 = 72057594037927936 from rfl]; omega) (by decide) (by decide) (by omega)
    have o2 := or_hi_lo (b * 4294967296) (10 * 256 + a % 8) 48 (by omega) (by rw [show (2 : Int) ^ 48 = 281474976710656 from rfl]; omega) (by omega) (by rw [show (2 : Int) ^ 48 = 281474976710656 from rfl]; omega) (by omega)
    rw [show (10 : Int) * 2 ^ 56 = 720575940379279360 from rfl] at o1
    rw [show (10 * 256 + a % 8 : Int) * 2 ^ 48 = 720575940379279360 + a % 8 * 281474976710656 by rw [show (2 : Int) ^ 48 = 281474976710656 from rfl]; omega] at o2
    go_enter Try.func23, Try.ntmps23
    go_upto_region 1 with fail
    have hk := own_alloc HK.out (Obj.cells #[Value.bool false, Value.int .u64 0, Value.int .u64 0] 26 (0, 0))
    obtain ⟨p, hp⟩ : ∃ p, p = w.heap.size := ⟨_, rfl⟩
    rw [← hp] at hk ⊢
    clear hp
    clear HK
    have HK := Lib.hid hk
    clear hk
    generalize w.alloc (Obj.cells #[Value.bool false, Value.int .u64 0, Value.int .u64 0] 26 (0, 0)) = w1 at HK ⊢
    go_wp2_with (refine wpList_put_blk rfl HK.out 26 _ _ rfl p #[.bool false, .int .u64 (720575940379279360 + a % 8 * 281474976710656 + b * 4294967296), .int .u64 0] rfl rfl _ _ (.here _) rfl (by kernel_rfl) (by simp [Value.oneCell']) ?_; (intro wn hkn; have HKN := Lib.hid hkn; clear hkn; clear HK; have HK := HKN; clear HKN))
    exact bodyPost_ret (results_cell_row rfl _ _ p _ _ _ _ rfl (HK.out.at (.here _)) Try.underlying26 rfl (by kernel_rfl)) rfl ⟨rfl, HK.out.grown⟩
  · show Calls Try.prog _ #[.bool true, .int .u8 a, .int .u8 b] w fun e w' => e = .returned (.agg #[.bool true, .int .u64 (18230571291595767808 + a % 8 * 1099511627776 + b % 4 * 4), .int .u64 b]) ∧ w.grownBy w' none
    have o1 := or_hi_lo (a % 8 * 1099511627776) 64768 48 (by omega) (by rw [show (2 : Int) ^ 48 = 281474976710656 from rfl]; omega) (by decide) (by decide) (by omega)
    have o2 := or_hi_lo (b % 4 * 4) (64768 * 256 + a % 8) 40 (by omega) (by rw [show (2 : Int) ^ 40 = 1099511627776 from rfl]; omega) (by omega) (by rw [show (2 : Int) ^ 40 = 1099511627776 from rfl]; omega) (by omega)
    rw [show (64768 : Int) * 2 ^ 48 = 18230571291595767808 from rfl] at o1
    rw [show (64768 * 256 + a % 8 : Int) * 2 ^ 40 = 18230571291595767808 + a % 8 * 1099511627776 by rw [show (2 : Int) ^ 40 = 1099511627776 from rfl]; omega] at o2
    go_enter Try.func23, Try.ntmps23
    go_upto_region 1 with fail
    have hk := own_alloc HK.out (Obj.cells #[Value.bool false, Value.int .u64 0, Value.int .u64 0] 26 (0, 0))
    obtain ⟨p, hp⟩ : ∃ p, p = w.heap.size := ⟨_, rfl⟩
    rw [← hp] at hk ⊢
    clear hp
    clear HK
    have HK := Lib.hid hk
    clear hk
    generalize w.alloc (Obj.cells #[Value.bool false, Value.int .u64 0, Value.int .u64 0] 26 (0, 0)) = w1 at HK ⊢
    go_wp2_with (refine wpList_put_blk rfl HK.out 26 _ _ rfl p #[.bool true, .int .u64 (18230571291595767808 + a % 8 * 1099511627776 + b % 4 * 4), .int .u64 b] rfl rfl _ _ (.here _) rfl (by kernel_rfl) (by simp [Value.oneCell']) ?_; (intro wn hkn; have HKN := Lib.hid hkn; clear hkn; clear HK; have HK := HKN; clear HKN))
    exact bodyPost_ret (results_cell_row rfl _ _ p _ _ _ _ rfl (HK.out.at (.here _)) Try.underlying26 rfl (by kernel_rfl)) rfl ⟨rfl, HK.out.grown⟩

set_option maxHeartbeats 8000000 in
set_option maxRecDepth 100000 in
/-- Packets that are alike are told so. -/
theorem help_any (p : Pk) (a1 : Option Addr) (n1 c1 : Nat) (a2 : Option Addr) (n2 c2 : Nat) (xs : List Int) (w : World) (h1 : Rd .u8 w a1 n1 xs) (h2 : Rd .u8 w a2 n2 xs) :
    Calls Try.prog 17 #[p.val (.slice a1 n1 c1), p.val (.slice a2 n2 c2)] w fun e w' => e = .returned (.bool true) ∧ w.grownBy w' none := by
  have HX := Lib.hid (fun (w' : World) (g : w.grownBy w' none) => h1.kept g)
  have HY := Lib.hid (fun (w' : World) (g : w.grownBy w' none) => h2.kept g)
  clear h1 h2
  obtain ⟨v6, cls, flow, id, frag, ttl, proto, ⟨s6, sh, sl⟩, ⟨d6, dh, dl⟩⟩ := p
  show Calls Try.prog _ #[.agg #[.bool v6, .int .u8 cls, .int .u32 flow, .int .u16 id, .int .u16 frag, .int .u8 ttl, .int .u8 proto, .bool s6, .int .u64 sh, .int .u64 sl, .bool d6, .int .u64 dh, .int .u64 dl, .slice a1 n1 c1], .agg #[.bool v6, .int .u8 cls, .int .u32 flow, .int .u16 id, .int .u16 frag, .int .u8 ttl, .int .u8 proto, .bool s6, .int .u64 sh, .int .u64 sl, .bool d6, .int .u64 dh, .int .u64 dl, .slice a2 n2 c2]] w fun e w' => e = .returned (.bool true) ∧ w.grownBy w' none
  have hg := grown_trans (World.grownBy_alloc w (Obj.cells #[Value.bool v6, .int .u8 cls, .int .u32 flow, .int .u16 id, .int .u16 frag, .int .u8 ttl, .int .u8 proto, .bool s6, .int .u64 sh, .int .u64 sl, .bool d6, .int .u64 dh, .int .u64 dl, .slice a1 n1 c1] 29 (0, 0)) none) (World.grownBy_alloc _ (Obj.cells #[Value.bool v6, .int .u8 cls, .int .u32 flow, .int .u16 id, .int .u16 frag, .int .u8 ttl, .int .u8 proto, .bool s6, .int .u64 sh, .int .u64 sl, .bool d6, .int .u64 dh, .int .u64 dl, .slice a2 n2 c2] 29 (0, 0)) none)
  have HG := Lib.hid hg
  clear hg
  go_enter Try.func17, Try.ntmps17
  go_wp2_with (first | (refine wpList_run rfl (run_str rfl Try.underlying27 Try.underlying5 Try.underlying9 rfl (HX.out _ HG.out)) ?_) | (refine wpList_run rfl (run_str rfl Try.underlying27 Try.underlying5 Try.underlying9 rfl (HY.out _ HG.out)) ?_))
  exact bodyPost_ret (results_tmp rfl _ _ _) rfl ⟨rfl, HG.out⟩
end Go.Proofs.Ytmankjhopfilaaa
