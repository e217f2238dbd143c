/- Bytes enciphered, walked: the program's Xor and the reference's. -/
import Derived.Test.YthhijeokeljcjaaChaR
namespace Go.Proofs.Ythhijeokeljcjaa
set_option linter.unusedVariables false
set_option linter.unusedSimpArgs false
open Go.RowKit Go.Proofs.YthhijeokeljcjaaL

/-- The counter of byte i. -/
def ctrAt (ctr : Int) (i : Nat) : Int := (ctr + ((i / 64 : Nat) : Int)) % 4294967296
/-- Byte i of the stream. -/
def strB (key : List Int) (ctr : Int) (nonce : List Int) (i : Nat) : Int := (blk key (ctrAt ctr i) nonce).getD (i % 64) 0
def xorB (key : List Int) (ctr : Int) (nonce bs : List Int) (i : Nat) : Int := bits .xor .u8 (bs.getD i 0) (strB key ctr nonce i)
def xorL (key : List Int) (ctr : Int) (nonce bs : List Int) (k : Nat) : List Int := (List.range k).map (xorB key ctr nonce bs)

theorem length_xorL (key : List Int) (ctr : Int) (nonce bs : List Int) (k : Nat) : (xorL key ctr nonce bs k).length = k := by simp [xorL]
theorem xorL_step (key : List Int) (ctr : Int) (nonce bs : List Int) (i n : Nat) (hi : i < n) : (xorL key ctr nonce bs i ++ List.replicate (n - i) 0).set i (xorB key ctr nonce bs i) = xorL key ctr nonce bs (i + 1) ++ List.replicate (n - (i + 1)) 0 := by
  rw [List.set_append_right _ _ (by rw [length_xorL]; exact Nat.le_refl _), length_xorL, Nat.sub_self, show n - i = (n - (i + 1)) + 1 by omega, List.replicate_succ, List.set_cons_zero]
  simp [xorL, List.range_succ]

/-- A call's own new slice of bytes. -/
def Ret8 (w : World) (xs : List Int) (e : Ending) (w' : World) : Prop :=
  ∃ v, e = .returned v ∧ w'.ownsRow w.heap.size 5 1 v xs.length (xs.map (Value.int .u8)) ∧ w.grownBy w' none

theorem ret8_row {w w' : World} {g n : Nat} {xs : List Int} (h : w'.heap[g]? = some (.cells (enc8 xs) 5 (0, 0))) (hn : n = xs.length) (hg : w.heap.size ≤ g) (hw : w.grownBy w' none) (hm : xs.length ≤ maxLen := by unfold maxLen; omega) :
    Ret8 w xs (.returned (.slice (some ⟨g, 0, none⟩) n n)) w' := by
  subst hn
  refine ⟨_, rfl, ⟨by simp, .inr ⟨g, xs.length, _, rfl, hg, h, Nat.le_refl _, hm, by simp [enc8], ?_⟩⟩, hw⟩
  simp [enc8, List.take_of_length_le]

/-- A slice value that reads as these bytes. -/
def Sl8 (w : World) (a : Option Addr) (len : Nat) (bs : List Int) : Prop :=
  bs.length = len ∧ ok8 bs ∧ ∀ i, i < len → ∃ x, a = some x ∧ w.cell? (x.add i) = some (.int .u8 (bs.getD i 0))
theorem Sl8.kept {w w' : World} {a : Option Addr} {len : Nat} {bs : List Int} (h : Sl8 w a len bs) (g : w.grownBy w' none) : Sl8 w' a len bs :=
  ⟨h.1, h.2.1, fun i hi => let ⟨x, hx, hc⟩ := h.2.2 i hi; ⟨x, hx, g.cell hc (by simp)⟩⟩

set_option maxHeartbeats 4000000 in
set_option maxRecDepth 100000 in
theorem xor_any (key nonce : List Int) (ctr : Int) (a : Option Addr) (len cap : Nat) (bs : List Int) (w : World) (hk : key.length = 32) (hn : nonce.length = 12) (hk8 : ok8 key) (hn8 : ok8 nonce) (hc0 : 0 ≤ ctr) (hc1 : ctr < 4294967296)
    (hb : Sl8 w a len bs) (hl : (len : Int) ≤ 100000) :
    Calls Try.prog 11 #[.agg (enc8 key), .int .u32 ctr, .agg (enc8 nonce), .slice a len cap] w (Ret8 w (xorL key ctr nonce bs len)) := by
  have HK := Lib.hid hk
  have HN := Lib.hid hn
  have HK8 := Lib.hid hk8
  have HN8 := Lib.hid hn8
  have HBS' := Lib.hid hb
  clear hk hn hk8 hn8 hb
  go_enter Try.func11, Try.ntmps11
  go_wp2_with (at_make; refine wpList_make_zeros rfl (.tmp 14) (.tmp 14) 24 rfl 5 (.int .u8 0) 1 Try.underlying24 (by kernel_rfl) rfl len len rfl rfl rfl ?h1 ?h2 ?_)
  case h1 => omega
  case h2 => omega
  intro w1 r1 g1
  obtain ⟨b, hb⟩ : ∃ b, w.heap.size = b := ⟨_, rfl⟩
  have hk1 : w1.heap[b]? = some (.cells (enc8 key) 22 (0, 0)) := by
    rw [← hb, g1.block _ (by simp only [alloc_size]; omega) (by simp), alloc_up _ _ (by simp only [alloc_size]; omega)]; exact alloc_at _ _ rfl
  have hn1 : w1.heap[b + 1]? = some (.cells (enc8 nonce) 38 (0, 0)) := by
    rw [← hb, g1.block _ (by simp only [alloc_size]; omega) (by simp)]; exact alloc_at _ _ (by simp only [alloc_size])
  have hg1 : w.grownBy w1 none := grown_trans (grown_alloc (grown_alloc (grown_refl w none) _) _) g1
  rw [hb] at r1 ⊢
  have r1' : w1.heap[b + 1 + 1]? = some (.cells (enc8 (List.replicate len 0)) 5 (0, 0)) := by rw [r1]; simp [enc8]
  have HB := Lib.hid hb
  have HK1 := Lib.hid hk1
  have HN1 := Lib.hid hn1
  have HG1 := Lib.hid hg1
  have HR1 := Lib.hid r1'
  clear hb hk1 hn1 hg1 r1 r1' g1
  obtain ⟨s, hs⟩ : ∃ s, w1.heap.size = s := ⟨_, rfl⟩
  have HS := Lib.hid hs
  clear hs
  have HBS : Hid (b + 1 + 1 < s) := by rw [← HS.out]; exact row_lt HR1.out
  go_wp2_with fail
  rw [HS.out]
  go_loopw [18] (fun v wr => ∃ k : Nat, k ≤ len ∧ v = .int .i64 k ∧ wr.heap[b]? = some (.cells (enc8 key) 22 (0, 0)) ∧ wr.heap[b + 1]? = some (.cells (enc8 nonce) 38 (0, 0)) ∧
    wr.heap[b + 1 + 1]? = some (.cells (enc8 (xorL key ctr nonce bs k ++ List.replicate (len - k) 0)) 5 (0, 0)) ∧ (∃ st : List Int, Hid (st.length = 64) ∧ wr.heap[s]? = some (.cells (enc8 st) 44 (0, 0)) ∧ Hid (0 < k → st = blk key (ctrAt ctr (k - 1)) nonce)) ∧ w.grownBy wr none) (fun v _ => len - (intOf v).toNat)
  case atStart =>
    refine ⟨0, by omega, rfl, ?_, ?_, ?_, ⟨List.replicate 64 0, rfl, ?_, fun h => absurd h (by omega)⟩, grown_alloc HG1.out _⟩
    · exact (alloc_up _ _ (row_lt HK1.out)).trans HK1.out
    · exact (alloc_up _ _ (row_lt HN1.out)).trans HN1.out
    · exact (alloc_up _ _ (row_lt HR1.out)).trans HR1.out
    · exact alloc_at _ _ HS.out.symm
  case round =>
    obtain ⟨k, hk, rfl, r1, r2, r3, ⟨st, hst, r4, hblk⟩, hg⟩ := hrel
    have R1 := Lib.hid r1
    have R2 := Lib.hid r2
    have R3 := Lib.hid r3
    have R4 := Lib.hid r4
    have HG := Lib.hid hg
    clear r1 r2 r3 r4 hg
    by_cases hlt : k < len
    · obtain ⟨x, hx, hc⟩ := (HBS'.out.kept HG.out).2.2 k hlt
      subst hx
      have hcb := ok8_at HBS'.out.2.1 k
      obtain ⟨hc0, hc1⟩ := hcb
      cases hm : ((k : Int) % 64 == 0) with
      | true =>
        go_wp2_with (first | (refine wpList_load_row rfl 22 (.tmp 4) rfl b rfl _ _ _ _ R1.out Try.underlying22 rfl ?h1 ?_) | (refine wpList_load_row rfl 38 (.tmp 6) rfl (b + 1) rfl _ _ _ _ R2.out Try.underlying38 rfl ?h2 ?_))
        case h1 => rw [size_enc8, HK.out]; kernel_rfl
        case h2 => rw [size_enc8, HN.out]; kernel_rfl
        rw [show (ctr + (k : Int) / 64) % 4294967296 = ctrAt ctr k by unfold ctrAt; omega]
        refine (block_any key nonce (ctrAt ctr k) _ HK.out HN.out HK8.out HN8.out (by unfold ctrAt; omega) (by unfold ctrAt; omega)).mono ?_
        rintro e w2 ⟨rfl, g2⟩
        obtain ⟨st2, hst2⟩ : ∃ st2, st2 = blk key (ctrAt ctr k) nonce := ⟨_, rfl⟩
        have hl2 : st2.length = 64 := by rw [hst2]; exact length_outs _ _ _
        rw [← hst2]
        have q1 := (g2.block _ (row_lt R1.out) (by simp)).trans R1.out
        have q2 := (g2.block _ (row_lt R2.out) (by simp)).trans R2.out
        have q3 := (g2.block _ (row_lt R3.out) (by simp)).trans R3.out
        have q4 := (g2.block _ (row_lt R4.out) (by simp)).trans R4.out
        have hg2 := grown_trans HG.out g2
        have hc2 := g2.cell hc (by simp)
        have Q1 := Lib.hid q1
        have Q2 := Lib.hid q2
        have Q3 := Lib.hid q3
        have Q4 := Lib.hid q4
        have HG2 := Lib.hid hg2
        have HL2 := Lib.hid hl2
        have HST2 := Lib.hid hst2
        clear q1 q2 q3 q4 hg2 g2 hl2 hst2 hc
        go_wp2_with (refine wpList_store_range rfl 44 (.tmp 10) (.tmp 33) rfl s 0 (enc8 st2) rfl rfl _ _ Q4.out ?h2 ?h3 ?h4 ?_)
        case h2 => rw [size_enc8, size_enc8, hst.out, HL2.out]; decide
        case h3 => rw [size_enc8, HL2.out]; kernel_rfl
        case h4 => exact one_enc8 st2
        intro w3 r3 g3
        rw [putAt_all _ _ (by rw [Array.length_toList, size_enc8, size_enc8, HL2.out, hst.out])] at r3
        have q4 : w3.heap[s]? = some (.cells (enc8 st2) 44 (0, 0)) := r3
        have hbs : b + 1 + 1 < s := HBS.out
        have q1 := (g3.block _ (row_lt Q1.out) (by intro e; injection e; omega)).trans Q1.out
        have q2 := (g3.block _ (row_lt Q2.out) (by intro e; injection e; omega)).trans Q2.out
        have q3 := (g3.block _ (row_lt Q3.out) (by intro e; injection e; omega)).trans Q3.out
        have hg3 := grown_row HG2.out g3 (fun j hj => by injection hj with hj; have := HB.out; omega)
        have hblk' : blk key (ctrAt ctr k) nonce = st2 := HST2.out.symm
        have P1 := Lib.hid q1
        have P2 := Lib.hid q2
        have P3 := Lib.hid q3
        have P4 := Lib.hid q4
        have HG3 := Lib.hid hg3
        have HBK := Lib.hid hblk'
        clear q1 q2 q3 q4 hg3 g3 r3 hblk' hc2 Q1 Q2 Q3 Q4 HG2
        have e7 := row8_at P4.out (k % 64) (by rw [HL2.out]; omega)
        have hi0 : (0 : Int) ≤ (k : Int) % 64 := by omega
        have hi1 : (k : Int) % 64 < 64 := by omega
        have hi2 : ((k : Int) % 64).toNat = k % 64 := by omega
        go_wp2_with (refine wpList_store_cell rfl 5 (.tmp 42) (.tmp 41) rfl (b + 1 + 1) k _ ?h1 rfl _ _ P3.out ?h2 ?h3 rfl rfl ?_)
        case h1 => simp [Act.eval]
        case h2 => rw [size_enc8, List.length_append, length_xorL, List.length_replicate]; omega
        case h3 => kernel_rfl
        intro w6 r6 g6
        have r7 := row8_set r6
        have hbk : blk key (ctrAt ctr k) nonce = st2 := HBK.out
        rw [show bits BinOp.xor IntKind.u8 (bs[k]?.getD 0) (st2[k % 64]?.getD 0) = xorB key ctr nonce bs k by unfold xorB strB; rw [hbk]; rfl, xorL_step key ctr nonce bs k len hlt] at r7
        have R7 := Lib.hid r7
        have G6 := Lib.hid g6
        have HBK2 := Lib.hid hbk
        clear r6 r7 g6 hbk
        go_wp2_with fail
        go_roundw
        case rel =>
          have hbs : b + 1 + 1 < s := HBS.out
          refine ⟨k + 1, by omega, by go_num, ?_, ?_, R7.out, ⟨st2, HL2, ?_, fun _ => ?_⟩, ?_⟩
          · exact (G6.out.block _ (row_lt P1.out) (by intro e; injection e; omega)).trans P1.out
          · exact (G6.out.block _ (row_lt P2.out) (by intro e; injection e; omega)).trans P2.out
          · exact (G6.out.block _ (row_lt P4.out) (by intro e; injection e; omega)).trans P4.out
          · exact HBK2.out.symm
          · exact grown_row HG3.out G6.out (fun j hj => by injection hj with hj; have := HB.out; omega)
        case measure => simp [intOf]; omega
      | false =>
        have hpos : 0 < k := by
          rcases Nat.eq_zero_or_pos k with h | h
          · subst h; simp at hm
          · exact h
        have hne : k % 64 ≠ 0 := by
          intro e
          have : (k : Int) % 64 = 0 := by omega
          rw [this] at hm; simp at hm
        have hsame : st = blk key (ctrAt ctr k) nonce := by
          rw [hblk.out hpos]
          have : (k - 1) / 64 = k / 64 := by omega
          unfold ctrAt; rw [this]
        have HSAME := Lib.hid hsame
        clear hsame hne
        have e7 := row8_at R4.out (k % 64) (by rw [hst.out]; omega)
        have hi0 : (0 : Int) ≤ (k : Int) % 64 := by omega
        have hi1 : (k : Int) % 64 < 64 := by omega
        have hi2 : ((k : Int) % 64).toNat = k % 64 := by omega
        go_wp2_with (refine wpList_store_cell rfl 5 (.tmp 42) (.tmp 41) rfl (b + 1 + 1) k _ ?h1 rfl _ _ R3.out ?h2 ?h3 rfl rfl ?_)
        case h1 => simp [Act.eval]
        case h2 => rw [size_enc8, List.length_append, length_xorL, List.length_replicate]; omega
        case h3 => kernel_rfl
        intro w6 r6 g6
        have r7 := row8_set r6
        have hbk : blk key (ctrAt ctr k) nonce = st := HSAME.out.symm
        rw [show bits BinOp.xor IntKind.u8 (bs[k]?.getD 0) (st[k % 64]?.getD 0) = xorB key ctr nonce bs k by unfold xorB strB; rw [hbk]; rfl, xorL_step key ctr nonce bs k len hlt] at r7
        have R7 := Lib.hid r7
        have G6 := Lib.hid g6
        have HBK2 := Lib.hid hbk
        clear r6 r7 g6 hbk
        go_wp2_with fail
        go_roundw
        case rel =>
          have hbs : b + 1 + 1 < s := HBS.out
          refine ⟨k + 1, by omega, by go_num, ?_, ?_, R7.out, ⟨st, hst, ?_, fun _ => ?_⟩, ?_⟩
          · exact (G6.out.block _ (row_lt R1.out) (by intro e; injection e; omega)).trans R1.out
          · exact (G6.out.block _ (row_lt R2.out) (by intro e; injection e; omega)).trans R2.out
          · exact (G6.out.block _ (row_lt R4.out) (by intro e; injection e; omega)).trans R4.out
          · exact HBK2.out.symm
          · exact grown_row HG.out G6.out (fun j hj => by injection hj with hj; have := HB.out; omega)
        case measure => simp [intOf]; omega
    · have : k = len := by omega
      subst this
      have R8 := R3.out
      rw [Nat.sub_self, List.replicate_zero, List.append_nil] at R8
      have R9 := Lib.hid R8
      clear R8
      go_wp2_with fail
      go_ret
      exact ret8_row R9.out (by rw [length_xorL]) (by have := HB.out; omega) HG.out (by rw [length_xorL]; unfold maxLen; omega)
end Go.Proofs.Ythhijeokeljcjaa
