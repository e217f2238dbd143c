/- Bytes enciphered by the reference, walked. -/
import Derived.Test.YthhijeokeljcjaaChaX
import Derived.Deep.Onto
namespace Go.Proofs.Ythhijeokeljcjaa
set_option linter.unusedVariables false
set_option linter.unusedSimpArgs false
open Go.RowKit Go.Proofs.YthhijeokeljcjaaL

def outL (key : List Int) (ctr : Int) (nonce bs : List Int) (k : Nat) : List Int := xorL key ctr nonce bs k ++ bs.drop k
theorem outL_0 (key : List Int) (ctr : Int) (nonce bs : List Int) : outL key ctr nonce bs 0 = bs := by simp [outL, xorL]
theorem length_outL (key : List Int) (ctr : Int) (nonce bs : List Int) (k : Nat) (hk : k ≤ bs.length) : (outL key ctr nonce bs k).length = bs.length := by
  rw [outL, List.length_append, length_xorL, List.length_drop]; omega
theorem outL_at (key : List Int) (ctr : Int) (nonce bs : List Int) (k : Nat) : (outL key ctr nonce bs k).getD k 0 = bs.getD k 0 := by
  rw [List.getD_eq_getElem?_getD, List.getD_eq_getElem?_getD, outL, List.getElem?_append_right (by rw [length_xorL]; exact Nat.le_refl _), length_xorL, Nat.sub_self, List.getElem?_drop, Nat.add_zero]
theorem outL_step (key : List Int) (ctr : Int) (nonce bs : List Int) (k : Nat) (hk : k < bs.length) : (outL key ctr nonce bs k).set k (xorB key ctr nonce bs k) = outL key ctr nonce bs (k + 1) := by
  rw [outL, List.set_append_right _ _ (by rw [length_xorL]; exact Nat.le_refl _), length_xorL, Nat.sub_self, List.drop_eq_getElem_cons hk, List.set_cons_zero]
  simp [outL, xorL, List.range_succ]
theorem outL_all (key : List Int) (ctr : Int) (nonce bs : List Int) : outL key ctr nonce bs bs.length = xorL key ctr nonce bs bs.length := by simp [outL]
theorem own8_cell {w : World} {base : Nat} {g : Nat} {cap n : Nat} {xs : List Int} (h : w.ownsRow base 5 1 (.slice (some ⟨g, 0, none⟩) n cap) n (xs.map (Value.int .u8))) (i : Nat) (hi : i < xs.length) :
    w.cell? ⟨g, i, none⟩ = some (.int .u8 (xs.getD i 0)) := by
  have := World.ownsRow.cells h rfl i (.int .u8 (xs.getD i 0)) (by simp [List.getElem?_eq_getElem hi])
  rwa [Addr.add_mid, Nat.zero_add] at this
theorem sl8_src {w : World} {a : Option Addr} {len cap : Nat} {bs : List Int} (h : Sl8 w a len bs) (hn : len = 0 → a = none ∧ cap = 0 ∨ ∃ x, a = some x) : Src w (.slice a len cap) (bs.map (Value.int .u8)) := by
  obtain ⟨hl, h8, hc⟩ := h
  rcases a with _ | x
  · have h0 : len = 0 := by
      rcases Nat.eq_zero_or_pos len with h | h
      · exact h
      · obtain ⟨x, hx, -⟩ := hc 0 h; cases hx
    subst h0
    rcases hn rfl with ⟨-, h⟩ | ⟨x, hx⟩
    · subst h
      exact .inl ⟨rfl, by rw [List.length_eq_zero_iff.1 hl]; rfl⟩
    · cases hx
  · refine .inr ⟨x, cap, by rw [List.length_map, hl], fun j u hu => ?_⟩
    rw [List.getElem?_map, Option.map_eq_some_iff] at hu
    obtain ⟨y, hy, rfl⟩ := hu
    have hj := (List.getElem?_eq_some_iff.1 hy).1
    obtain ⟨x', hx, hcc⟩ := hc j (by omega)
    injection hx with hx
    subst hx
    rw [hcc, List.getD_eq_getElem?_getD, hy]; rfl

set_option maxHeartbeats 4000000 in
set_option maxRecDepth 100000 in
theorem rxor_any (key nonce : List Int) (ctr : Int) (a : Option Addr) (len cap : Nat) (bs : List Int) (w : World) (hk : key.length = 32) (hn : nonce.length = 12) (hk8 : ok8 key) (hn8 : ok8 nonce) (hc0 : 0 ≤ ctr) (hc1 : ctr < 4294967296)
    (hb : Sl8 w a len bs) (hnil : len = 0 → a = none ∧ cap = 0 ∨ ∃ x, a = some x) (hl : (len : Int) ≤ 100000) :
    Calls Try.prog 16 #[.agg (enc8 key), .int .u32 ctr, .agg (enc8 nonce), .slice a len cap] w (Ret8 w (xorL key ctr nonce bs len)) := by
  have HK := Lib.hid hk
  have HN := Lib.hid hn
  have HK8 := Lib.hid hk8
  have HN8 := Lib.hid hn8
  have HBS' := Lib.hid hb
  have HSRC := Lib.hid (sl8_src hb hnil)
  have HL := Lib.hid hb.1
  clear hk hn hk8 hn8 hb hnil
  go_enter Try.func16, Try.ntmps16
  go_wp2_with (at_builtin; refine wpList_app_src rfl (.const (.slice none 0 0)) (.tmp 12) 24 rfl (w.heap.size + 1 + 1) 5 (.int .u8 0) 1 Try.underlying24 (by kernel_rfl) rfl _ 0 [] rfl (World.ownsRow_nil _ _ _ _) (.slice a len cap) (bs.map (Value.int .u8)) rfl ?hs ?h1 ?h2 ?h3 ?h4 ?_)
  case hs => rcases HSRC.out with ⟨h, h'⟩ | ⟨ad, c, h, h'⟩
             · exact .inl ⟨h, h'⟩
             · exact .inr ⟨ad, c, h, fun j u hu => (grown_alloc (grown_alloc (grown_refl w none) _) _).cell (h' j u hu) (by simp)⟩
  case h1 => intro u hu; rw [List.mem_map] at hu; obtain ⟨y, -, rfl⟩ := hu; rfl
  case h2 => rw [List.length_map, HL.out]; unfold maxLen; omega
  case h3 => rw [List.length_map, HL.out]; omega
  case h4 => simp only [alloc_size]; omega
  rintro v1 w1 o1 g1
  rw [HL.out] at o1
  obtain ⟨b, hb⟩ : ∃ b, w.heap.size = b := ⟨_, rfl⟩
  have g1' : ((w.alloc (.cells (enc8 key) 22 (0, 0))).alloc (.cells (enc8 nonce) 38 (0, 0))).grownBy w1 none := g1
  have hk1 : w1.heap[b]? = some (.cells (enc8 key) 22 (0, 0)) := by
    rw [← hb, g1'.block _ (by simp only [alloc_size]; omega) (by simp), alloc_up _ _ (by simp only [alloc_size]; omega)]; exact alloc_at _ _ rfl
  have hn1 : w1.heap[b + 1]? = some (.cells (enc8 nonce) 38 (0, 0)) := by
    rw [← hb, g1'.block _ (by simp only [alloc_size]; omega) (by simp)]; exact alloc_at _ _ (by simp only [alloc_size])
  have hg1 : w.grownBy w1 none := grown_trans (grown_alloc (grown_alloc (grown_refl w none) _) _) g1'
  rw [hb] at o1 ⊢
  obtain ⟨s, hs⟩ : ∃ s, w1.heap.size = s := ⟨_, rfl⟩
  obtain ⟨a1, c1, hv1⟩ := own_slice o1
  have hgb : ∀ k, v1.ownBlock = some k → b + 1 + 1 ≤ k ∧ k < s := hs ▸ World.ownsRow.lt o1
  subst hv1
  have HB := Lib.hid hb
  have HK1 := Lib.hid hk1
  have HN1 := Lib.hid hn1
  have HG1 := Lib.hid hg1
  have HO1 := Lib.hid o1
  have HS := Lib.hid hs
  have HGB := Lib.hid hgb
  have HBS : Hid (b + 1 < s) := by rw [← HS.out]; exact row_lt HN1.out
  clear hb hk1 hn1 hg1 o1 g1 g1' hs hgb
  go_wp2_with fail
  rw [HS.out]
  go_loopw [11] (fun v wr => ∃ k : Nat, k ≤ len ∧ v = .int .i64 k ∧ wr.heap[b]? = some (.cells (enc8 key) 22 (0, 0)) ∧ wr.heap[b + 1]? = some (.cells (enc8 nonce) 38 (0, 0)) ∧
    Hid (wr.ownsRow (b + 1 + 1) 5 1 (.slice a1 len c1) len ((outL key ctr nonce bs k).map (Value.int .u8))) ∧ (∃ st : List Int, Hid (st.length = 64) ∧ wr.heap[s]? = some (.cells (enc8 st) 44 (0, 0)) ∧ Hid (0 < k → st = blk key (ctrAt ctr (k - 1)) nonce)) ∧ w.grownBy wr none) (fun v _ => len - (intOf v).toNat)
  case atStart =>
    refine ⟨0, by omega, rfl, ?_, ?_, ?_, ⟨List.replicate 64 0, rfl, ?_, fun h => absurd h (by omega)⟩, grown_alloc HG1.out _⟩
    · exact (alloc_up _ _ (row_lt HK1.out)).trans HK1.out
    · exact (alloc_up _ _ (row_lt HN1.out)).trans HN1.out
    · rw [outL_0]; exact World.ownsRow.alloc HO1.out _
    · exact alloc_at _ _ HS.out.symm
  case round =>
    obtain ⟨k, hk, rfl, r1, r2, r3, ⟨st, hst, r4, hblk⟩, hg⟩ := hrel
    have R1 := Lib.hid r1
    have R2 := Lib.hid r2
    have R3 := r3
    have R4 := Lib.hid r4
    have HG := Lib.hid hg
    clear r1 r2 r3 r4 hg
    by_cases hlt : k < len
    · obtain ⟨g, cap, cur, hv, hg0, hcur, hcs, hct, hset⟩ := own_open R3.out (by omega)
      injection hv with ha hc hcap
      subst ha
      subst hcap
      have hbb := HGB.out g rfl
      obtain ⟨hg1, hg2⟩ := hbb
      clear hg0 hcs hct hcur hset cur
      have hcb := ok8_at HBS'.out.2.1 k
      obtain ⟨hc0, hc1⟩ := hcb
      cases hm : ((k : Int) % 64 == 0) with
      | true =>
        go_wp2_with (first | (refine wpList_load_row rfl 22 (.tmp 4) rfl b rfl _ _ _ _ R1.out Try.underlying22 rfl (by rw [size_enc8, HK.out]; kernel_rfl) ?_) | (refine wpList_load_row rfl 38 (.tmp 6) rfl (b + 1) rfl _ _ _ _ R2.out Try.underlying38 rfl (by rw [size_enc8, HN.out]; kernel_rfl) ?_))
        rw [show (ctr + (k : Int) / 64) % 4294967296 = ctrAt ctr k by unfold ctrAt; omega]
        refine (rblock_any key nonce (ctrAt ctr k) _ HK.out HN.out HK8.out HN8.out (by unfold ctrAt; omega) (by unfold ctrAt; omega)).mono ?_
        rintro e w2 ⟨rfl, g2⟩
        obtain ⟨st2, hst2⟩ : ∃ st2, st2 = blk key (ctrAt ctr k) nonce := ⟨_, rfl⟩
        have hl2 : st2.length = 64 := by rw [hst2]; exact length_outs _ _ _
        rw [← hst2]
        have q1 := (g2.block _ (row_lt R1.out) (by simp)).trans R1.out
        have q2 := (g2.block _ (row_lt R2.out) (by simp)).trans R2.out
        have q3 := own_keep R3.out g2 (by simp)
        have q4 := (g2.block _ (row_lt R4.out) (by simp)).trans R4.out
        have hg2' := grown_trans HG.out g2
        have Q1 := Lib.hid q1
        have Q2 := Lib.hid q2
        have Q3 := Lib.hid q3
        have Q4 := Lib.hid q4
        have HG2 := Lib.hid hg2'
        have HL2 := Lib.hid hl2
        have HST2 := Lib.hid hst2
        clear q1 q2 q3 q4 hg2' g2 hl2 hst2
        go_wp2_with (refine wpList_store_range rfl 44 (.tmp 10) (.tmp 30) rfl s 0 (enc8 st2) rfl rfl _ _ Q4.out ?h2 ?h3 ?h4 ?_)
        case h2 => rw [size_enc8, size_enc8, hst.out, HL2.out]; decide
        case h3 => rw [size_enc8, HL2.out]; kernel_rfl
        case h4 => exact one_enc8 st2
        intro w3 r3 g3
        rw [putAt_all _ _ (by rw [Array.length_toList, size_enc8, size_enc8, HL2.out, hst.out])] at r3
        have q4 : w3.heap[s]? = some (.cells (enc8 st2) 44 (0, 0)) := r3
        have hbs : b + 1 < s := HBS.out
        have q1 := (g3.block _ (row_lt Q1.out) (by intro e; injection e; omega)).trans Q1.out
        have q2 := (g3.block _ (row_lt Q2.out) (by intro e; injection e; omega)).trans Q2.out
        have q3 := World.ownsRow.kept Q3.out g3 (.inr (by intro e; have e1 : some g = some s := e; injection e1; omega))
        have hg3 := grown_row HG2.out g3 (fun j hj => by injection hj with hj; have := HB.out; omega)
        have hblk' : blk key (ctrAt ctr k) nonce = st2 := HST2.out.symm
        have P1 := Lib.hid q1
        have P2 := Lib.hid q2
        have P3 := Lib.hid q3
        have P4 := Lib.hid q4
        have HG3 := Lib.hid hg3
        have HBK := Lib.hid hblk'
        clear q1 q2 q3 q4 hg3 g3 r3 hblk' Q1 Q2 Q3 Q4 HG2
        have e1 := own8_cell P3.out k (by rw [length_outL _ _ _ _ _ (by rw [HL.out]; omega), HL.out]; omega)
        rw [outL_at] at e1
        have e7 := row8_at P4.out (k % 64) (by rw [HL2.out]; omega)
        have hi0 : (0 : Int) ≤ (k : Int) % 64 := by omega
        have hi1 : (k : Int) % 64 < 64 := by omega
        have hi2 : ((k : Int) % 64).toNat = k % 64 := by omega
        obtain ⟨g', cap', cur, hv', -, hcur, hcs, hct, hset⟩ := own_open P3.out (by omega)
        injection hv' with ha' _ hc'
        subst hc'
        injection ha' with ha'
        injection ha' with ha'
        subst ha'
        have HCUR := Lib.hid hcur
        have HCS := Lib.hid hcs
        have HSET := Lib.hid hset
        clear hcur hcs hct hset
        go_wp2_with (first | (refine wp_region_quiet_tail 9 (by kernel_rfl) (by kernel_rfl) ?_; simp only [List.take_succ_cons, List.take_zero, List.drop_succ_cons, List.drop_zero]; (repeat (go_big_quiet_step (fail))); refine wpQuiet_nil ?_; rintro _ ⟨nq, rfl⟩) | (refine wpList_store_cell rfl 5 (.tmp 40) (.tmp 39) rfl g k _ (by simp [Act.eval]) rfl _ _ HCUR.out (by have := HCS.out; omega) (by kernel_rfl) rfl rfl ?_))
        intro w6 r6 g6
        have r7 := HSET.out _ _ _ r6
        have hbk : blk key (ctrAt ctr k) nonce = st2 := HBK.out
        rw [show bits BinOp.xor IntKind.u8 (bs[k]?.getD 0) (st2[k % 64]?.getD 0) = xorB key ctr nonce bs k by unfold xorB strB; rw [hbk]; rfl, ← List.map_set, outL_step key ctr nonce bs k (by rw [HL.out]; exact hlt)] at r7
        have R7 := Lib.hid r7
        have G6 := Lib.hid g6
        have HBK2 := Lib.hid hbk
        clear r6 r7 g6 hbk
        go_wp2_with fail
        go_roundw
        case rel =>
          have hbs : b + 1 < s := HBS.out
          refine ⟨k + 1, by omega, by go_num, ?_, ?_, R7, ⟨st2, HL2, ?_, fun _ => ?_⟩, ?_⟩
          · exact (G6.out.block _ (row_lt P1.out) (by intro e; injection e; omega)).trans P1.out
          · exact (G6.out.block _ (row_lt P2.out) (by intro e; injection e; omega)).trans P2.out
          · exact (G6.out.block _ (row_lt P4.out) (by intro e; injection e; omega)).trans P4.out
          · exact HBK2.out.symm
          · exact grown_row (grown_trans HG3.out (grown_drewN _ nq none)) G6.out (fun j hj => by injection hj with hj; have := HB.out; omega)
        case measure => simp [intOf]; omega
      | false =>
        have hpos : 0 < k := by
          rcases Nat.eq_zero_or_pos k with h | h
          · subst h; simp at hm
          · exact h
        have hne : k % 64 ≠ 0 := by
          intro e
          have : (k : Int) % 64 = 0 := by omega
          rw [this] at hm; simp at hm
        have hsame : blk key (ctrAt ctr k) nonce = st := by
          rw [hblk.out hpos]
          have : (k - 1) / 64 = k / 64 := by omega
          unfold ctrAt; rw [this]
        have HBK := Lib.hid hsame
        clear hsame hne
        have e1 := own8_cell R3.out k (by rw [length_outL _ _ _ _ _ (by rw [HL.out]; omega), HL.out]; omega)
        rw [outL_at] at e1
        have e7 := row8_at R4.out (k % 64) (by rw [hst.out]; omega)
        have hi0 : (0 : Int) ≤ (k : Int) % 64 := by omega
        have hi1 : (k : Int) % 64 < 64 := by omega
        have hi2 : ((k : Int) % 64).toNat = k % 64 := by omega
        obtain ⟨g', cap', cur, hv', -, hcur, hcs, hct, hset⟩ := own_open R3.out (by omega)
        injection hv' with ha' _ hc'
        subst hc'
        injection ha' with ha'
        injection ha' with ha'
        subst ha'
        have HCUR := Lib.hid hcur
        have HCS := Lib.hid hcs
        have HSET := Lib.hid hset
        clear hcur hcs hct hset
        go_wp2_with (first | (refine wp_region_quiet_tail 9 (by kernel_rfl) (by kernel_rfl) ?_; simp only [List.take_succ_cons, List.take_zero, List.drop_succ_cons, List.drop_zero]; (repeat (go_big_quiet_step (fail))); refine wpQuiet_nil ?_; rintro _ ⟨nq, rfl⟩) | (refine wpList_store_cell rfl 5 (.tmp 40) (.tmp 39) rfl g k _ (by simp [Act.eval]) rfl _ _ HCUR.out (by have := HCS.out; omega) (by kernel_rfl) rfl rfl ?_))
        intro w6 r6 g6
        have r7 := HSET.out _ _ _ r6
        have hbk : blk key (ctrAt ctr k) nonce = st := HBK.out
        rw [show bits BinOp.xor IntKind.u8 (bs[k]?.getD 0) (st[k % 64]?.getD 0) = xorB key ctr nonce bs k by unfold xorB strB; rw [hbk]; rfl, ← List.map_set, outL_step key ctr nonce bs k (by rw [HL.out]; exact hlt)] at r7
        have R7 := Lib.hid r7
        have G6 := Lib.hid g6
        have HBK2 := Lib.hid hbk
        clear r6 r7 g6 hbk
        go_wp2_with fail
        go_roundw
        case rel =>
          have hbs : b + 1 < s := HBS.out
          refine ⟨k + 1, by omega, by go_num, ?_, ?_, R7, ⟨st, hst, ?_, fun _ => ?_⟩, ?_⟩
          · exact (G6.out.block _ (row_lt R1.out) (by intro e; injection e; omega)).trans R1.out
          · exact (G6.out.block _ (row_lt R2.out) (by intro e; injection e; omega)).trans R2.out
          · exact (G6.out.block _ (row_lt R4.out) (by intro e; injection e; omega)).trans R4.out
          · exact HBK2.out.symm
          · exact grown_row (grown_trans HG.out (grown_drewN _ nq none)) G6.out (fun j hj => by injection hj with hj; have := HB.out; omega)
        case measure => simp [intOf]; omega
    · have : k = len := by omega
      subst this
      have R8 := R3.out
      rw [show outL key ctr nonce bs k = xorL key ctr nonce bs k by rw [← HL.out]; exact outL_all key ctr nonce bs] at R8
      have R9 := Lib.hid R8
      clear R8
      go_wp2_with fail
      go_ret
      refine ⟨_, rfl, ?_, HG.out⟩
      rw [length_xorL]
      exact World.ownsRow.mono R9.out (by have := HB.out; omega)
end Go.Proofs.Ythhijeokeljcjaa
