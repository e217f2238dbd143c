/- A block of ChaCha20's stream, walked: the program's. -/
import Derived.Test.YthhijeokeljcjaaChaQ
namespace Go.Proofs.Ythhijeokeljcjaa
set_option linter.unusedVariables false
set_option linter.unusedSimpArgs false
open Go.RowKit Go.Proofs.YthhijeokeljcjaaL

def enc8 (s : List Int) : Array Value := (s.map (Value.int .u8)).toArray
def ok8 (s : List Int) : Prop := ∀ x ∈ s, 0 ≤ x ∧ x < 256
def wordAt (bs : List Int) (i : Nat) : Int := word4 (bs.getD (4 * i) 0) (bs.getD (4 * i + 1) 0) (bs.getD (4 * i + 2) 0) (bs.getD (4 * i + 3) 0)

def setW (s bs : List Int) (off : Nat) : Nat → List Int
  | 0 => s
  | k + 1 => (setW s bs off k).set (off + k) (wordAt bs k)
theorem length_setW (s bs : List Int) (off k : Nat) : (setW s bs off k).length = s.length := by
  induction k with
  | zero => rfl
  | succ k ih => rw [setW, List.length_set, ih]

theorem row8_at {w : World} {b T : Nat} {s : List Int} (h : w.heap[b]? = some (.cells (enc8 s) T (0, 0))) (i : Nat) (hi : i < s.length) : w.cell? ⟨b, i, none⟩ = some (.int .u8 (s.getD i 0)) :=
  row_cell h i _ (by simp [enc8, hi])
theorem ok8_at {s : List Int} (h : ok8 s) (i : Nat) : 0 ≤ s.getD i 0 ∧ s.getD i 0 < 256 := by
  rw [List.getD_eq_getElem?_getD]
  cases hs : s[i]? with
  | none => simp
  | some x => exact h x (List.mem_of_getElem? hs)

/-- What a block's memory is: the key, the nonce, the result's place, the state. -/
structure BF (w : World) (b : Nat) (key nonce s : List Int) (wr : World) : Prop where
  key : wr.heap[b]? = some (.cells (enc8 key) 22 (0, 0))
  nonce : wr.heap[b + 1]? = some (.cells (enc8 nonce) 38 (0, 0))
  out : ∃ c, c.size = 64 ∧ wr.heap[b + 1 + 1]? = some (.cells c 44 (0, 0))
  s : Row32 wr (b + 1 + 1 + 1) 53 s
  grown : w.grownBy wr none

theorem word4_range (a b c d : Int) : 0 ≤ word4 a b c d ∧ word4 a b c d < 4294967296 := bits_range32 _ _ _
theorem ok_setW {s : List Int} (h : ok32 s) (bs : List Int) (off k : Nat) : ok32 (setW s bs off k) := by
  induction k with
  | zero => exact h
  | succ k ih => exact ok32_set ih _ _ (word4_range _ _ _ _)

theorem BF.drawn {w : World} {b : Nat} {key nonce s : List Int} {wr wr' : World} (h : BF w b key nonce s wr) (d : Drawn wr wr') : BF w b key nonce s wr' := by
  obtain ⟨n, rfl⟩ := d
  exact ⟨h.key, h.nonce, h.out, h.s, grown_trans h.grown (grown_drewN _ _ _)⟩
theorem BF.kept {w : World} {b : Nat} {key nonce s : List Int} {wr wr' : World} {r : Option Nat} (hb : w.heap.size = b) (h : BF w b key nonce s wr) (g : wr.grownBy wr' r) (hr : ∀ k, r = some k → b + 1 + 1 + 1 < k) : BF w b key nonce s wr' := by
  obtain ⟨h1, h2, ⟨c, hc, h3⟩, h4, h5⟩ := h
  have ne : ∀ k, k ≤ b + 1 + 1 + 1 → some k ≠ r := fun k hk e => by have := hr k e.symm; omega
  exact ⟨by rw [g.block _ (row_lt h1) (ne _ (by omega))]; exact h1, by rw [g.block _ (row_lt h2) (ne _ (by omega))]; exact h2, ⟨c, hc, by rw [g.block _ (row_lt h3) (ne _ (by omega))]; exact h3⟩,
    by unfold Row32 at *; rw [g.block _ (row_lt h4) (ne _ (by omega))]; exact h4, grown_row h5 g (fun k hk => by have := hr k hk; omega)⟩
theorem BF.store {w : World} {b : Nat} {key nonce s : List Int} {wr wr' : World} {i : Nat} {x : Int} (hb : w.heap.size = b) (h : BF w b key nonce s wr) (g : wr.grownBy wr' (some (b + 1 + 1 + 1)))
    (r : wr'.heap[b + 1 + 1 + 1]? = some (.cells ((enc32 s).setIfInBounds i (.int .u32 x)) 53 (0, 0))) : BF w b key nonce (s.set i x) wr' := by
  obtain ⟨h1, h2, ⟨c, hc, h3⟩, h4, h5⟩ := h
  exact ⟨by rw [g.block _ (row_lt h1) (by intro e; injection e; omega)]; exact h1, by rw [g.block _ (row_lt h2) (by intro e; injection e; omega)]; exact h2, ⟨c, hc, by rw [g.block _ (row_lt h3) (by intro e; injection e; omega)]; exact h3⟩,
    row32_set r, grown_row h5 g (fun k hk => by cases hk; omega)⟩

theorem quarter_at (p T : Nat) (s : List Int) (a b c d : Nat) (A B C D : Int) (w : World) (hA : A = a) (hB : B = b) (hC : C = c) (hD : D = d) (hr : Row32 w p T s) (hl : s.length = 16) (hs : ok32 s) (ha : (a : Int) < 16) (hb : (b : Int) < 16) (hc : (c : Int) < 16) (hd : (d : Int) < 16) :
    Calls Try.prog 29 #[.pointer (some ⟨p, 0, none⟩), .int .i64 A, .int .i64 B, .int .i64 C, .int .i64 D] w fun e w' => e = .returned (.tuple #[]) ∧ Row32 w' p T (qr s a b c d) ∧ w.grownBy w' (some p) := by
  subst hA hB hC hD
  exact quarter_any p T s a b c d w hr hl hs ha hb hc hd

theorem one_enc32 (s : List Int) : (enc32 s).all (·.oneCell') = true := by
  unfold enc32
  refine all_oneCell_toArray ?_
  intro v hv
  obtain ⟨x, -, rfl⟩ := List.mem_map.1 hv
  rfl
theorem length_qa (s : List Int) (a b : Nat) : (qa s a b).length = s.length := List.length_set ..
theorem length_qx (s : List Int) (d a k : Nat) : (qx s d a k).length = s.length := List.length_set ..
theorem length_qr (s : List Int) (a b c d : Nat) : (qr s a b c d).length = s.length := by simp only [qr, length_qa, length_qx]
theorem ok_qr {s : List Int} (h : ok32 s) (a b c d : Nat) : ok32 (qr s a b c d) :=
  ok_qx (ok_qa (ok_qx (ok_qa (ok_qx (ok_qa (ok_qx (ok_qa h _ _) _ _ _) _ _) _ _ _) _ _) _ _ _) _ _) _ _ _
def colK (s : List Int) : Nat → List Int
  | 0 => s
  | k + 1 => qr (colK s k) k (4 + k) (8 + k) (12 + k)
def diagK (s : List Int) : Nat → List Int
  | 0 => s
  | k + 1 => qr (diagK s k) k (4 + (k + 1) % 4) (8 + (k + 2) % 4) (12 + (k + 3) % 4)
def roundK (s : List Int) : Nat → List Int
  | 0 => s
  | k + 1 => diagK (colK (roundK s k) 4) 4
theorem col_fine {s : List Int} (h : ok32 s) (k : Nat) : ok32 (colK s k) ∧ (colK s k).length = s.length := by
  induction k with
  | zero => exact ⟨h, rfl⟩
  | succ k ih => exact ⟨ok_qr ih.1 _ _ _ _, by rw [colK, length_qr, ih.2]⟩
theorem diag_fine {s : List Int} (h : ok32 s) (k : Nat) : ok32 (diagK s k) ∧ (diagK s k).length = s.length := by
  induction k with
  | zero => exact ⟨h, rfl⟩
  | succ k ih => exact ⟨ok_qr ih.1 _ _ _ _, by rw [diagK, length_qr, ih.2]⟩
theorem round_fine {s : List Int} (h : ok32 s) (k : Nat) : ok32 (roundK s k) ∧ (roundK s k).length = s.length := by
  induction k with
  | zero => exact ⟨h, rfl⟩
  | succ k ih =>
    have h1 := col_fine ih.1 4
    have h2 := diag_fine h1.1 4
    exact ⟨h2.1, by rw [roundK, h2.2, h1.2, ih.2]⟩

/-- A byte of the result: of the state behind the rounds and that ahead of them. -/
def outB (x s : List Int) (i : Nat) : Int := (x.getD (i / 4) 0 + s.getD (i / 4) 0) % 4294967296 / 2 ^ (8 * (i % 4)) % 256
def outs (x s : List Int) (n : Nat) : List Int := (List.range n).map (outB x s)
theorem length_outs (x s : List Int) (n : Nat) : (outs x s n).length = n := by simp [outs]
theorem outs_step (x s : List Int) (i n : Nat) (hi : i < n) : (outs x s i ++ List.replicate (n - i) 0).set i (outB x s i) = outs x s (i + 1) ++ List.replicate (n - (i + 1)) 0 := by
  rw [List.set_append_right _ _ (by rw [length_outs]; exact Nat.le_refl _), length_outs, Nat.sub_self, show n - i = (n - (i + 1)) + 1 by omega, List.replicate_succ, List.set_cons_zero]
  simp [outs, List.range_succ]
theorem row8_set {w' : World} {b T : Nat} {s : List Int} {i : Nat} {x : Int} (h : w'.heap[b]? = some (.cells ((enc8 s).setIfInBounds i (.int .u8 x)) T (0, 0))) : w'.heap[b]? = some (.cells (enc8 (s.set i x)) T (0, 0)) := by
  rw [h]
  simp [enc8, List.map_set]
theorem size_enc8 (s : List Int) : (enc8 s).size = s.length := by simp [enc8]
theorem one_enc8 (s : List Int) : (enc8 s).all (·.oneCell') = true := by
  unfold enc8
  refine all_oneCell_toArray ?_
  intro v hv
  obtain ⟨x, -, rfl⟩ := List.mem_map.1 hv
  rfl

def s00 : List Int := [1634760805, 857760878, 2036477234, 1797285236, 0, 0, 0, 0, 0, 0, 0, 0, 0, 0, 0, 0]

/-- The state ahead of the rounds. -/
def s0 (key : List Int) (ctr : Int) (nonce : List Int) : List Int := setW ((setW s00 key 4 8).set 12 ctr) nonce 13 3
def blk (key : List Int) (ctr : Int) (nonce : List Int) : List Int := outs (roundK (s0 key ctr nonce) 10) (s0 key ctr nonce) 64
theorem ok_s00 : ok32 s00 := by unfold ok32 s00; decide
theorem fine_s0 (key : List Int) (ctr : Int) (nonce : List Int) (h : 0 ≤ ctr ∧ ctr < 4294967296) (k : Nat) :
    ok32 (setW ((setW s00 key 4 8).set 12 ctr) nonce 13 k) ∧ (setW ((setW s00 key 4 8).set 12 ctr) nonce 13 k).length = 16 :=
  ⟨ok_setW (ok32_set (ok_setW ok_s00 _ _ _) _ _ h) _ _ _, by rw [length_setW, List.length_set, length_setW]; rfl⟩

set_option maxHeartbeats 4000000 in
set_option maxRecDepth 100000 in
theorem block_any (key nonce : List Int) (ctr : Int) (w : World) (hk : key.length = 32) (hn : nonce.length = 12) (hk8 : ok8 key) (hn8 : ok8 nonce) (hc0 : 0 ≤ ctr) (hc1 : ctr < 4294967296) :
    Calls Try.prog 19 #[.agg (enc8 key), .int .u32 ctr, .agg (enc8 nonce)] w fun e w' => e = .returned (.agg (enc8 (blk key ctr nonce))) ∧ w.grownBy w' none := by
  have HK := Lib.hid hk
  have HN := Lib.hid hn
  have HK8 := Lib.hid hk8
  have HN8 := Lib.hid hn8
  clear hk hn hk8 hn8
  go_enter Try.func19, Try.ntmps19
  go_wp2_with fail
  obtain ⟨b, hb⟩ : ∃ b, w.heap.size = b := ⟨_, rfl⟩
  rw [hb]
  have HB := Lib.hid hb
  clear hb
  go_loopw [16] (fun v wr => ∃ k : Nat, k ≤ 8 ∧ v = .int .i64 k ∧ BF w b key nonce (setW s00 key 4 k) wr) (fun v _ => 8 - (intOf v).toNat)
  case atStart =>
    refine ⟨0, by omega, rfl, ?_⟩
    rw [← HB.out]
    exact ⟨four_0 _ _ _ _ _, four_1 _ _ _ _ _, ⟨_, rfl, four_2 _ _ _ _ _⟩, four_3 _ _ _ _ _, four_g _ _ _ _ _⟩
  case round =>
    obtain ⟨k, hk, rfl, hf⟩ := hrel
    have HF := Lib.hid hf
    clear hf
    by_cases hlt : k < 8
    · have e0 := row8_at HF.out.key (4 * k) (by rw [HK.out]; omega)
      have e1 := row8_at HF.out.key (4 * k + 1) (by rw [HK.out]; omega)
      have e2 := row8_at HF.out.key (4 * k + 2) (by rw [HK.out]; omega)
      have e3 := row8_at HF.out.key (4 * k + 3) (by rw [HK.out]; omega)
      have hsl := sliceAt_from (P := Try.prog) 22 32 5 Try.underlying22 (by kernel_rfl) b 0 (4 * k) (4 * (k : Int)) (by omega) (by omega)
      rw [Nat.zero_add] at hsl
      go_wp2_with fail
      have hkl := HK.out
      refine (word_any b (4 * k) (32 - 4 * k) (32 - 4 * k) _ _ _ _ _ (by omega) (by omega) (ok8_at HK8.out _) (ok8_at HK8.out _) (ok8_at HK8.out _) (ok8_at HK8.out _) e0 e1 e2 e3).mono ?_
      rintro e w1 ⟨rfl, d1⟩
      have HF1 := Lib.hid (HF.out.drawn d1)
      have HLS : Hid ((enc32 (setW s00 key 4 k)).size = 16) := by rw [size_enc32, length_setW]; rfl
      clear d1 e0 e1 e2 e3 hsl
      go_wp2_with (refine wpList_store_cell rfl 37 (.tmp 25) (.tmp 24) rfl (b + 1 + 1 + 1) (4 + k) _ ?h1 rfl _ _ HF1.out.s ?h2 ?h3 rfl rfl ?_)
      case h1 => simp [Act.eval]
      case h2 => rw [HLS.out]; omega
      case h3 => kernel_rfl
      intro w2 r2 g2
      have HF2 : Hid (BF w b key nonce (setW s00 key 4 (k + 1)) w2) := BF.store HB.out HF1.out g2 r2
      clear r2 g2
      go_wp2_with fail
      go_roundw
      case rel => exact ⟨k + 1, by omega, by go_num, HF2.out⟩
      case measure => simp [intOf]; omega
    · have : k = 8 := by omega
      subst this
      have hl8 : (setW s00 key 4 8).length = 16 := length_setW _ _ _ _
      have HL8 := Lib.hid hl8
      clear hl8
      go_wp2_with (refine wpList_store_cell rfl 37 (.tmp 28) (.tmp 27) rfl (b + 1 + 1 + 1) 12 _ rfl rfl _ _ HF.out.s ?h2 ?h3 rfl rfl ?_)
      case h2 => rw [size_enc32, HL8.out]; omega
      case h3 => kernel_rfl
      intro w2 r2 g2
      have HF2 : Hid (BF w b key nonce ((setW s00 key 4 8).set 12 ctr) w2) := BF.store HB.out HF.out g2 r2
      clear r2 g2 HF
      obtain ⟨wo, rfl⟩ : ∃ wo : World, wo = wr := ⟨_, rfl⟩
      go_wp2_with fail
      go_loopw [29] (fun v wr => ∃ k : Nat, k ≤ 3 ∧ v = .int .i64 k ∧ BF w b key nonce (setW ((setW s00 key 4 8).set 12 ctr) nonce 13 k) wr) (fun v _ => 3 - (intOf v).toNat)
      case atStart => exact ⟨0, by omega, rfl, HF2.out⟩
      case round =>
        obtain ⟨k, hk, rfl, hf⟩ := hrel
        have HF := Lib.hid hf
        clear hf
        by_cases hlt : k < 3
        · have e0 := row8_at HF.out.nonce (4 * k) (by rw [HN.out]; omega)
          have e1 := row8_at HF.out.nonce (4 * k + 1) (by rw [HN.out]; omega)
          have e2 := row8_at HF.out.nonce (4 * k + 2) (by rw [HN.out]; omega)
          have e3 := row8_at HF.out.nonce (4 * k + 3) (by rw [HN.out]; omega)
          have hsl := sliceAt_from (P := Try.prog) 38 12 5 Try.underlying38 (by kernel_rfl) (b + 1) 0 (4 * k) (4 * (k : Int)) (by omega) (by omega)
          rw [Nat.zero_add] at hsl
          go_wp2_with fail
          refine (word_any (b + 1) (4 * k) (12 - 4 * k) (12 - 4 * k) _ _ _ _ _ (by omega) (by omega) (ok8_at HN8.out _) (ok8_at HN8.out _) (ok8_at HN8.out _) (ok8_at HN8.out _) e0 e1 e2 e3).mono ?_
          rintro e w1 ⟨rfl, d1⟩
          have HF1 := Lib.hid (HF.out.drawn d1)
          have HLS : Hid ((enc32 (setW ((setW s00 key 4 8).set 12 ctr) nonce 13 k)).size = 16) := by rw [size_enc32]; exact (fine_s0 key ctr nonce ⟨hc0, hc1⟩ k).2
          clear d1 e0 e1 e2 e3 hsl
          go_wp2_with (refine wpList_store_cell rfl 37 (.tmp 38) (.tmp 37) rfl (b + 1 + 1 + 1) (13 + k) _ ?h1 rfl _ _ HF1.out.s ?h2 ?h3 rfl rfl ?_)
          case h1 => simp [Act.eval]
          case h2 => rw [HLS.out]; omega
          case h3 => kernel_rfl
          intro w2 r2 g2
          have HF2 : Hid (BF w b key nonce (setW ((setW s00 key 4 8).set 12 ctr) nonce 13 (k + 1)) w2) := BF.store HB.out HF1.out g2 r2
          clear r2 g2
          go_wp2_with fail
          go_roundw
          case rel => exact ⟨k + 1, by omega, by go_num, HF2.out⟩
          case measure => simp [intOf]; omega
        · have : k = 3 := by omega
          subst this
          have hfin := fine_s0 key ctr nonce ⟨hc0, hc1⟩ 3
          obtain ⟨s, hs⟩ : ∃ s, s = s0 key ctr nonce := ⟨_, rfl⟩
          have HF3 : Hid (BF w b key nonce s wr) := by rw [hs]; exact HF.out
          have hsf : ok32 s ∧ s.length = 16 := by rw [hs]; exact hfin
          have HS := Lib.hid hs
          have HSF := Lib.hid hsf
          clear hfin hs hsf HF
          have hrs := HF3.out.s
          have HRS := Lib.hid hrs
          clear hrs
          obtain ⟨c, hc⟩ : ∃ c, wr.heap.size = c := ⟨_, rfl⟩
          have HC := Lib.hid hc
          clear hc
          go_wp2_with (first | (refine wpList_load_row rfl 53 (.tmp 7) rfl (b + 1 + 1 + 1) rfl _ _ _ _ HRS.out Try.underlying53 rfl ?h1 ?_) | (refine wpList_store_range rfl 53 (.tmp 10) (.tmp 40) rfl wr.heap.size 0 (enc32 s) rfl rfl _ _ (heap_alloc_new _ _) ?h2 ?h3 ?h4 ?_))
          case h1 => rw [size_enc32, HSF.out.2]; kernel_rfl
          case h2 => rw [size_enc32, HSF.out.2]; decide
          case h3 => rw [size_enc32, HSF.out.2]; kernel_rfl
          case h4 => exact one_enc32 s
          intro w4 r4 g4
          have hx4 : Row32 w4 c 53 s := by
            unfold Row32
            rw [← HC.out, r4, putAt_all _ _ (by rw [Array.length_toList, size_enc32, HSF.out.2]; rfl)]
          have hb4 : BF w b key nonce s w4 := BF.kept HB.out (BF.kept HB.out HF3.out (World.grownBy_alloc _ _ none) (by simp)) g4 (fun k hk => by injection hk with hk; subst hk; exact row_lt HF3.out.s)
          have hbc : b + 1 + 1 + 1 < c := by rw [← HC.out]; exact row_lt HF3.out.s
          have HX4 := Lib.hid hx4
          have HB4 := Lib.hid hb4
          have HBC := Lib.hid hbc
          rw [HC.out]
          clear r4 g4 hx4 hb4 hbc HF3 HRS
          obtain ⟨wo2, rfl⟩ : ∃ wo2 : World, wo2 = wr := ⟨_, rfl⟩
          go_wp2_with fail
          go_loopw [41] (fun v wr => ∃ k : Nat, k ≤ 10 ∧ v = .int .i64 k ∧ BF w b key nonce s wr ∧ Row32 wr c 53 (roundK s k)) (fun v _ => 10 - (intOf v).toNat)
          case atStart => exact ⟨0, by omega, rfl, HB4.out, HX4.out⟩
          case round =>
            obtain ⟨k, hk, rfl, hbf, hx⟩ := hrel
            have HBF := Lib.hid hbf
            have HX := Lib.hid hx
            clear hbf hx
            have HRF : Hid (ok32 (roundK s k) ∧ (roundK s k).length = 16) := ⟨(round_fine HSF.out.1 k).1, (round_fine HSF.out.1 k).2.trans HSF.out.2⟩
            by_cases hlt : k < 10
            · obtain ⟨wo3, rfl⟩ : ∃ wo3 : World, wo3 = wr := ⟨_, rfl⟩
              have hdec : decide ((k : Int) < 10) = true := by simp; omega
              go_wp2_with fail
              go_loopw [43] (fun v wr => ∃ j : Nat, j ≤ 4 ∧ v = .int .i64 j ∧ BF w b key nonce s wr ∧ Row32 wr c 53 (colK (roundK s k) j)) (fun v _ => 4 - (intOf v).toNat)
              case atStart => exact ⟨0, by omega, rfl, HBF.out, HX.out⟩
              case round =>
                obtain ⟨j, hj, rfl, hbf, hx⟩ := hrel
                have HBF2 := Lib.hid hbf
                have HX2 := Lib.hid hx
                clear hbf hx
                have HCF : Hid (ok32 (colK (roundK s k) j) ∧ (colK (roundK s k) j).length = 16) := ⟨(col_fine HRF.out.1 j).1, (col_fine HRF.out.1 j).2.trans HRF.out.2⟩
                by_cases hlt2 : j < 4
                · go_wp2_with fail
                  refine (quarter_at c _ _ j (4 + j) (8 + j) (12 + j) _ _ _ _ _ (by omega) (by omega) (by omega) (by omega) HX2.out HCF.out.2 HCF.out.1 (by omega) (by omega) (by omega) (by omega)).mono ?_
                  rintro e w5 ⟨rfl, r5, g5⟩
                  have R5 := Lib.hid r5
                  have B5 := Lib.hid (BF.kept HB.out HBF2.out g5 (fun k hk => by injection hk with hk; subst hk; exact HBC.out))
                  clear r5 g5
                  go_wp2_with fail
                  go_roundw
                  case rel => exact ⟨j + 1, by omega, by go_num, B5.out, R5.out⟩
                  case measure => simp [intOf]; omega
                · have hj4 : (j : Int) = 4 := by omega
                  rw [hj4]
                  clear hj4
                  have : j = 4 := by omega
                  subst this
                  obtain ⟨wo4, rfl⟩ : ∃ wo4 : World, wo4 = wr := ⟨_, rfl⟩
                  go_wp2_with fail
                  go_loopw [55] (fun v wr => ∃ j : Nat, j ≤ 4 ∧ v = .int .i64 j ∧ BF w b key nonce s wr ∧ Row32 wr c 53 (diagK (colK (roundK s k) 4) j)) (fun v _ => 4 - (intOf v).toNat)
                  case atStart => exact ⟨0, by omega, rfl, HBF2.out, HX2.out⟩
                  case round =>
                    obtain ⟨j, hj, rfl, hbf, hx⟩ := hrel
                    have HBF3 := Lib.hid hbf
                    have HX3 := Lib.hid hx
                    clear hbf hx
                    have HDF : Hid (ok32 (diagK (colK (roundK s k) 4) j) ∧ (diagK (colK (roundK s k) 4) j).length = 16) := ⟨(diag_fine HCF.out.1 j).1, (diag_fine HCF.out.1 j).2.trans HCF.out.2⟩
                    by_cases hlt3 : j < 4
                    · go_wp2_with fail
                      refine (quarter_at c _ _ j (4 + (j + 1) % 4) (8 + (j + 2) % 4) (12 + (j + 3) % 4) _ _ _ _ _ (by omega) (by omega) (by omega) (by omega) HX3.out HDF.out.2 HDF.out.1 (by omega) (by omega) (by omega) (by omega)).mono ?_
                      rintro e w5 ⟨rfl, r5, g5⟩
                      have R5 := Lib.hid r5
                      have B5 := Lib.hid (BF.kept HB.out HBF3.out g5 (fun k hk => by injection hk with hk; subst hk; exact HBC.out))
                      clear r5 g5
                      go_wp2_with fail
                      go_roundw
                      case rel => exact ⟨j + 1, by omega, by go_num, B5.out, R5.out⟩
                      case measure => simp [intOf]; omega
                    · have : j = 4 := by omega
                      subst this
                      go_wp2_with fail
                      go_roundw
                      case rel => exact ⟨k + 1, by omega, by go_num, HBF3.out, HX3.out⟩
                      case measure => simp [intOf]; omega
            · have hk10 : (k : Int) = 10 := by omega
              rw [hk10]
              clear hk10
              have : k = 10 := by omega
              subst this
              obtain ⟨x, hx⟩ : ∃ x, x = roundK s 10 := ⟨_, rfl⟩
              have HXX := Lib.hid hx
              rw [← hx] at HX HRF
              clear hx
              have hbs := HBF.out.s
              have HBS := Lib.hid hbs
              clear hbs
              obtain ⟨d, hd⟩ : ∃ d, wr.heap.size = d := ⟨_, rfl⟩
              have HD := Lib.hid hd
              clear hd
              have HCD : Hid (c < d) := by rw [← HD.out]; exact row_lt HX.out
              go_wp2_with fail
              rw [HD.out]
              go_loopw [74] (fun v wq => ∃ i : Nat, i ≤ 64 ∧ v = .int .i64 i ∧ Row32 wq (b + 1 + 1 + 1) 53 s ∧ Row32 wq c 53 x ∧ wq.heap[d]? = some (.cells (enc8 (outs x s i ++ List.replicate (64 - i) 0)) 44 (0, 0)) ∧ (∃ q, q.size = 64 ∧ wq.heap[b + 1 + 1]? = some (.cells q 44 (0, 0))) ∧ w.grownBy wq none) (fun v _ => 64 - (intOf v).toNat)
              case atStart =>
                refine ⟨0, by omega, rfl, ?_, ?_, ?_, ?_, ?_⟩
                · exact (heap_alloc_old _ _ (row_lt HBS.out)).trans HBS.out
                · exact (heap_alloc_old _ _ (row_lt HX.out)).trans HX.out
                · rw [← HD.out]; exact heap_alloc_new _ _
                · obtain ⟨q, hq, hq2⟩ := HBF.out.out
                  exact ⟨q, hq, (heap_alloc_old _ _ (row_lt hq2)).trans hq2⟩
                · exact grown_alloc HBF.out.grown _
              case round =>
                obtain ⟨i, hi, rfl, r1, r2, r3, r4, hg⟩ := hrel
                by_cases hlt : i < 64
                · have i4 : (i : Int) / 4 < 16 := by omega
                  have i40 : (0 : Int) ≤ (i : Int) / 4 := by omega
                  have i4n : ((i : Int) / 4).toNat = i / 4 := by omega
                  have e1 := row32_at r1 (i / 4) (by rw [HSF.out.2]; omega)
                  have e2 := row32_at r2 (i / 4) (by rw [HRF.out.2]; omega)
                  have R1 := Lib.hid r1
                  have R2 := Lib.hid r2
                  have R3 := Lib.hid r3
                  have R4 := Lib.hid r4
                  have HG := Lib.hid hg
                  clear r1 r2 r3 r4 hg
                  have i8 : (0 : Int) ≤ 8 * ((i : Int) % 4) := by omega
                  have i9 : 8 * ((i : Int) % 4) ≤ 24 := by omega
                  go_wp2_with (first | (refine wp_region_quiet_tail 16 (by kernel_rfl) (by kernel_rfl) ?_; simp only [List.take_succ_cons, List.take_zero, List.drop_succ_cons, List.drop_zero]; (repeat (go_big_quiet_step (fail))); refine wpQuiet_nil ?_; rintro _ ⟨nq, rfl⟩) | (refine wpList_store_cell rfl 5 (.tmp 93) (.tmp 92) rfl d i _ ?h1 rfl _ _ R3.out ?h2 ?h3 rfl rfl ?_))
                  case h1 => simp [Act.eval]
                  case h2 => rw [size_enc8, List.length_append, length_outs, List.length_replicate]; omega
                  case h3 => kernel_rfl
                  intro w6 r6 g6
                  have r7 := row8_set r6
                  rw [show ((x[i / 4]?.getD 0 + s[i / 4]?.getD 0) % 4294967296 / 2 ^ (8 * (i % 4)) % 256) = outB x s i from rfl, outs_step x s i 64 hlt] at r7
                  have R7 := Lib.hid r7
                  have G6 := Lib.hid (grown_after g6 (grown_refl wr _) rfl rfl rfl rfl)
                  clear r6 r7 g6
                  go_wp2_with fail
                  go_roundw
                  case rel =>
                    have hbd : b + 1 + 1 + 1 < c := HBC.out
                    have hcd : c < d := HCD.out
                    refine ⟨i + 1, by omega, by go_num, ?_, ?_, R7.out, ?_, ?_⟩
                    · exact (G6.out.block _ (row_lt R1.out) (by intro e; injection e; omega)).trans R1.out
                    · exact (G6.out.block _ (row_lt R2.out) (by intro e; injection e; omega)).trans R2.out
                    · obtain ⟨q, hq, hq2⟩ := R4.out
                      exact ⟨q, hq, (G6.out.block _ (row_lt hq2) (by intro e; injection e; omega)).trans hq2⟩
                    · exact grown_row HG.out G6.out (fun k hk => by injection hk with hk; have := HB.out; omega)
                  case measure => simp [intOf]; omega
                · have : i = 64 := by omega
                  subst this
                  rw [Nat.sub_self, List.replicate_zero, List.append_nil] at r3
                  obtain ⟨q, hq, hq2⟩ := r4
                  obtain ⟨o, ho⟩ : ∃ o, o = outs x s 64 := ⟨_, rfl⟩
                  have hol : o.length = 64 := by rw [ho, length_outs]
                  have hof : blk key ctr nonce = o := by rw [ho, HXX.out, HS.out]; rfl
                  rw [← ho] at r3
                  have R3 := Lib.hid r3
                  have HQ := Lib.hid hq
                  have HQ2 := Lib.hid hq2
                  have HG := Lib.hid hg
                  have HOL := Lib.hid hol
                  have HOF := Lib.hid hof
                  clear r1 r2 r3 hq hq2 hg ho hol hof
                  go_wp2_with (first | (refine wpList_load_row rfl 44 (.tmp 13) rfl d rfl _ _ _ _ R3.out Try.underlying44 rfl ?h1 ?_) | (refine wpList_store_range rfl 44 (.tmp 6) (.tmp 95) rfl (b + 1 + 1) 0 (enc8 o) rfl rfl _ _ HQ2.out ?h2 ?h3 ?h4 ?_))
                  case h1 => rw [size_enc8, HOL.out]; kernel_rfl
                  case h2 => rw [size_enc8, HOL.out, HQ.out]; decide
                  case h3 => rw [size_enc8, HOL.out]; kernel_rfl
                  case h4 => exact one_enc8 o
                  intro w8 r8 g8
                  rw [putAt_all _ _ (by rw [Array.length_toList, size_enc8, HOL.out, HQ.out])] at r8
                  have r9 : w8.heap[b + 1 + 1]? = some (.cells (enc8 o) 44 (0, 0)) := r8
                  have R9 := Lib.hid r9
                  have HG9 : Hid (w.grownBy w8 none) := grown_row HG.out g8 (fun k hk => by injection hk with hk; have := HB.out; omega)
                  clear r8 r9 g8
                  go_wp2_with fail
                  rw [HOF.out]
                  exact bodyPost_ret (results_cell_row rfl _ _ (b + 1 + 1) _ _ _ _ rfl R9.out Try.underlying44 rfl (by rw [size_enc8, HOL.out]; kernel_rfl)) rfl ⟨rfl, HG9.out⟩
end Go.Proofs.Ythhijeokeljcjaa
