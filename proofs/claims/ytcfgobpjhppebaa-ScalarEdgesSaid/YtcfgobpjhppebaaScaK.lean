/- scalar: products. -/
import Derived.Test.YtcfgobpjhppebaaScaJ
namespace Go.Proofs.Ytcfgobpjhppebaa
set_option linter.unusedVariables false
set_option linter.unusedSimpArgs false
open Go.RowKit Go.Proofs.YtcfgobpjhppebaaL

theorem mulrange {B : Int} (hB : 1 < B) {a b : List Int} {n : Nat} (ha : a.length = n) (hoa : okB B a) (hob : okB B b) (k : Nat) (hk : k ≤ b.length) : 0 ≤ numB B a * numB B (b.take k) ∧ numB B a * numB B (b.take k) < B ^ (k + n) := by
  have h1 := numB_range (show 0 < B by omega) a hoa
  have h2 := numB_take_range hB hob k hk
  rw [ha] at h1
  refine ⟨Int.mul_nonneg h1.1 h2.1, ?_⟩
  have hp : 0 < B ^ n := Int.pow_pos (by omega)
  have hq : 0 < B ^ k := Int.pow_pos (by omega)
  have h3 : numB B a * numB B (b.take k) ≤ (B ^ n - 1) * (B ^ k - 1) := Int.mul_le_mul (by omega) (by omega) h2.1 (by omega)
  rw [Int.pow_add, Int.mul_comm (B ^ k)]
  have h4 : (B ^ n - 1) * (B ^ k - 1) = B ^ n * B ^ k - B ^ n - B ^ k + 1 := by rw [Int.sub_mul, Int.mul_sub]; omega
  omega
set_option maxHeartbeats 1000000 in
set_option maxRecDepth 100000 in
theorem wide_any (a b : List Int) (w : World) (ha : a.length = 4) (hoa : okB B64 a) (hb : b.length = 4) (hob : okB B64 b) :
    Calls Try.prog 24 #[.agg (encK .u64 a), .agg (encK .u64 b)] w fun e w' => e = .returned (.agg (encK .u64 (digB B64 8 (numB B64 a * numB B64 b)))) ∧ w.grownBy w' none := by
  have HA := Lib.hid ha
  have HOA := Lib.hid hoa
  have HB := Lib.hid hb
  have HOB := Lib.hid hob
  clear ha hoa hb hob
  go_enter Try.func24, Try.ntmps24
  obtain ⟨p, hp⟩ : ∃ p, w.heap.size = p := ⟨_, rfl⟩
  have HP := Lib.hid hp
  clear hp
  go_wp2_with (refine wpList_stop 8 rfl ?_)
  intro w1 hw1
  have hw1' : w1 = (((w.alloc (.cells (encK .u64 a) F4 (0, 0))).alloc (.cells (encK .u64 b) F4 (0, 0))).alloc (.cells (encK .u64 (List.replicate 8 0)) W8 (0, 0))).alloc (.cells (encK .u64 (List.replicate 8 0)) W8 (0, 0)) := hw1
  have r0 : w1.heap[w.heap.size]? = some (.cells (encK .u64 a) F4 (0, 0)) := by rw [hw1']; exact four_0 w _ _ _ _
  have r1 : w1.heap[w.heap.size + 1]? = some (.cells (encK .u64 b) F4 (0, 0)) := by rw [hw1']; exact four_1 w _ _ _ _
  have r2 : w1.heap[w.heap.size + 1 + 1]? = some (.cells (encK .u64 (List.replicate 8 0)) W8 (0, 0)) := by rw [hw1']; exact four_2 w _ _ _ _
  have r3 : w1.heap[w.heap.size + 1 + 1 + 1]? = some (.cells (encK .u64 (List.replicate 8 0)) W8 (0, 0)) := by rw [hw1']; exact four_3 w _ _ _ _
  have HG : Hid (w.grownBy w1 none) := by rw [hw1']; exact four_g w _ _ _ _
  rw [HP.out] at r0 r1 r2 r3 ⊢
  have R0 := Lib.hid r0
  have R1 := Lib.hid r1
  have R2 := Lib.hid r2
  have R3 := Lib.hid r3
  clear r0 r1 r2 r3 hw1 hw1'
  go_wp2_with (refine wpList_load_row rfl F4 (.tmp 3) rfl (p + 1) rfl _ _ _ _ R1.out Try.underlying48 rfl (by rw [size_encK, HB.out]; kernel_rfl) ?_)
  go_loopw [9] (fun i_ wr => ∃ k : Nat, k ≤ 4 ∧ i_ = .int .i64 k ∧ wr.heap[p]? = some (.cells (encK .u64 a) F4 (0, 0)) ∧ wr.heap[p + 1 + 1]? = some (.cells (encK .u64 (List.replicate 8 0)) W8 (0, 0)) ∧
    wr.heap[p + 1 + 1 + 1]? = some (.cells (encK .u64 (digB B64 8 (numB B64 a * numB B64 (b.take k)))) W8 (0, 0)) ∧ w.grownBy wr none) (fun v _ => 4 - (intOf v).toNat)
  case atStart =>
    exact ⟨0, by omega, rfl, R0.out, R2.out, by simp [numB]; exact R3.out, HG.out⟩
  case round =>
    obtain ⟨k, hk, rfl, r0, r2, r3, hg⟩ := hrel
    have R0 := Lib.hid r0
    have R2 := Lib.hid r2
    have R3 := Lib.hid r3
    have HG := Lib.hid hg
    clear r0 r2 r3 hg
    by_cases hlt : k < 4
    · obtain ⟨y, hy⟩ : ∃ y, y = b.getD k 0 := ⟨_, rfl⟩
      have hy0 := ok_getD (by decide) HOB.out k
      rw [← hy] at hy0
      have HY := Lib.hid hy
      clear hy
      go_wp2_with (first | (refine wpList_index_ints rfl F4 (.tmp 8) (.tmp 9) rfl 4 34 .u64 Try.underlying48 Try.underlying34 rfl b rfl HB.out _ k rfl rfl hlt ?_; rw [← HY.out]) | (refine wpList_load_row rfl F4 (.tmp 2) rfl p rfl _ _ _ _ R0.out Try.underlying48 rfl (by rw [size_encK, HA.out]; kernel_rfl) ?_))
      have hv := mulrange (B := B64) (by decide) HA.out HOA.out HOB.out k (by rw [HB.out]; omega)
      refine (row_any (p + 1 + 1 + 1) k a y (numB B64 a * numB B64 (b.take k)) _ R3.out (by omega) HA.out HOA.out hy0.1 hy0.2 hv.1 hv.2).mono ?_
      rintro e w2 ⟨rfl, h3, hg2⟩
      have hn : numB B64 a * numB B64 (b.take k) + B64 ^ k * (numB B64 a * y) = numB B64 a * numB B64 (b.take (k + 1)) := by
        rw [numB_next B64 b k (by rw [HB.out]; exact hlt), ← HY.out, Int.mul_add, ← Int.mul_assoc, Int.mul_comm (B64 ^ k), Int.mul_assoc, Int.mul_comm (B64 ^ k) y]
      rw [hn] at h3
      have R0' := Lib.hid ((hg2.block _ (row_lt R0.out) (by intro e; injection e; omega)).trans R0.out)
      have R2' := Lib.hid ((hg2.block _ (row_lt R2.out) (by intro e; injection e; omega)).trans R2.out)
      have HG2 := Lib.hid (grown_row HG.out hg2 (fun k hk => by injection hk with hk; have := HP.out; omega))
      have R3' := Lib.hid h3
      clear hg2 h3 hn hv
      go_wp2_with fail
      exact ⟨⟨k + 1, by omega, by go_num, R0'.out, R2'.out, R3'.out, HG2.out⟩, by simp [intOf]; omega⟩
    · have : k = 4 := by omega
      subst this
      have R5 := R3.out
      rw [List.take_of_length_le (by rw [HB.out]; omega)] at R5
      have R6 := Lib.hid R5
      clear R5
      go_wp2_with (first | (refine wpList_load_row rfl W8 (.tmp 5) rfl (p + 1 + 1 + 1) rfl _ _ _ _ R6.out Try.underlying45 rfl (by rw [size_encK, length_digB]; kernel_rfl) ?_) | (refine wpList_store_range rfl W8 (.tmp 4) (.tmp 18) rfl (p + 1 + 1) 0 (encK .u64 (digB B64 8 (numB B64 a * numB B64 b))) rfl rfl _ _ R2.out (by rw [size_encK, size_encK, length_digB]; decide) (by rw [size_encK, length_digB]; kernel_rfl) (one_encK _ _) ?_))
      intro w8 r8 g8
      rw [putAt_all _ _ (by rw [Array.length_toList, size_encK, size_encK, length_digB]; rfl)] at r8
      have R9 : Hid (w8.heap[p + 1 + 1]? = some (.cells (encK .u64 (digB B64 8 (numB B64 a * numB B64 b))) W8 (0, 0))) := r8
      have HG9 : Hid (w.grownBy w8 none) := grown_row HG.out g8 (fun k hk => by injection hk with hk; have := HP.out; omega)
      clear r8 g8
      go_wp2_with fail
      exact bodyPost_ret (results_cell_row rfl _ _ (p + 1 + 1) _ _ _ _ rfl R9.out Try.underlying45 rfl (by rw [size_encK, length_digB]; kernel_rfl)) rfl ⟨rfl, HG9.out⟩
abbrev A64 : Nat := 44
theorem num4 {a : List Int} (ha : a.length = 32) (hoa : okB 256 a) : numB B64 (digB B64 4 (numB 256 a)) = numB 256 a := by
  have := num32 ha hoa
  rw [numB_digB (by decide), Int.emod_eq_of_lt this.1 this.2]
set_option maxHeartbeats 1000000 in
set_option maxRecDepth 100000 in
theorem mul_any (a b : List Int) (w : World) (ha : a.length = 32) (hoa : okB 256 a) (hb : b.length = 32) (hob : okB 256 b) :
    Calls Try.prog 12 #[.agg (encK .u8 a), .agg (encK .u8 b)] w fun e w' => e = .returned (.agg (encK .u8 (digB 256 32 (numB 256 a * numB 256 b % ordL)))) ∧ w.grownBy w' none := by
  have HA := Lib.hid ha
  have HOA := Lib.hid hoa
  have HB := Lib.hid hb
  have HOB := Lib.hid hob
  clear ha hoa hb hob
  go_enter Try.func12, Try.ntmps12
  obtain ⟨p, hp⟩ : ∃ p, w.heap.size = p := ⟨_, rfl⟩
  have HP := Lib.hid hp
  clear hp
  go_wp2_with fail
  rw [HP.out]
  refine wp_region_grow [(1, 0), (1, 2), (2, 5), (0, 1), (0, 3), (0, 4)] (by kernel_rfl) (by kernel_rfl) (fun _ _ _ _ _ h => h) (fun _ _ _ _ _ h => h) ?_
  refine gSeq_name fun w1 hw1 => ?_
  have hw1' : w1 = ((((w.alloc (.cells (encK .u8 a) A32 (0, 0))).alloc (.cells (encK .u8 b) A32 (0, 0))).alloc (.cells (encK .u8 (List.replicate 32 0)) A32 (0, 0))).alloc (.cells (encK .u8 (List.replicate 64 0)) A64 (0, 0))).drew := hw1
  have r0 : w1.heap[w.heap.size]? = some (.cells (encK .u8 a) A32 (0, 0)) := by rw [hw1']; exact four_0 w _ _ _ _
  have r1 : w1.heap[w.heap.size + 1]? = some (.cells (encK .u8 b) A32 (0, 0)) := by rw [hw1']; exact four_1 w _ _ _ _
  have r2 : w1.heap[w.heap.size + 1 + 1]? = some (.cells (encK .u8 (List.replicate 32 0)) A32 (0, 0)) := by rw [hw1']; exact four_2 w _ _ _ _
  have r3 : w1.heap[w.heap.size + 1 + 1 + 1]? = some (.cells (encK .u8 (List.replicate 64 0)) A64 (0, 0)) := by rw [hw1']; exact four_3 w _ _ _ _
  have HG : Hid (w.grownBy w1 none) := by rw [hw1']; exact grown_trans (four_g w _ _ _ _) (grown_drew _ _)
  rw [HP.out] at r0 r1 r2 r3
  have R0 := Lib.hid r0
  have R1 := Lib.hid r1
  have R2 := Lib.hid r2
  have R3 := Lib.hid r3
  clear r0 r1 r2 r3 hw1 hw1'
  (repeat (first | (refine gSeq_skip rfl (by rfl) ?_; (try simp only [Act.put, Act.eval, List.setIfInBounds_toArray, List.set_cons_zero, List.set_cons_succ, Array.getD_eq_getD_getElem?, List.getElem?_toArray, List.getElem?_cons_succ, List.getElem?_cons_zero, Option.getD_some])) | (refine gSeq_move _ rfl rfl (by rfl) ?_; (try simp only [Act.put, Act.eval, List.setIfInBounds_toArray, List.set_cons_zero, List.set_cons_succ, Array.getD_eq_getD_getElem?, List.getElem?_toArray, List.getElem?_cons_succ, List.getElem?_cons_zero, Option.getD_some])) | (refine gSeq_assign _ rfl rfl (by rfl) ?_; (try simp only [Act.put, Act.eval, List.setIfInBounds_toArray, List.set_cons_zero, List.set_cons_succ, Array.getD_eq_getD_getElem?, List.getElem?_toArray, List.getElem?_cons_succ, List.getElem?_cons_zero, Option.getD_some])) | ((first | (refine gSeq_row rfl (by rfl) _ _ rfl _ rfl _ _ _ _ R0.out Try.underlying22 rfl (by rw [size_encK, HA.out]; kernel_rfl) ?_; (try simp only [Act.put, Act.eval, List.setIfInBounds_toArray, List.set_cons_zero, List.set_cons_succ, Array.getD_eq_getD_getElem?, List.getElem?_toArray, List.getElem?_cons_succ, List.getElem?_cons_zero, Option.getD_some])) | (refine gSeq_row rfl (by rfl) _ _ rfl _ rfl _ _ _ _ R1.out Try.underlying22 rfl (by rw [size_encK, HB.out]; kernel_rfl) ?_; (try simp only [Act.put, Act.eval, List.setIfInBounds_toArray, List.set_cons_zero, List.set_cons_succ, Array.getD_eq_getD_getElem?, List.getElem?_toArray, List.getElem?_cons_succ, List.getElem?_cons_zero, Option.getD_some])))) | (refine gSeq_pure rfl (by rfl) ?_ ?_ ?_; (rotate_left; (intro w'; (skip); go_simp; (first | done | with_reducible rfl)); (try simp only [Act.put, Act.eval, List.setIfInBounds_toArray, List.set_cons_zero, List.set_cons_succ, Array.getD_eq_getD_getElem?, List.getElem?_toArray, List.getElem?_cons_succ, List.getElem?_cons_zero, Option.getD_some]))) | (refine gSeq_still rfl (by rfl) ?_ ?_ ?_; (rotate_left; (intro w' hG; (skip); go_simp; (first | done | with_reducible rfl)); (try simp only [Act.put, Act.eval, List.setIfInBounds_toArray, List.set_cons_zero, List.set_cons_succ, Array.getD_eq_getD_getElem?, List.getElem?_toArray, List.getElem?_cons_succ, List.getElem?_cons_zero, Option.getD_some])))))
  (refine gSeq_do rfl (by rfl) (fun K hK => ?_)); go_simp
  refine (fload_any a _ HA.out HOA.out).mono ?_
  rintro e w2 ⟨rfl, hg2⟩
  refine hK _ _ hg2 ?_; clear hK K; (try simp only [Act.put, Act.eval, List.setIfInBounds_toArray, List.set_cons_zero, List.set_cons_succ, Array.getD_eq_getD_getElem?, List.getElem?_toArray, List.getElem?_cons_succ, List.getElem?_cons_zero, Option.getD_some])
  (refine gSeq_do rfl (by rfl) (fun K hK => ?_)); go_simp
  refine (fload_any b _ HB.out HOB.out).mono ?_
  rintro e w3 ⟨rfl, hg3⟩
  refine hK _ _ hg3 ?_; clear hK K; (try simp only [Act.put, Act.eval, List.setIfInBounds_toArray, List.set_cons_zero, List.set_cons_succ, Array.getD_eq_getD_getElem?, List.getElem?_toArray, List.getElem?_cons_succ, List.getElem?_cons_zero, Option.getD_some])
  (refine gSeq_do rfl (by rfl) (fun K hK => ?_)); go_simp
  refine (wide_any _ _ _ (length_digB _ _ _) (ok_digB (by decide) _ _) (length_digB _ _ _) (ok_digB (by decide) _ _)).mono ?_
  rintro e w4 ⟨rfl, hg4⟩
  rw [num4 HA.out HOA.out, num4 HB.out HOB.out]
  refine hK _ _ hg4 ?_; clear hK K; (try simp only [Act.put, Act.eval, List.setIfInBounds_toArray, List.set_cons_zero, List.set_cons_succ, Array.getD_eq_getD_getElem?, List.getElem?_toArray, List.getElem?_cons_succ, List.getElem?_cons_zero, Option.getD_some])
  have hg := grown_trans hg2 (grown_trans hg3 hg4)
  have R2' := Lib.hid ((hg.block _ (row_lt R2.out) (by simp)).trans R2.out)
  have R3' := Lib.hid ((hg.block _ (row_lt R3.out) (by simp)).trans R3.out)
  have HG4 := Lib.hid (grown_trans HG.out hg)
  clear hg2 hg3 hg4 hg R0 R1 R2 R3 HG
  obtain ⟨V, hV⟩ : ∃ V, V = numB 256 a * numB 256 b := ⟨_, rfl⟩
  have hV0 : 0 ≤ V ∧ V < 256 ^ 64 := by
    have h := mulrange (B := 256) (by decide) HA.out HOA.out HOB.out 32 (by rw [HB.out]; decide)
    rw [List.take_of_length_le (by rw [HB.out]; decide)] at h
    rw [hV]; exact h
  have HV0 := Lib.hid hV0
  rw [← hV]
  have HV := Lib.hid hV
  clear hV hV0
  refine gSeq_nil ?_
  go_wp2_with fail
  go_loopw [14] (fun i_ wr => ∃ k : Nat, k ≤ 8 ∧ i_ = .int .i64 k ∧ wr.heap[p + 1 + 1]? = some (.cells (encK .u8 (List.replicate 32 0)) A32 (0, 0)) ∧
    wr.heap[p + 1 + 1 + 1]? = some (.cells (encK .u8 (digB 256 (8 * k) V ++ List.replicate (64 - 8 * k) 0)) A64 (0, 0)) ∧ w.grownBy wr none) (fun v _ => 8 - (intOf v).toNat)
  case atStart => exact ⟨0, by omega, rfl, R2'.out, R3'.out, HG4.out⟩
  case round =>
    obtain ⟨i, hi, rfl, r2, r3, hg⟩ := hrel
    have R2 := Lib.hid r2
    have R3 := Lib.hid r3
    have HG := Lib.hid hg
    clear r2 r3 hg R2' R3' HG4
    by_cases hlt : i < 8
    · obtain ⟨y, hy⟩ : ∃ y, y = (digB B64 8 V).getD i 0 := ⟨_, rfl⟩
      have hy0 := ok_getD (by decide) (ok_digB (B := B64) (by decide) 8 V) i
      rw [← hy] at hy0
      have HY := Lib.hid hy
      clear hy
      go_wp2_with (first | (refine wpList_index_ints rfl W8 (.tmp 13) (.tmp 14) rfl 8 34 .u64 Try.underlying45 Try.underlying34 rfl (digB B64 8 V) rfl (length_digB _ _ _) _ i rfl rfl hlt ?_; rw [← HY.out]))
      go_loopw [18] (fun i_ wr => ∃ k : Nat, k ≤ 8 ∧ i_ = .int .i64 k ∧ wr.heap[p + 1 + 1]? = some (.cells (encK .u8 (List.replicate 32 0)) A32 (0, 0)) ∧
        wr.heap[p + 1 + 1 + 1]? = some (.cells (encK .u8 (digB 256 (8 * i + k) V ++ List.replicate (64 - (8 * i + k)) 0)) A64 (0, 0)) ∧ w.grownBy wr none) (fun v _ => 8 - (intOf v).toNat)
      case atStart => exact ⟨0, by omega, rfl, R2.out, R3.out, HG.out⟩
      case round =>
        obtain ⟨k, hk, rfl, r2, r3, hg⟩ := hrel
        have R2 := Lib.hid r2
        have R3 := Lib.hid r3
        have HG := Lib.hid hg
        clear r2 r3 hg
        by_cases hlk : k < 8
        · have hfin : y / 2 ^ (8 * k) % 256 = V / 256 ^ (8 * i + k) % 256 := by
            have h := numB_digit (b := 256) (by decide) 8 (by decide) (digB B64 8 V) (8 * i + k) (ok_digB (by decide) 8 V)
            rw [show (8 * i + k) / 8 = i by omega, show (8 * i + k) % 8 = k by omega, ← HY.out] at h
            rw [show (2 : Int) ^ (8 * k) = 256 ^ k by rw [Int.pow_mul]; rfl, ← h, show (256 : Int) ^ 8 = B64 from rfl, numB_digB (by decide), Int.emod_eq_of_lt HV0.out.1 (show V < B64 ^ 8 from HV0.out.2)]
          have HFIN := Lib.hid hfin
          clear hfin
          go_wp2_with (refine wpList_store_cell rfl _ (.tmp 31) (.tmp 30) rfl (p + 1 + 1 + 1) (8 * i + k) _ rfl rfl _ _ R3.out (by rw [size_encK, List.length_append, length_digB, List.length_replicate]; omega) (by kernel_rfl) rfl rfl ?_)
          intro w5 r5 g5
          rw [HFIN.out] at r5
          have r6 := rowK_set r5
          rw [digB_set 256 (by decide) (8 * i + k) 64 V (by omega)] at r6
          have R2' := Lib.hid ((g5.block _ (row_lt R2.out) (by intro e; injection e; omega)).trans R2.out)
          have R3' := Lib.hid r6
          have HG' := Lib.hid (grown_row HG.out g5 (fun j hj => by injection hj with hj; have := HP.out; omega))
          clear r5 g5 r6
          go_wp2_with fail
          exact ⟨⟨k + 1, by omega, by go_num, R2'.out, R3'.out, HG'.out⟩, by simp [intOf]; omega⟩
        · have : k = 8 := by omega
          subst this
          go_wp2_with fail
          exact ⟨⟨i + 1, by omega, by go_num, R2.out, R3.out, HG.out⟩, by simp [intOf]; omega⟩
    · have : i = 8 := by omega
      subst this
      have R5 := R3.out
      rw [show digB 256 (8 * 8) V ++ List.replicate (64 - 8 * 8) 0 = digB 256 64 V by simp] at R5
      have R6 := Lib.hid R5
      clear R5
      go_wp2_with (refine wpList_slice rfl _ _ _ _ rfl _ rfl _ _ rfl rfl _ (sliceAt_all _ 64 5 Try.underlying44 rfl (p + 1 + 1 + 1) 0) ?_)
      refine (reduce_any _ 64 64 (digB 256 64 V) _ (by have h := rd_row R6.out; rw [length_digB] at h; exact h) (ok_digB (by decide) _ _) (by decide)).mono ?_
      rintro e w7 ⟨rfl, hg7⟩
      rw [List.take_of_length_le (by rw [length_digB]; exact Nat.le_refl _), numB_digB (by decide), Int.emod_eq_of_lt HV0.out.1 HV0.out.2, HV.out]
      have R2' := Lib.hid ((hg7.block _ (row_lt R2.out) (by simp)).trans R2.out)
      have HG' := Lib.hid (grown_trans HG.out hg7)
      clear hg7 R2 HG
      go_wp2_with (refine wpList_store_range rfl A32 (.tmp 4) (.tmp 35) rfl (p + 1 + 1) 0 (encK .u8 (digB 256 32 (numB 256 a * numB 256 b % ordL))) rfl rfl _ _ R2'.out (by rw [size_encK, size_encK, length_digB]; decide) (by rw [size_encK, length_digB]; kernel_rfl) (one_encK _ _) ?_)
      intro w8 r8 g8
      rw [putAt_all _ _ (by rw [Array.length_toList, size_encK, size_encK, length_digB]; rfl)] at r8
      have R9 : Hid (w8.heap[p + 1 + 1]? = some (.cells (encK .u8 (digB 256 32 (numB 256 a * numB 256 b % ordL))) A32 (0, 0))) := r8
      have HG9 : Hid (w.grownBy w8 none) := grown_row HG'.out g8 (fun k hk => by injection hk with hk; have := HP.out; omega)
      clear r8 g8
      go_wp2_with fail
      exact bodyPost_ret (results_cell_row rfl _ _ (p + 1 + 1) _ _ _ _ rfl R9.out Try.underlying22 rfl (by rw [size_encK, length_digB]; kernel_rfl)) rfl ⟨rfl, HG9.out⟩
end Go.Proofs.Ytcfgobpjhppebaa
