/- poly: products by 2^130 - 5; a number's rest. -/
import Derived.Test.YthhijeokeljcjaaPolC
namespace Go.Proofs.Ythhijeokeljcjaa
set_option linter.unusedVariables false
set_option linter.unusedSimpArgs false
open Go.RowKit Go.Proofs.YthhijeokeljcjaaL

abbrev T2 : Nat := 59
set_option maxHeartbeats 2000000 in
set_option maxRecDepth 100000 in
theorem times_any (a b : List Int) (w : World) (ha : a.length = 3) (hoa : okB B64 a) (hb : b.length = 2) (hob : okB B64 b) :
    Calls Try.prog 31 #[.agg (encK .u64 a), .agg (encK .u64 b)] w fun e w' => e = .returned (.agg (encK .u64 (digB B64 3 (foldI (numB B64 a * numB B64 b % B64 ^ 4))))) ∧ w.grownBy w' none := by
  have HA := Lib.hid ha
  have HOA := Lib.hid hoa
  have HB := Lib.hid hb
  have HOB := Lib.hid hob
  clear ha hoa hb hob
  go_enter Try.func31, Try.ntmps31
  obtain ⟨p, hp⟩ : ∃ p, w.heap.size = p := ⟨_, rfl⟩
  have HP := Lib.hid hp
  clear hp
  go_wp2_with (refine wpList_stop 10 rfl ?_)
  rw [HP.out]
  intro w1 hw1
  have hw1' : w1 = (((w.alloc (.cells (encK .u64 a) T3 (0, 0))).alloc (.cells (encK .u64 b) T2 (0, 0))).alloc (.cells (encK .u64 (List.replicate 3 0)) T3 (0, 0))).alloc (.cells (encK .u64 (List.replicate 4 0)) T4 (0, 0)) := hw1
  have r0 : w1.heap[w.heap.size]? = some (.cells (encK .u64 a) T3 (0, 0)) := by rw [hw1']; exact four_0 w _ _ _ _
  have r1 : w1.heap[w.heap.size + 1]? = some (.cells (encK .u64 b) T2 (0, 0)) := by rw [hw1']; exact four_1 w _ _ _ _
  have r2 : w1.heap[w.heap.size + 1 + 1]? = some (.cells (encK .u64 (List.replicate 3 0)) T3 (0, 0)) := by rw [hw1']; exact four_2 w _ _ _ _
  have r3 : w1.heap[w.heap.size + 1 + 1 + 1]? = some (.cells (encK .u64 (List.replicate 4 0)) T4 (0, 0)) := by rw [hw1']; exact four_3 w _ _ _ _
  have HG : Hid (w.grownBy w1 none) := by rw [hw1']; exact four_g w _ _ _ _
  rw [HP.out] at r0 r1 r2 r3
  have R0 := Lib.hid r0
  have R1 := Lib.hid r1
  have R2 := Lib.hid r2
  have R3 := Lib.hid r3
  clear r0 r1 r2 r3 hw1 hw1'
  go_wp2_with (refine wpList_load_row rfl T3 (.tmp 2) rfl p rfl _ _ _ _ R0.out Try.underlying61 rfl (by rw [size_encK, HA.out]; kernel_rfl) ?_)
  go_loopw [11] (fun i_ wr => ∃ i : Nat, i ≤ 3 ∧ i_ = .int .i64 i ∧ wr.heap[p + 1]? = some (.cells (encK .u64 b) T2 (0, 0)) ∧ wr.heap[p + 1 + 1]? = some (.cells (encK .u64 (List.replicate 3 0)) T3 (0, 0)) ∧
    wr.heap[p + 1 + 1 + 1]? = some (.cells (encK .u64 (digB B64 4 (numB B64 (a.take i) * numB B64 b))) T4 (0, 0)) ∧ w.grownBy wr none) (fun v _ => 3 - (intOf v).toNat)
  case atStart =>
    exact ⟨0, by omega, rfl, R1.out, R2.out, by simp [numB]; exact R3.out, HG.out⟩
  case round =>
    obtain ⟨i, hi, rfl, r1, r2, r3, hg⟩ := hrel
    clear R0 R1 R2 R3 HG
    have R1 := Lib.hid r1
    have R2 := Lib.hid r2
    have R3 := Lib.hid r3
    have HG := Lib.hid hg
    clear r1 r2 r3 hg
    by_cases hlt : i < 3
    · obtain ⟨x, hx⟩ : ∃ x, x = a.getD i 0 := ⟨_, rfl⟩
      have hx0 := ok_getD (by decide) HOA.out i
      rw [← hx] at hx0
      have HX := Lib.hid hx
      clear hx
      go_wp2_with (first | (refine wpList_index_ints rfl T3 (.tmp 10) (.tmp 11) rfl 3 23 .u64 Try.underlying61 Try.underlying23 rfl a rfl HA.out _ i rfl rfl hlt ?_; rw [← HX.out]) | (refine wpList_load_row rfl T2 (.tmp 3) rfl (p + 1) rfl _ _ _ _ R1.out Try.underlying59 rfl (by rw [size_encK, HB.out]; kernel_rfl) ?_))
      go_loopw [16] (fun i_ wr => ∃ k : Nat, k ≤ 2 ∧ i_ = .int .i64 k ∧ wr.heap[p + 1]? = some (.cells (encK .u64 b) T2 (0, 0)) ∧ wr.heap[p + 1 + 1]? = some (.cells (encK .u64 (List.replicate 3 0)) T3 (0, 0)) ∧
        wr.heap[p + 1 + 1 + 1]? = some (.cells (encK .u64 (digB B64 4 (numB B64 (a.take i) * numB B64 b + B64 ^ i * (x * numB B64 (b.take k))))) T4 (0, 0)) ∧ w.grownBy wr none) (fun v _ => 2 - (intOf v).toNat)
      case atStart => exact ⟨0, by omega, rfl, R1.out, R2.out, by simp [numB]; exact R3.out, HG.out⟩
      case round =>
        obtain ⟨k, hk, rfl, r1, r2, r3, hg⟩ := hrel
        clear R1 R2 R3 HG
        have R1 := Lib.hid r1
        have R2 := Lib.hid r2
        have R3 := Lib.hid r3
        have HG := Lib.hid hg
        clear r1 r2 r3 hg
        by_cases hlk : k < 2
        · obtain ⟨y, hy⟩ : ∃ y, y = b.getD k 0 := ⟨_, rfl⟩
          have hy0 := ok_getD (by decide) HOB.out k
          rw [← hy] at hy0
          have HY := Lib.hid hy
          clear hy
          go_wp2_with (refine wpList_index_ints rfl T2 (.tmp 15) (.tmp 16) rfl 2 23 .u64 Try.underlying59 Try.underlying23 rfl b rfl HB.out _ k rfl rfl hlk ?_; rw [← HY.out])
          have hcast : (i : Int) + (k : Int) = ((i + k : Nat) : Int) := by omega
          rw [hcast]
          clear hcast
          refine (padd_any (p + 1 + 1 + 1) (i + k) _ x y _ R3.out (by omega) (length_digB _ _ _) (ok_digB (by decide) _ _) hx0.1 hx0.2 hy0.1 hy0.2).mono ?_
          rintro e w2 ⟨rfl, h3, hg2⟩
          have hn : digB B64 4 (numB B64 (digB B64 4 (numB B64 (a.take i) * numB B64 b + B64 ^ i * (x * numB B64 (b.take k)))) + B64 ^ (i + k) * (x * y)) = digB B64 4 (numB B64 (a.take i) * numB B64 b + B64 ^ i * (x * numB B64 (b.take (k + 1)))) := by
            rw [numB_digB (by decide), ← digB_mod (by decide) 4 (_ % _ + _), Int.add_emod, Int.emod_emod_of_dvd _ (Int.dvd_refl _), ← Int.add_emod, digB_mod (by decide)]
            congr 1
            rw [numB_next B64 b k (by rw [HB.out]; exact hlk), ← HY.out, Int.mul_add, Int.mul_add, Int.pow_add, Int.add_assoc]
            congr 1
            rw [← Int.mul_assoc x, Int.mul_comm x (B64 ^ k), Int.mul_assoc (B64 ^ k), ← Int.mul_assoc (B64 ^ i) (B64 ^ k)]
          rw [hn] at h3
          have R1' := Lib.hid ((hg2.block _ (row_lt R1.out) (by intro e; injection e; omega)).trans R1.out)
          have R2' := Lib.hid ((hg2.block _ (row_lt R2.out) (by intro e; injection e; omega)).trans R2.out)
          have HG2 := Lib.hid (grown_row HG.out hg2 (fun k hk => by injection hk with hk; have := HP.out; omega))
          have R3' := Lib.hid h3
          clear hg2 h3 hn
          go_wp2_with fail
          exact ⟨⟨k + 1, by omega, by go_num, R1'.out, R2'.out, R3'.out, HG2.out⟩, by simp [intOf]; omega⟩
        · have : k = 2 := by omega
          subst this
          have R5 := R3.out
          rw [List.take_of_length_le (l := b) (by rw [HB.out]; omega), show numB B64 (a.take i) * numB B64 b + B64 ^ i * (x * numB B64 b) = numB B64 (a.take (i + 1)) * numB B64 b by rw [numB_next B64 a i (by rw [HA.out]; exact hlt), ← HX.out, Int.add_mul, Int.mul_assoc]] at R5
          have R6 := Lib.hid R5
          clear R5
          go_wp2_with fail
          exact ⟨⟨i + 1, by omega, by go_num, R1.out, R2.out, R6.out, HG.out⟩, by simp [intOf]; omega⟩
    · have : i = 3 := by omega
      subst this
      have R5 := R3.out
      rw [List.take_of_length_le (by rw [HA.out]; omega)] at R5
      have R6 := Lib.hid R5
      clear R5
      go_wp2_with (refine wpList_load_row rfl T4 (.tmp 5) rfl (p + 1 + 1 + 1) rfl _ _ _ _ R6.out Try.underlying72 rfl (by rw [size_encK, length_digB]; kernel_rfl) ?_)
      refine (fold_any _ _ (length_digB _ _ _) (ok_digB (by decide) _ _)).mono ?_
      rintro e w3 ⟨rfl, hg3⟩
      rw [numB_digB (by decide)]
      have R2' := Lib.hid (row_keep R2.out hg3)
      have HG' := Lib.hid (grown_trans HG.out hg3)
      clear hg3 R2 HG
      go_wp2_with (refine wpList_store_range rfl T3 (.tmp 4) (.tmp 29) rfl (p + 1 + 1) 0 (encK .u64 (digB B64 3 (foldI (numB B64 a * numB B64 b % B64 ^ 4)))) rfl rfl _ _ R2'.out (by rw [size_encK, size_encK, length_digB]; decide) (by rw [size_encK, length_digB]; kernel_rfl) (one_encK _ _) ?_)
      intro w8 r8 g8
      rw [putAt_all _ _ (by rw [Array.length_toList, size_encK, size_encK, length_digB]; rfl)] at r8
      have R9 : Hid (w8.heap[p + 1 + 1]? = some (.cells (encK .u64 (digB B64 3 (foldI (numB B64 a * numB B64 b % B64 ^ 4)))) T3 (0, 0))) := r8
      have HG9 : Hid (w.grownBy w8 none) := grown_row HG'.out g8 (fun k hk => by injection hk with hk; have := HP.out; omega)
      clear r8 g8
      go_wp2_with fail
      exact bodyPost_ret (results_cell_row rfl _ _ (p + 1 + 1) _ _ _ _ rfl R9.out Try.underlying61 rfl (by rw [size_encK, length_digB]; kernel_rfl)) rfl ⟨rfl, HG9.out⟩

/-- The prime. -/
abbrev PP : Int := 1361129467683753853853498429727072845819
theorem foldI_mod (v : Int) : foldI v % PP = v % PP := by
  have h := Int.mul_ediv_add_emod v P2
  have e : foldI v = v + PP * (-(v / P2)) := by
    unfold foldI
    have e2 : P2 * (v / P2) = 1361129467683753853853498429727072845824 * (v / P2) := rfl
    have e3 : PP * (-(v / P2)) = 1361129467683753853853498429727072845819 * (-(v / P2)) := rfl
    omega
  rw [e, Int.add_mul_emod_self_left]
theorem foldI_range {v : Int} (h0 : 0 ≤ v) (h1 : v < B64 ^ 4) : 0 ≤ foldI v ∧ foldI v < 1786482426334926933182716689016783110144 := by
  have a0 : 0 ≤ v % P2 ∧ v % P2 < P2 := ⟨Int.emod_nonneg _ (by decide), Int.emod_lt_of_pos _ (by decide)⟩
  have a1 : 0 ≤ v / P2 ∧ v / P2 < 85070591730234615865843651857942052864 := ⟨Int.ediv_nonneg h0 (by decide), Int.ediv_lt_of_lt_mul (by decide) (Int.lt_of_lt_of_le h1 (by decide))⟩
  have e2 : P2 = 1361129467683753853853498429727072845824 := rfl
  unfold foldI
  omega
theorem fold_twice {v : Int} (h0 : 0 ≤ v) (h1 : v < B64 ^ 3) : 0 ≤ foldI (foldI v) ∧ foldI (foldI v) < P2 := by
  have a0 : 0 ≤ v % P2 ∧ v % P2 < P2 := ⟨Int.emod_nonneg _ (by decide), Int.emod_lt_of_pos _ (by decide)⟩
  have a1 : 0 ≤ v / P2 ∧ v / P2 < 4611686018427387904 := ⟨Int.ediv_nonneg h0 (by decide), Int.ediv_lt_of_lt_mul (by decide) (Int.lt_of_lt_of_le h1 (by decide))⟩
  have e2 : P2 = 1361129467683753853853498429727072845824 := rfl
  obtain ⟨u, hu⟩ : ∃ u, u = foldI v := ⟨_, rfl⟩
  have hu1 : 0 ≤ u ∧ u < P2 + 23058430092136939520 := by rw [hu]; unfold foldI; omega
  rw [← hu]
  unfold foldI
  rw [e2] at *
  omega
/-- The last step: the rest, its lowest 128 bits. -/
theorem full_last {h : Int} (h0 : 0 ≤ h) (h1 : h < P2) : digB B64 2 (h % PP) = digB B64 2 (if h + 5 < P2 then h else h + 5) := by
  have e2 : P2 = 1361129467683753853853498429727072845824 := rfl
  have e3 : PP = 1361129467683753853853498429727072845819 := rfl
  split
  · rw [Int.emod_eq_of_lt h0 (by omega)]
  · have : h % PP = h - PP := by
      rw [show h = (h - PP) + PP * 1 by omega, Int.add_mul_emod_self_left, Int.emod_eq_of_lt (by omega) (by omega)]; omega
    have e4 : B64 ^ 2 = 340282366920938463463374607431768211456 := by decide
    have e5 : h + 5 = (h - PP) + B64 ^ 2 * 4 := by rw [e4]; omega
    rw [this, e5, ← digB_mod (by decide) 2 (h - PP + _), Int.add_mul_emod_self_left, digB_mod (by decide)]
theorem top_limb {v : Int} (h0 : 0 ≤ v) (h1 : v < B64 ^ 3) : ((digB B64 3 v).getD 2 0 > 3) ↔ ¬ v < P2 := by
  have e2 : P2 = 1361129467683753853853498429727072845824 := rfl
  have e4 : B64 ^ 2 = 340282366920938463463374607431768211456 := by decide
  have e5 : B64 ^ 3 = 340282366920938463463374607431768211456 * 18446744073709551616 := by decide
  have e6 : B64 = 18446744073709551616 := rfl
  rw [digB_at (by decide) 3 v 2 (by decide), e4]
  rw [e5] at h1
  have : v / 340282366920938463463374607431768211456 % B64 = v / 340282366920938463463374607431768211456 := Int.emod_eq_of_lt (by omega) (by omega)
  rw [this]
  omega
theorem digB_head (v : Int) : digB B64 2 v = [(digB B64 3 v).getD 0 0, (digB B64 3 v).getD 1 0] := rfl
end Go.Proofs.Ythhijeokeljcjaa
