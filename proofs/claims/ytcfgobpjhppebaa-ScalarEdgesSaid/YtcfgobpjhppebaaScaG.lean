/- scalar: bytes brought below the order. -/
import Derived.Test.YtcfgobpjhppebaaScaF
namespace Go.Proofs.Ytcfgobpjhppebaa
set_option linter.unusedVariables false
set_option linter.unusedSimpArgs false
open Go.RowKit Go.Proofs.YtcfgobpjhppebaaL

theorem ordL_pos : 0 < ordL := by decide
theorem num5 (v : Int) (h0 : 0 ≤ v) (h1 : v < B64 ^ 5) : numB B64 (digB B64 5 v) = v := by
  rw [numB_digB (by decide), Int.emod_eq_of_lt h0 h1]
theorem onceI_mod (v : Int) (h0 : 0 ≤ v) (h1 : v < ordL + ordL) : onceI v = v % ordL := by
  unfold onceI
  split
  · rename_i h; rw [Int.emod_eq_of_lt h0 h]
  · rename_i h
    rw [show v = (v - ordL) + ordL * 1 by omega, Int.add_mul_emod_self_left, Int.emod_eq_of_lt (by omega) (by omega)]
    omega
/-- What is found bit by bit. -/
theorem horner (X c : Int) (m : Nat) (hc : 0 ≤ c) : (2 * ((X * 2 ^ m + c / 2 ^ (8 - m)) % ordL) + c / 2 ^ (7 - m) % 2) % ordL = (X * 2 ^ (m + 1) + (2 * (c / 2 ^ (8 - m)) + c / 2 ^ (7 - m) % 2)) % ordL := by
  rw [Int.add_emod, Int.mul_emod, Int.emod_emod_of_dvd _ (Int.dvd_refl _), ← Int.mul_emod, ← Int.add_emod, Int.pow_succ, Int.mul_add]
  congr 1
  rw [← Int.mul_assoc, ← Int.mul_assoc, Int.mul_comm 2 X]
  have : X * 2 ^ m * 2 = X * 2 * 2 ^ m := by rw [Int.mul_assoc, Int.mul_comm (2 ^ m) 2, Int.mul_assoc]
  omega

set_option maxHeartbeats 1000000 in
set_option maxRecDepth 100000 in
theorem reduce_any (ad : Option Addr) (len cap : Nat) (xs : List Int) (w : World) (hr : Rd .u8 w ad len xs) (hox : okB 256 xs) (hlen : len ≤ 9223372036854775807) :
    Calls Try.prog 7 #[.slice ad len cap] w fun e w' => e = .returned (.agg (encK .u8 (digB 256 32 (numB 256 (xs.take 64) % ordL)))) ∧ w.grownBy w' none := by
  have HR := Lib.hid hr
  have HOX := Lib.hid hox
  obtain ⟨n, hn⟩ : ∃ n, n = min len 64 := ⟨_, rfl⟩
  have hnl : n ≤ len := by omega
  have hn64 : n ≤ 64 := by omega
  clear hr hox
  go_enter Try.func7, Try.ntmps7
  obtain ⟨p, hp⟩ : ∃ p, w.heap.size = p := ⟨_, rfl⟩
  have HP := Lib.hid hp
  clear hp
  have r0 := two_0 w (.cells (encK .u8 (List.replicate 32 0)) A32 (0, 0)) (.cells (encK .u64 (List.replicate 5 0)) T5 (0, 0))
  have r1 := two_1 w (.cells (encK .u8 (List.replicate 32 0)) A32 (0, 0)) (.cells (encK .u64 (List.replicate 5 0)) T5 (0, 0))
  rw [HP.out] at r0 r1
  have R0 := Lib.hid r0
  have R1 := Lib.hid r1
  have HG := Lib.hid (two_g w (.cells (encK .u8 (List.replicate 32 0)) A32 (0, 0)) (.cells (encK .u64 (List.replicate 5 0)) T5 (0, 0)))
  obtain ⟨V, hV⟩ : ∃ V : Nat → Int, V = fun k => numB 256 ((xs.take n).drop k) % ordL := ⟨_, rfl⟩
  have hV0 : encK .u64 (digB B64 5 (V n)) = encK .u64 (List.replicate 5 0) := by
    rw [hV]
    simp only
    rw [List.drop_of_length_le (by rw [List.length_take]; omega)]
    rfl
  have HV := Lib.hid hV
  have HV0 := Lib.hid hV0
  clear r0 r1 hV hV0
  go_wp2_with fail
  all_goals
    rw [HP.out]
    go_loopw [4] (fun v wr => ∃ k : Nat, k ≤ n ∧ v = .int .i64 ((k : Int) - 1) ∧ wr.heap[p]? = some (.cells (encK .u8 (List.replicate 32 0)) A32 (0, 0)) ∧
      wr.heap[p + 1]? = some (.cells (encK .u64 (digB B64 5 (V k))) T5 (0, 0)) ∧ w.grownBy wr none) (fun v _ => (intOf v + 1).toNat)
    case atStart =>
      refine ⟨n, Nat.le_refl _, by congr 1; omega, R0.out, ?_, HG.out⟩
      rw [HV0.out]; exact R1.out
    case round =>
      obtain ⟨k, hk, rfl, r0, r1, hg⟩ := hrel
      have R0 := Lib.hid r0
      have R1 := Lib.hid r1
      have HG := Lib.hid hg
      clear r0 r1 hg
      cases k with
      | zero =>
        go_wp2_with (refine wpList_load_row rfl T5 (.tmp 3) rfl (p + 1) rfl _ _ _ _ R1.out Try.underlying36 rfl (by rw [size_encK, length_digB]; kernel_rfl) ?_)
        have hV0 : 0 ≤ V 0 ∧ V 0 < ordL := by rw [HV.out]; exact ⟨Int.emod_nonneg _ (by decide), Int.emod_lt_of_pos _ (by decide)⟩
        refine (store_any _ _ (length_digB _ _ _) (ok_digB (by decide) _ _)).mono ?_
        rintro e w2 ⟨rfl, hg2⟩
        rw [num5 (V 0) hV0.1 (Int.lt_trans hV0.2 (by decide))]
        have R0' := Lib.hid ((hg2.block _ (row_lt R0.out) (by simp)).trans R0.out)
        have HG' := Lib.hid (grown_trans HG.out hg2)
        clear hg2 R0 HG
        have hfin : V 0 = numB 256 (xs.take 64) % ordL := by
          have hxl := HR.out.1
          rw [HV.out]
          simp only [List.drop_zero]
          have ht : xs.take n = xs.take 64 := by
            by_cases h : len ≤ 64
            · rw [List.take_of_length_le (by omega), List.take_of_length_le (by omega)]
            · rw [show n = 64 by omega]
          rw [ht]
        rw [hfin]
        go_wp2_with (refine wpList_store_range rfl A32 (.tmp 2) (.tmp 34) rfl (p) 0 (encK .u8 (digB 256 32 (numB 256 (xs.take 64) % ordL))) rfl rfl _ _ R0'.out (by rw [size_encK, size_encK, length_digB]; decide) (by rw [size_encK, length_digB]; kernel_rfl) (one_encK _ _) ?_)
        intro w8 r8 g8
        rw [putAt_all _ _ (by rw [Array.length_toList, size_encK, size_encK, length_digB]; rfl)] at r8
        have R9 : Hid (w8.heap[p]? = some (.cells (encK .u8 (digB 256 32 (numB 256 (xs.take 64) % ordL))) A32 (0, 0))) := r8
        have HG9 : Hid (w.grownBy w8 none) := grown_row HG'.out g8 (fun k hk => by injection hk with hk; have := HP.out; omega)
        clear r8 g8
        go_wp2_with fail
        exact bodyPost_ret (results_cell_row rfl _ _ (p) _ _ _ _ rfl R9.out Try.underlying22 rfl (by rw [size_encK, length_digB]; kernel_rfl)) rfl ⟨rfl, HG9.out⟩
      | succ j =>
        obtain ⟨I, hI⟩ : ∃ I, I = ((j + 1 : Nat) : Int) - 1 := ⟨_, rfl⟩
        have hI1 : I = j := by omega
        have hI0 : 0 ≤ I := by omega
        have hIl : I < (len : Int) := by omega
        rw [← hI]
        clear hI
        obtain ⟨x, hx, hcell⟩ := HR.out.2 j (by omega)
        subst hx
        obtain ⟨c, hc⟩ : ∃ c, c = xs.getD j 0 := ⟨_, rfl⟩
        have hc0 := ok_getD (by decide) HOX.out j
        rw [← hc] at hcell hc0
        have HXB := Lib.hid (show (x.add j).block < p by rw [← HP.out]; exact World.block_lt_of_cell? w _ hcell)
        have HCELL := Lib.hid (HG.out.cell hcell (by simp))
        have HC := Lib.hid hc
        obtain ⟨X, hX⟩ : ∃ X : Nat → Int, X = fun m => (V (j + 1) * 2 ^ m + c / 2 ^ (8 - m)) % ordL := ⟨_, rfl⟩
        have HX := Lib.hid hX
        have hVj : 0 ≤ V (j + 1) ∧ V (j + 1) < ordL := by rw [HV.out]; exact ⟨Int.emod_nonneg _ (by decide), Int.emod_lt_of_pos _ (by decide)⟩
        have HX0 := Lib.hid (show X 0 = V (j + 1) by
          rw [hX]
          simp only [Int.pow_zero, Int.mul_one]
          rw [show c / 2 ^ (8 - 0) = 0 from Int.ediv_eq_zero_of_lt hc0.1 hc0.2, Int.add_zero, Int.emod_eq_of_lt hVj.1 hVj.2])
        have HX8 := Lib.hid (show X 8 = V j by
          rw [hX, HV.out]
          simp only [Nat.sub_self, Int.pow_zero, Int.ediv_one]
          rw [Int.add_emod, Int.mul_emod, Int.emod_emod_of_dvd _ (Int.dvd_refl _), ← Int.mul_emod, ← Int.add_emod]
          have hd : (xs.take n).drop j = c :: (xs.take n).drop (j + 1) := by
            rw [List.drop_eq_getElem_cons (by rw [List.length_take, HR.out.1]; omega)]
            congr 1
            rw [hc, List.getElem_take, List.getD_eq_getElem?_getD, List.getElem?_eq_getElem (by rw [HR.out.1]; omega)]
            rfl
          rw [hd, numB]
          congr 1
          omega)
        clear hX hc hcell hVj
        go_wp2_with fail
        go_loopw [5] (fun v wr' => ∃ m : Nat, m ≤ 8 ∧ v = .int .i64 (7 - (m : Int)) ∧ wr'.heap[p]? = some (.cells (encK .u8 (List.replicate 32 0)) A32 (0, 0)) ∧
          wr'.heap[p + 1]? = some (.cells (encK .u64 (digB B64 5 (X m))) T5 (0, 0)) ∧ wr'.cell? (x.add j) = some (.int .u8 c) ∧ w.grownBy wr' none) (fun v _ => (intOf v + 1).toNat)
        case atStart =>
          refine ⟨0, by omega, rfl, R0.out, ?_, HCELL.out, HG.out⟩
          rw [HX0.out]; exact R1.out
        case round =>
          obtain ⟨m, hm, rfl, r0, r1, hcl, hg⟩ := hrel
          have R0 := Lib.hid r0
          have R1 := Lib.hid r1
          have HCELL := Lib.hid hcl
          have HG := Lib.hid hg
          clear r0 r1 hg hcl
          by_cases hm8 : m < 8
          · obtain ⟨q, hq⟩ : ∃ q, q = 7 - m := ⟨_, rfl⟩
            have hJ : (7 - (m : Int)) = (q : Int) := by omega
            have hq7 : q ≤ 7 := by omega
            have HQM := Lib.hid (show m = 7 - q by omega)
            rw [hJ]
            clear hJ hq
            go_wp2_with fail
            refine wp_region_grow [(1, 0), (1, 1), (2, 3), (2, 4), (2, 5), (1, 6), (2, 7), (2, 8), (2, 9), (2, 10), (2, 11), (2, 12), (0, 2), (0, 13), (0, 14), (3, 15)] (by kernel_rfl) (by kernel_rfl) (fun _ _ _ _ _ h => h) (fun _ _ _ _ _ h => h) ?_
            obtain ⟨w4, hw4⟩ : ∃ w4, w4 = wr.drew := ⟨_, rfl⟩
            rw [← hw4]
            have g4 : wr.grownBy w4 none := by rw [hw4]; exact grown_drew _ _
            have E1 := Lib.hid (g4.cell HCELL.out (by simp))
            have R0' := Lib.hid ((g4.block _ (row_lt R0.out) (by simp)).trans R0.out)
            have R1' := Lib.hid ((g4.block _ (row_lt R1.out) (by simp)).trans R1.out)
            have HG' := Lib.hid (grown_trans HG.out g4)
            clear g4 hw4 R0 R1 HG HCELL
            subst hI1
            (repeat (first | (refine gSeq_skip rfl (by rfl) ?_; (try simp only [Act.put, Act.eval, List.setIfInBounds_toArray, List.set_cons_zero, List.set_cons_succ, Array.getD_eq_getD_getElem?, List.getElem?_toArray, List.getElem?_cons_succ, List.getElem?_cons_zero, Option.getD_some])) | (refine gSeq_move _ rfl rfl (by rfl) ?_; (try simp only [Act.put, Act.eval, List.setIfInBounds_toArray, List.set_cons_zero, List.set_cons_succ, Array.getD_eq_getD_getElem?, List.getElem?_toArray, List.getElem?_cons_succ, List.getElem?_cons_zero, Option.getD_some])) | (refine gSeq_assign _ rfl rfl (by rfl) ?_; (try simp only [Act.put, Act.eval, List.setIfInBounds_toArray, List.set_cons_zero, List.set_cons_succ, Array.getD_eq_getD_getElem?, List.getElem?_toArray, List.getElem?_cons_succ, List.getElem?_cons_zero, Option.getD_some])) | ((refine gSeq_row rfl (by rfl) _ _ rfl _ rfl _ _ _ _ R1'.out Try.underlying36 rfl (by rw [size_encK, length_digB]; kernel_rfl) ?_; (try simp only [Act.put, Act.eval, List.setIfInBounds_toArray, List.set_cons_zero, List.set_cons_succ, Array.getD_eq_getD_getElem?, List.getElem?_toArray, List.getElem?_cons_succ, List.getElem?_cons_zero, Option.getD_some]))) | (refine gSeq_pure rfl (by rfl) ?_ ?_ ?_; (rotate_left; (intro w'; (try (have d1 := hG.cell E1.out (by simp))); go_simp; (first | done | with_reducible rfl)); (try simp only [Act.put, Act.eval, List.setIfInBounds_toArray, List.set_cons_zero, List.set_cons_succ, Array.getD_eq_getD_getElem?, List.getElem?_toArray, List.getElem?_cons_succ, List.getElem?_cons_zero, Option.getD_some]))) | (refine gSeq_still rfl (by rfl) ?_ ?_ ?_; (rotate_left; (intro w' hG; (try (have d1 := hG.cell E1.out (by simp))); go_simp; (first | done | with_reducible rfl)); (try simp only [Act.put, Act.eval, List.setIfInBounds_toArray, List.set_cons_zero, List.set_cons_succ, Array.getD_eq_getD_getElem?, List.getElem?_toArray, List.getElem?_cons_succ, List.getElem?_cons_zero, Option.getD_some])))))
            have hy : bits .and .u64 (IntKind.u64.wrap c / 2 ^ min (IntKind.u64.wrap (q : Int)).toNat 64) 1 = c / 2 ^ q % 2 := by
              rw [IntWalk.u64_in c (by omega), IntWalk.u64_in (q : Int) (by omega), Int.toNat_natCast, Nat.min_eq_left (by omega)]
              have h1 : 0 ≤ c / 2 ^ q := Int.ediv_nonneg hc0.1 (Int.le_of_lt (Int.pow_pos (by decide)))
              have h2 : c / 2 ^ q ≤ c := Int.ediv_le_self _ hc0.1
              obtain ⟨z, hz⟩ := Int.eq_ofNat_of_zero_le h1
              rw [hz] at h2 ⊢
              rw [u64_and _ 1 (by omega) (by omega) (by decide) (by decide), Int.toNat_natCast, show (1 : Int).toNat = 1 from rfl, Nat.and_one_is_mod]
              rfl
            rw [hy]
            have hXm : 0 ≤ X m ∧ X m < ordL := by rw [HX.out]; exact ⟨Int.emod_nonneg _ (by decide), Int.emod_lt_of_pos _ (by decide)⟩
            have hy0 : 0 ≤ c / 2 ^ q % 2 ∧ c / 2 ^ q % 2 < 2 := ⟨Int.emod_nonneg _ (by decide), Int.emod_lt_of_pos _ (by decide)⟩
            have hnext : (2 * X m + c / 2 ^ q % 2) % ordL = X (m + 1) := by
              have h := horner (V (j + 1)) c m hc0.1
              rw [show 7 - m = q by have := HQM.out; omega] at h
              rw [HX.out]
              simp only
              rw [h, show 8 - m = q + 1 by have := HQM.out; omega, show 8 - (m + 1) = q by have := HQM.out; omega]
              congr 2
              have h1 := Int.mul_ediv_add_emod (c / 2 ^ q) 2
              rw [Int.ediv_ediv_of_nonneg (Int.le_of_lt (Int.pow_pos (by decide))), ← Int.pow_succ] at h1
              exact h1
            obtain ⟨y, hyy⟩ : ∃ y, y = c / 2 ^ q % 2 := ⟨_, rfl⟩
            rw [← hyy] at hnext hy0 ⊢
            have HNEXT := Lib.hid hnext
            clear hy hyy hnext
            have hb1 : X m + X m < B64 ^ 5 := Int.lt_trans (show X m + X m < ordL + ordL by omega) (by decide)
            have hb2 : X m + X m + y < B64 ^ 5 := Int.lt_trans (show X m + X m + y < ordL + ordL by omega) (by decide)
            have hb0 : X m < B64 ^ 5 := Int.lt_trans hXm.2 (by decide)
            (refine gSeq_do rfl (by rfl) (fun K hK => ?_)); go_simp
            refine (plus_any _ _ _ (length_digB _ _ _) (length_digB _ _ _) (ok_digB (by decide) _ _) (ok_digB (by decide) _ _)).mono ?_
            rintro e w5 ⟨rfl, hg5⟩
            refine hK _ _ hg5 ?_; clear hK K; (try simp only [Act.put, Act.eval, List.setIfInBounds_toArray, List.set_cons_zero, List.set_cons_succ, Array.getD_eq_getD_getElem?, List.getElem?_toArray, List.getElem?_cons_succ, List.getElem?_cons_zero, Option.getD_some])
            have G5 := Lib.hid hg5
            clear hg5
            rw [num5 (X m) hXm.1 hb0]
            (refine gSeq_do rfl (by rfl) (fun K hK => ?_)); go_simp
            refine (plus_any _ [y, 0, 0, 0, 0] _ (length_digB _ _ _) rfl (ok_digB (by decide) _ _) ?_).mono ?_
            · intro z hz
              have hz' : z = y ∨ z = 0 := by simpa using hz
              have hB2 : (2 : Int) ≤ B64 := by decide
              rcases hz' with rfl | rfl <;> omega
            rintro e w6 ⟨rfl, hg6⟩
            refine hK _ _ hg6 ?_; clear hK K; (try simp only [Act.put, Act.eval, List.setIfInBounds_toArray, List.set_cons_zero, List.set_cons_succ, Array.getD_eq_getD_getElem?, List.getElem?_toArray, List.getElem?_cons_succ, List.getElem?_cons_zero, Option.getD_some])
            have G6 := Lib.hid (grown_trans G5.out hg6)
            clear hg6 G5
            rw [num5 (X m + X m) (by omega) hb1, show numB B64 [y, 0, 0, 0, 0] = y by simp [numB]]
            (refine gSeq_do rfl (by rfl) (fun K hK => ?_)); go_simp
            refine (once_any _ _ (length_digB _ _ _) (ok_digB (by decide) _ _)).mono ?_
            rintro e w7 ⟨rfl, hg7⟩
            refine hK _ _ hg7 ?_; clear hK K; (try simp only [Act.put, Act.eval, List.setIfInBounds_toArray, List.set_cons_zero, List.set_cons_succ, Array.getD_eq_getD_getElem?, List.getElem?_toArray, List.getElem?_cons_succ, List.getElem?_cons_zero, Option.getD_some])
            have G7 := Lib.hid (grown_trans G6.out hg7)
            clear hg7 G6
            rw [num5 (X m + X m + y) (by omega) hb2, onceI_mod (X m + X m + y) (by omega) (by omega), show X m + X m + y = 2 * X m + y by omega, HNEXT.out]
            have R0 := Lib.hid ((G7.out.block _ (row_lt R0'.out) (by simp)).trans R0'.out)
            have R1 := Lib.hid ((G7.out.block _ (row_lt R1'.out) (by simp)).trans R1'.out)
            have E1' := Lib.hid (G7.out.cell E1.out (by simp))
            have HG := Lib.hid (grown_trans HG'.out G7.out)
            clear R0' R1' E1 G7 HG'
            (refine gSeq_store_range rfl (by rfl) _ _ _ rfl (p + 1) 0 (encK .u64 (digB B64 5 (X (m + 1)))) rfl rfl _ _ R1.out (by rw [size_encK, size_encK, length_digB, length_digB]; decide) (by rw [size_encK, length_digB]; kernel_rfl) (one_encK _ _) ?_)
            intro w8 r8 g8
            rw [putAt_all _ _ (by rw [Array.length_toList, size_encK, size_encK, length_digB, length_digB])] at r8
            have R1' : Hid (w8.heap[p + 1]? = some (.cells (encK .u64 (digB B64 5 (X (m + 1)))) T5 (0, 0))) := r8
            have R0' := Lib.hid ((g8.block _ (row_lt R0.out) (by intro e; injection e; omega)).trans R0.out)
            have E2 : Hid (w8.cell? (x.add j) = some (.int .u8 c)) := g8.cell E1'.out (by intro e; injection e; have := HXB.out; omega)
            have HG' : Hid (w.grownBy w8 none) := grown_row HG.out g8 (fun k hk => by injection hk with hk; have := HP.out; omega)
            clear r8 g8 R0 R1 HG E1'
            (try simp only [Act.put, Act.eval, List.setIfInBounds_toArray, List.set_cons_zero, List.set_cons_succ, Array.getD_eq_getD_getElem?, List.getElem?_toArray, List.getElem?_cons_succ, List.getElem?_cons_zero, Option.getD_some])
            refine gSeq_nil ?_
            go_wp2_with fail
            exact ⟨⟨m + 1, by omega, by congr 1; have := HQM.out; omega, R0'.out, R1'.out, E2.out, HG'.out⟩, by first | (simp [intOf]; done) | (simp [intOf]; omega)⟩
          · have : m = 8 := by omega
            subst this
            go_wp2_with fail
            refine ⟨⟨j, by omega, by go_num, R0.out, by rw [← HX8.out]; exact R1.out, HG.out⟩, by simp [intOf]; omega⟩
end Go.Proofs.Ytcfgobpjhppebaa
