/- poly: the lowest 128 bits of a number's rest. -/
import Derived.Test.YthhijeokeljcjaaPolD
namespace Go.Proofs.Ythhijeokeljcjaa
set_option linter.unusedVariables false
set_option linter.unusedSimpArgs false
open Go.RowKit Go.Proofs.YthhijeokeljcjaaL

def foldN (v : Int) : Nat → Int
  | 0 => v
  | k + 1 => foldI (foldN v k)
theorem foldN_range {v : Int} (h0 : 0 ≤ v) (h1 : v < B64 ^ 3) : ∀ k, 0 ≤ foldN v k ∧ foldN v k < B64 ^ 3
  | 0 => ⟨h0, h1⟩
  | k + 1 => by
    have ih := foldN_range h0 h1 k
    have h := foldI_range ih.1 (Int.lt_trans ih.2 (by decide))
    exact ⟨h.1, Int.lt_trans h.2 (by decide)⟩
set_option maxHeartbeats 2000000 in
set_option maxRecDepth 100000 in
theorem full_any (a : List Int) (w : World) (ha : a.length = 3) (hoa : okB B64 a) :
    Calls Try.prog 33 #[.agg (encK .u64 a)] w fun e w' => e = .returned (.agg (encK .u64 (digB B64 2 (numB B64 a % PP)))) ∧ w.grownBy w' none := by
  have hr := numB_range (B := B64) (by decide) a hoa
  have had := digB_numB (B := B64) (by decide) a hoa
  rw [ha] at hr had
  obtain ⟨v, hv⟩ : ∃ v, v = numB B64 a := ⟨_, rfl⟩
  rw [← hv] at hr had ⊢
  have HV := Lib.hid (foldN_range hr.1 hr.2)
  have H2 := Lib.hid (show 0 ≤ foldN v 2 ∧ foldN v 2 < P2 from fold_twice hr.1 hr.2)
  have HM := Lib.hid (show foldN v 2 % PP = v % PP from (foldI_mod _).trans (foldI_mod _))
  subst had
  clear hv hr ha hoa
  go_enter Try.func33, Try.ntmps33
  obtain ⟨p, hp⟩ : ∃ p, w.heap.size = p := ⟨_, rfl⟩
  have HP := Lib.hid hp
  clear hp
  go_wp2_with fail
  rw [HP.out]
  go_loopw [4] (fun i_ wr => ∃ k : Nat, k ≤ 2 ∧ i_ = .int .i64 k ∧ wr.heap[p]? = some (.cells (encK .u64 (digB B64 3 (foldN v k))) T3 (0, 0)) ∧ wr.heap[p + 1]? = some (.cells (encK .u64 (List.replicate 2 0)) T2 (0, 0)) ∧ w.grownBy wr none) (fun v _ => 2 - (intOf v).toNat)
  case atStart =>
    rw [← HP.out]
    exact ⟨0, by omega, rfl, two_0 _ _ _, two_1 _ _ _, two_g _ _ _⟩
  case round =>
    obtain ⟨k, hk, rfl, r0, r1, hg⟩ := hrel
    have R0 := Lib.hid r0
    have R1 := Lib.hid r1
    have HG := Lib.hid hg
    clear r0 r1 hg
    by_cases hlt : k < 2
    · have hf := HV.out k
      obtain ⟨s, hs⟩ : ∃ s, s = digB B64 3 (foldN v k) := ⟨_, rfl⟩
      have hsl : s.length = 3 := by rw [hs, length_digB]
      have hso : okB B64 s := by rw [hs]; exact ok_digB (by decide) _ _
      have hsn : numB B64 s = foldN v k := by rw [hs]; exact num3 _ hf.1 hf.2
      have r0 := R0.out
      rw [← hs] at r0
      have R0' := Lib.hid r0
      have e0 := rowK_at r0 0 (by rw [hsl]; decide)
      have e1 := rowK_at r0 1 (by rw [hsl]; decide)
      have e2 := rowK_at r0 2 (by rw [hsl]; decide)
      have h3 := three_list hsl
      obtain ⟨x0, hx0⟩ : ∃ x, x = s.getD 0 0 := ⟨_, rfl⟩
      obtain ⟨x1, hx1⟩ : ∃ x, x = s.getD 1 0 := ⟨_, rfl⟩
      obtain ⟨x2, hx2⟩ : ∃ x, x = s.getD 2 0 := ⟨_, rfl⟩
      rw [← hx0] at e0 h3
      rw [← hx1] at e1 h3
      rw [← hx2] at e2 h3
      have HSL := Lib.hid hsl
      have H4O := Lib.hid (show okB B64 [x0, x1, x2, 0] from fun y hy => by
        have h' : y ∈ s ∨ y = 0 := by rw [h3]; simp only [List.mem_cons, List.not_mem_nil, or_false] at hy ⊢; rcases hy with h | h | h | h <;> simp [h]
        rcases h' with h' | h'
        · exact hso y h'
        · subst h'; decide)
      have H4N := Lib.hid (show numB B64 [x0, x1, x2, 0] = foldN v k by rw [← hsn, h3]; simp [numB])
      clear hf hs hsl hso hsn r0 hx0 hx1 hx2 h3 R0
      go_wp2_with fail
      refine (fold_any [x0, x1, x2, 0] _ rfl H4O.out).mono ?_
      rintro e w2 ⟨rfl, hg2⟩
      rw [H4N.out]
      have R0 := Lib.hid (row_keep R0'.out hg2)
      have R1' := Lib.hid (row_keep R1.out hg2)
      have HG2 := Lib.hid (grown_trans HG.out hg2)
      clear hg2 R0' R1 HG e0 e1 e2
      go_wp2_with (refine wpList_store_range rfl T3 (.tmp 1) (.tmp 13) rfl p 0 (encK .u64 (digB B64 3 (foldI (foldN v k)))) rfl rfl _ _ R0.out (by rw [size_encK, size_encK, length_digB, HSL.out]; decide) (by rw [size_encK, length_digB]; kernel_rfl) (one_encK _ _) ?_)
      intro w3 r3 g3
      rw [putAt_all _ _ (by rw [Array.length_toList, size_encK, size_encK, length_digB, HSL.out])] at r3
      have R3 : Hid (w3.heap[p]? = some (.cells (encK .u64 (digB B64 3 (foldN v (k + 1)))) T3 (0, 0))) := r3
      have R4 := Lib.hid ((g3.block _ (row_lt R1'.out) (by intro e; injection e; omega)).trans R1'.out)
      have HG3 := Lib.hid (grown_row HG2.out g3 (fun j hj => by injection hj with hj; have := HP.out; omega))
      clear r3 g3 R0 R1' HG2
      go_wp2_with fail
      exact ⟨⟨k + 1, by omega, by go_num, R3.out, R4.out, HG3.out⟩, by simp [intOf]; omega⟩
    · have : k = 2 := by omega
      subst this
      have HN := Lib.hid (num3 _ (HV.out 2).1 (HV.out 2).2)
      go_wp2_with (refine wpList_load_row rfl T3 (.tmp 1) rfl p rfl _ _ _ _ R0.out Try.underlying61 rfl (by rw [size_encK, length_digB]; kernel_rfl) ?_)
      refine (plus_any _ [5, 0, 0] _ (length_digB _ _ _) rfl (ok_digB (by decide) _ _) (by intro y hy; have h : y = 5 ∨ y = 0 := (by simpa using hy); rcases h with rfl | rfl <;> decide)).mono ?_
      rintro e w2 ⟨rfl, hg2⟩
      rw [HN.out, show numB B64 [5, 0, 0] = 5 by decide]
      obtain ⟨h, hh⟩ : ∃ h, h = foldN v 2 := ⟨_, rfl⟩
      rw [← hh] at H2 HM R0 ⊢
      have R0' := Lib.hid (row_keep R0.out hg2)
      have R1' := Lib.hid (row_keep R1.out hg2)
      have HG2 := Lib.hid (grown_trans HG.out hg2)
      clear hg2 R0 R1 HG hh HN HV
      obtain ⟨q, hq⟩ : ∃ q, w2.heap.size = q := ⟨_, rfl⟩
      have HQ := Lib.hid hq
      have HPQ := Lib.hid (show p + 1 < q by rw [← hq]; exact row_lt R1'.out)
      clear hq
      go_wp2_with (refine wpList_store_range rfl T3 (.tmp 3) (.tmp 17) rfl q 0 (encK .u64 (digB B64 3 (h + 5))) (by simp [Act.eval, HQ.out]) rfl _ (encK .u64 (List.replicate 3 0)) (alloc_at _ _ HQ.out.symm) (by rw [size_encK, size_encK, length_digB]; decide) (by rw [size_encK, length_digB]; kernel_rfl) (one_encK _ _) ?_)
      rw [HQ.out]
      intro w3 r3 g3
      rw [putAt_all _ _ (by rw [Array.length_toList, size_encK, size_encK, length_digB]; rfl)] at r3
      have RG : Hid (w3.heap[q]? = some (.cells (encK .u64 (digB B64 3 (h + 5))) T3 (0, 0))) := r3
      have R0 := Lib.hid ((g3.block _ (by have := HPQ.out; have := HQ.out; rw [alloc_size]; omega) (by intro e; injection e with e; have := HPQ.out; omega)).trans ((alloc_up _ _ (row_lt R0'.out)).trans R0'.out))
      have R1 := Lib.hid ((g3.block _ (by have := HPQ.out; have := HQ.out; rw [alloc_size]; omega) (by intro e; injection e with e; have := HPQ.out; omega)).trans ((alloc_up _ _ (row_lt R1'.out)).trans R1'.out))
      have HG3 := Lib.hid (grown_row (grown_alloc HG2.out _) g3 (fun j hj => by injection hj with hj; have := HP.out; have := HPQ.out; omega))
      clear r3 g3 R0' R1' HG2
      have e2 := rowK_at RG.out 2 (by rw [length_digB]; decide)
      have htop := top_limb (v := h + 5) (by have := H2.out; omega) (by have := H2.out; have : P2 + 5 < B64 ^ 3 := (by decide); omega)
      obtain ⟨t, ht⟩ : ∃ t, t = (digB B64 3 (h + 5)).getD 2 0 := ⟨_, rfl⟩
      rw [← ht] at e2 htop
      have HL := Lib.hid (full_last H2.out.1 H2.out.2)
      have HTOP := Lib.hid htop
      clear ht htop
      by_cases hgt : t > 3
      · have hP : ¬ h + 5 < P2 := HTOP.out.1 hgt
        have hl := HL.out
        rw [if_neg hP, digB_head (h + 5)] at hl
        have HL' := Lib.hid hl
        clear hl hP HL HTOP
        go_wp2_with (first | (refine wpList_load_row rfl T3 (.tmp 3) rfl q rfl _ _ _ _ RG.out Try.underlying61 rfl (by rw [size_encK, length_digB]; kernel_rfl) ?_) | (refine wpList_store_range rfl T3 (.tmp 1) (.tmp 21) rfl p 0 (encK .u64 (digB B64 3 (h + 5))) rfl rfl _ _ R0.out (by rw [size_encK, size_encK, length_digB, length_digB]; decide) (by rw [size_encK, length_digB]; kernel_rfl) (one_encK _ _) ?_))
        intro w4 r4 g4
        rw [putAt_all _ _ (by rw [Array.length_toList, size_encK, size_encK, length_digB, length_digB])] at r4
        have r4' : w4.heap[p]? = some (.cells (encK .u64 (digB B64 3 (h + 5))) T3 (0, 0)) := r4
        have R5 := Lib.hid ((g4.block _ (row_lt R1.out) (by intro e; injection e; omega)).trans R1.out)
        have HG4 := Lib.hid (grown_row HG3.out g4 (fun j hj => by injection hj with hj; have := HP.out; omega))
        have c0 := rowK_at r4' 0 (by rw [length_digB]; decide)
        have c1 := rowK_at r4' 1 (by rw [length_digB]; decide)
        obtain ⟨y0, hy0⟩ : ∃ y, y = (digB B64 3 (h + 5)).getD 0 0 := ⟨_, rfl⟩
        obtain ⟨y1, hy1⟩ : ∃ y, y = (digB B64 3 (h + 5)).getD 1 0 := ⟨_, rfl⟩
        have hl := HL'.out
        rw [← hy0] at c0 hl
        rw [← hy1] at c1 hl
        rw [HM.out] at hl
        have HL2 := Lib.hid hl
        clear r4 r4' g4 hy0 hy1 hl HL' e2 R0 R1 HG3
        go_wp2_with (refine wpList_store_range rfl T2 (.tmp 2) (.tmp 26) rfl (p + 1) 0 (encK .u64 [y0, y1]) rfl rfl _ _ R5.out (by rw [size_encK]; exact Nat.le_refl 2) (show _ = some 2 by kernel_rfl) (one_encK _ _) ?_)
        intro w8 r8 g8
        rw [putAt_all _ _ (by rfl)] at r8
        have R9 : Hid (w8.heap[p + 1]? = some (.cells (encK .u64 (digB B64 2 (v % PP))) T2 (0, 0))) := by rw [HL2.out]; exact r8
        have HG9 : Hid (w.grownBy w8 none) := grown_row HG4.out g8 (fun k hk => by injection hk with hk; have := HP.out; omega)
        clear r8 g8
        go_wp2_with fail
        exact bodyPost_ret (results_cell_row rfl _ _ (p + 1) _ _ _ _ rfl R9.out Try.underlying59 rfl (by rw [size_encK, length_digB]; kernel_rfl)) rfl ⟨rfl, HG9.out⟩
      · have hP : h + 5 < P2 := Decidable.of_not_not fun hn => hgt (HTOP.out.2 hn)
        have hl := HL.out
        rw [if_pos hP, digB_head h] at hl
        have hle : t ≤ 3 := by omega
        have c0 := rowK_at R0.out 0 (by rw [length_digB]; decide)
        have c1 := rowK_at R0.out 1 (by rw [length_digB]; decide)
        obtain ⟨y0, hy0⟩ : ∃ y, y = (digB B64 3 h).getD 0 0 := ⟨_, rfl⟩
        obtain ⟨y1, hy1⟩ : ∃ y, y = (digB B64 3 h).getD 1 0 := ⟨_, rfl⟩
        rw [← hy0] at c0 hl
        rw [← hy1] at c1 hl
        rw [HM.out] at hl
        have HL2 := Lib.hid hl
        clear hy0 hy1 hl HL HTOP hP
        go_wp2_with (refine wpList_store_range rfl T2 (.tmp 2) (.tmp 26) rfl (p + 1) 0 (encK .u64 [y0, y1]) rfl rfl _ _ R1.out (by rw [size_encK]; exact Nat.le_refl 2) (show _ = some 2 by kernel_rfl) (one_encK _ _) ?_)
        intro w8 r8 g8
        rw [putAt_all _ _ (by rfl)] at r8
        have R9 : Hid (w8.heap[p + 1]? = some (.cells (encK .u64 (digB B64 2 (v % PP))) T2 (0, 0))) := by rw [HL2.out]; exact r8
        have HG9 : Hid (w.grownBy w8 none) := grown_row HG3.out g8 (fun k hk => by injection hk with hk; have := HP.out; omega)
        clear r8 g8
        go_wp2_with fail
        exact bodyPost_ret (results_cell_row rfl _ _ (p + 1) _ _ _ _ rfl R9.out Try.underlying59 rfl (by rw [size_encK, length_digB]; kernel_rfl)) rfl ⟨rfl, HG9.out⟩
end Go.Proofs.Ythhijeokeljcjaa
