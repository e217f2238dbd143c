/- scalar: bytes' number, below the order. -/
import Derived.Test.YtcfgobpjhppebaaScaE
namespace Go.Proofs.Ytcfgobpjhppebaa
set_option linter.unusedVariables false
set_option linter.unusedSimpArgs false
open Go.RowKit Go.Proofs.YtcfgobpjhppebaaL

theorem digB_snoc0 (v : Int) (h0 : 0 ≤ v) (h1 : v < B64 ^ 4) : digB B64 4 v ++ [0] = digB B64 5 v := by
  rw [digB_next B64 (by decide) 4 v, Int.ediv_eq_zero_of_lt h0 h1]; rfl
set_option maxHeartbeats 1000000 in
set_option maxRecDepth 100000 in
theorem load_any (a : List Int) (w : World) (ha : a.length = 32) (hoa : okB 256 a) :
    Calls Try.prog 22 #[.agg (encK .u8 a)] w fun e w' => e = .returned (.agg (encK .u64 (digB B64 5 (numB 256 a)))) ∧ w.grownBy w' none := by
  have HA := Lib.hid ha
  have HOA := Lib.hid hoa
  clear ha hoa
  go_enter Try.func22, Try.ntmps22
  obtain ⟨p, hp⟩ : ∃ p, w.heap.size = p := ⟨_, rfl⟩
  have HP := Lib.hid hp
  clear hp
  go_wp2_with (first | (refine wpList_load_row rfl A32 (.tmp 1) rfl p (by simp [Act.eval, HP.out]) _ _ _ _ (by rw [← HP.out]; exact two_0 w (.cells (encK .u8 a) A32 (0, 0)) _) Try.underlying22 rfl (by rw [size_encK, HA.out]; kernel_rfl) ?_))
  rw [HP.out]
  have r1 := two_1 w (.cells (encK .u8 a) A32 (0, 0)) (.cells (encK .u64 (List.replicate 5 0)) T5 (0, 0))
  rw [HP.out] at r1
  have R1 := Lib.hid r1
  have HG := Lib.hid (two_g w (.cells (encK .u8 a) A32 (0, 0)) (.cells (encK .u64 (List.replicate 5 0)) T5 (0, 0)))
  clear r1
  refine (fload_any a _ HA.out HOA.out).mono ?_
  rintro e w1 ⟨rfl, hg1⟩
  have R1' := Lib.hid ((hg1.block _ (row_lt R1.out) (by simp)).trans R1.out)
  have R1 := R1'
  have HG1 := Lib.hid (grown_trans HG.out hg1)
  obtain ⟨D, hD⟩ : ∃ D, D = digB B64 4 (numB 256 a) := ⟨_, rfl⟩
  rw [← hD]
  have hDl : D.length = 4 := by rw [hD, length_digB]
  have hfin : encK .u64 (digB B64 5 (numB 256 a)) = #[.int .u64 (D.getD 0 0), .int .u64 (D.getD 1 0), .int .u64 (D.getD 2 0), .int .u64 (D.getD 3 0), .int .u64 0] := by
    have hr := numB_range (B := 256) (by decide) a HOA.out
    rw [HA.out] at hr
    rw [← digB_snoc0 (numB 256 a) hr.1 hr.2, ← hD]
    match D, hDl with
    | [x0, x1, x2, x3], _ => rfl
  have HD := Lib.hid hDl
  have HFIN := Lib.hid hfin
  clear hg1 R1' HG hD hDl hfin
  obtain ⟨q, hq⟩ : ∃ q, w1.heap.size = q := ⟨_, rfl⟩
  have HQ := Lib.hid hq
  have HPQ := Lib.hid (show p + 1 < q by rw [← hq]; exact row_lt R1.out)
  clear hq
  go_wp2_with (refine wpList_store_range rfl F4 (.tmp 3) (.tmp 5) rfl q 0 (encK .u64 D) (by simp [Act.eval, HQ.out]) rfl _ (encK .u64 (List.replicate 4 0)) (alloc_at _ _ HQ.out.symm) (by rw [size_encK, size_encK, HD.out]; decide) (by rw [size_encK, HD.out]; kernel_rfl) (one_encK _ _) ?_)
  rw [HQ.out]
  intro w3 r3 g3
  rw [putAt_all _ _ (by rw [Array.length_toList, size_encK, size_encK, HD.out]; rfl)] at r3
  have r3' : w3.heap[q]? = some (.cells (encK .u64 D) F4 (0, 0)) := r3
  have e0 := rowK_at r3' 0 (by rw [HD.out]; decide)
  have e1 := rowK_at r3' 1 (by rw [HD.out]; decide)
  have e2 := rowK_at r3' 2 (by rw [HD.out]; decide)
  have e3 := rowK_at r3' 3 (by rw [HD.out]; decide)
  have R3 := Lib.hid ((g3.block _ (by have := HPQ.out; have := HQ.out; rw [alloc_size]; omega) (by intro e; injection e with e; have := HPQ.out; omega)).trans ((alloc_up _ _ (row_lt R1.out)).trans R1.out))
  have HG3 := Lib.hid (grown_row (grown_alloc HG1.out _) g3 (fun j hj => by injection hj with hj; have := HP.out; have := HPQ.out; omega))
  clear r3 g3 r3'
  obtain ⟨x0, hx0⟩ : ∃ x, x = D.getD 0 0 := ⟨_, rfl⟩
  obtain ⟨x1, hx1⟩ : ∃ x, x = D.getD 1 0 := ⟨_, rfl⟩
  obtain ⟨x2, hx2⟩ : ∃ x, x = D.getD 2 0 := ⟨_, rfl⟩
  obtain ⟨x3, hx3⟩ : ∃ x, x = D.getD 3 0 := ⟨_, rfl⟩
  rw [← hx0] at e0
  rw [← hx1] at e1
  rw [← hx2] at e2
  rw [← hx3] at e3
  have hf := HFIN.out
  rw [← hx0, ← hx1, ← hx2, ← hx3] at hf
  have HF := Lib.hid hf
  clear hx0 hx1 hx2 hx3 hf HFIN
  go_wp2_with (refine wpList_store_range rfl T5 (.tmp 2) (.tmp 14) rfl (p + 1) 0 (encK .u64 [x0, x1, x2, x3, 0]) rfl rfl _ _ R3.out (by rw [size_encK]; exact Nat.le_refl 5) (show _ = some 5 by kernel_rfl) (one_encK _ _) ?_)
  intro w8 r8 g8
  rw [putAt_all _ _ (by rfl)] at r8
  have R9 : Hid (w8.heap[p + 1]? = some (.cells (encK .u64 (digB B64 5 (numB 256 a))) T5 (0, 0))) := by rw [HF.out]; exact r8
  have HG9 : Hid (w.grownBy w8 none) := grown_row HG3.out g8 (fun k hk => by injection hk with hk; have := HP.out; omega)
  clear r8 g8
  go_wp2_with fail
  exact bodyPost_ret (results_cell_row rfl _ _ (p + 1) _ _ _ _ rfl R9.out Try.underlying36 rfl (by rw [size_encK, length_digB]; kernel_rfl)) rfl ⟨rfl, HG9.out⟩
end Go.Proofs.Ytcfgobpjhppebaa
