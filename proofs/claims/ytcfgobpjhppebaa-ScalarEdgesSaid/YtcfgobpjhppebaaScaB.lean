/- scalar: differences of five limbs, walked. -/
import Derived.Test.YtcfgobpjhppebaaScaA
namespace Go.Proofs.Ytcfgobpjhppebaa
set_option linter.unusedVariables false
set_option linter.unusedSimpArgs false
open Go.RowKit Go.Proofs.YtcfgobpjhppebaaL

theorem results_row_tmp {P : Program} {fn : Func} {p u : Tmp} {ty : TypeId} (h : fn.results = #[.cell p ty, .tmp u]) (tmps : Array Value) (w : World) (g : Nat) (t : TypeId) (cs : Array Value) (fr : Nat × Nat) (d : TypeDesc)
    (hp : tmps.getD p undef = .pointer (some ⟨g, 0, none⟩)) (hg : w.heap[g]? = some (.cells cs t fr))
    (hu : P.underlying ty = some d) (hd : (match d with | .struct _ | .array _ _ => true | _ => false) = true) (hi : (P.info? ty).map (·.size) = some cs.size) (v : Value) (hv : tmps.getD u undef = v) :
    (results fn tmps).run P w = .ok (.tuple #[.agg cs, v]) w := by
  have hp' : tmps[p]?.getD undef = .pointer (some ⟨g, 0, none⟩) := by simpa using hp
  have hv' : tmps[u]?.getD undef = v := by simpa using hv
  simp [results, h, hp', hv', asAddr, run_loadVar_row w g t ty cs fr d hg hu hd hi]

set_option maxHeartbeats 1000000 in
set_option maxRecDepth 100000 in
theorem minus_any (a b : List Int) (w : World) (ha : a.length = 5) (hb : b.length = 5) (hoa : okB B64 a) (hob : okB B64 b) :
    Calls Try.prog 21 #[.agg (encK .u64 a), .agg (encK .u64 b)] w fun e w' => e = .returned (.tuple #[.agg (encK .u64 (digB B64 5 (numB B64 a - numB B64 b))), .bool (decide (numB B64 a < numB B64 b))]) ∧ w.grownBy w' none := by
  rw [← (difs_eq (B := B64) (by decide) ha hb hoa hob).1]
  have hbor := (difs_eq (B := B64) (by decide) ha hb hoa hob).2
  have HBOR := Lib.hid hbor
  clear hbor
  have HA := Lib.hid ha
  have HB := Lib.hid hb
  have HOA := Lib.hid hoa
  have HOB := Lib.hid hob
  clear ha hb hoa hob
  go_enter Try.func21, Try.ntmps21
  go_wp2_with fail
  obtain ⟨p, hp⟩ : ∃ p, w.heap.size = p := ⟨_, rfl⟩
  rw [hp]
  have HP := Lib.hid hp
  clear hp
  go_loopw [9, 7] (fun v c wr => ∃ k : Nat, k ≤ 5 ∧ v = .int .i64 k ∧ c = .int .u64 (borrow B64 a b k) ∧ wr.heap[p]? = some (.cells (encK .u64 a) T5 (0, 0)) ∧ wr.heap[p + 1]? = some (.cells (encK .u64 b) T5 (0, 0)) ∧
    wr.heap[p + 1 + 1]? = some (.cells (encK .u64 (List.replicate 5 0)) T5 (0, 0)) ∧ wr.heap[p + 1 + 1 + 1]? = some (.cells (encK .u64 (difs B64 a b k ++ List.replicate (5 - k) 0)) T5 (0, 0)) ∧ w.grownBy wr none) (fun v _ _ => 5 - (intOf v).toNat)
  case atStart =>
    rw [← HP.out]
    refine ⟨0, by omega, rfl, rfl, four_0 _ _ _ _ _, four_1 _ _ _ _ _, four_2 _ _ _ _ _, four_3 _ _ _ _ _, four_g _ _ _ _ _⟩
  case round =>
    obtain ⟨k, hk, rfl, rfl, r1, r2, r3, r4, hg⟩ := hrel
    have R1 := Lib.hid r1
    have R2 := Lib.hid r2
    have R3 := Lib.hid r3
    have R4 := Lib.hid r4
    have HG := Lib.hid hg
    clear r1 r2 r3 r4 hg
    by_cases hlt : k < 5
    · have hlt' : (k : Int) < 5 := by omega
      have hk0 : (0 : Int) ≤ (k : Int) := by omega
      have e1 := rowK_at R1.out k (by rw [HA.out]; exact hlt)
      have e2 := rowK_at R2.out k (by rw [HB.out]; exact hlt)
      obtain ⟨x, hx⟩ : ∃ x, x = a.getD k 0 := ⟨_, rfl⟩
      obtain ⟨y, hy⟩ : ∃ y, y = b.getD k 0 := ⟨_, rfl⟩
      obtain ⟨c, hc⟩ : ∃ c, c = borrow B64 a b k := ⟨_, rfl⟩
      have hx0 := ok_getD (by decide) HOA.out k
      have hy0 := ok_getD (by decide) HOB.out k
      have hc0 := borrow_range B64 a b k
      rw [← hx] at e1 hx0
      rw [← hy] at e2 hy0
      rw [← hc] at hc0
      rw [← hc]
      have hadd := fun w => sub64_run x y c hx0.1 hx0.2 hy0.1 hc0.1 hy0.2 hc0.2 w
      have hnx : difAt B64 a b k = (x + 18446744073709551616 - y - c) % 18446744073709551616 := by rw [hx, hy, hc]; rfl
      have hnc : borrow B64 a b (k + 1) = if x < y + c then 1 else 0 := by rw [hx, hy, hc]; rfl
      have HNX := Lib.hid hnx
      have HNC := Lib.hid hnc
      clear hx hy hc hnx hnc hx0 hy0 hc0
      go_wp2_with fail
      refine wp_region_grow [(2, 0), (2, 1), (2, 2), (1, 3), (2, 4), (2, 5), (1, 6), (2, 7), (2, 8), (2, 9), (2, 10), (2, 11), (2, 12), (3, 13), (2, 14)] (by kernel_rfl) (by kernel_rfl) (fun _ _ _ _ _ h => h) (fun _ _ _ _ _ h => h) ?_
      obtain ⟨w4, hw4⟩ : ∃ w4, w4 = wr.drew := ⟨_, rfl⟩
      rw [← hw4]
      have g4 : wr.grownBy w4 none := by rw [hw4]; exact grown_drew _ _
      have E1 := Lib.hid (g4.cell e1 (by simp))
      have E2 := Lib.hid (g4.cell e2 (by simp))
      have R4' := Lib.hid ((g4.block _ (row_lt R4.out) (by simp)).trans R4.out)
      have G4 := Lib.hid g4
      clear e1 e2 hw4 g4
      (repeat (first | (refine gSeq_skip rfl (by rfl) ?_; (try simp only [Act.put, Act.eval, List.setIfInBounds_toArray, List.set_cons_zero, List.set_cons_succ, Array.getD_eq_getD_getElem?, List.getElem?_toArray, List.getElem?_cons_succ, List.getElem?_cons_zero, Option.getD_some])) | (refine gSeq_move _ rfl rfl (by rfl) ?_; (try simp only [Act.put, Act.eval, List.setIfInBounds_toArray, List.set_cons_zero, List.set_cons_succ, Array.getD_eq_getD_getElem?, List.getElem?_toArray, List.getElem?_cons_succ, List.getElem?_cons_zero, Option.getD_some])) | (refine gSeq_assign _ rfl rfl (by rfl) ?_; (try simp only [Act.put, Act.eval, List.setIfInBounds_toArray, List.set_cons_zero, List.set_cons_succ, Array.getD_eq_getD_getElem?, List.getElem?_toArray, List.getElem?_cons_succ, List.getElem?_cons_zero, Option.getD_some])) | (fail) | (refine gSeq_pure rfl (by rfl) ?_ ?_ ?_; (rotate_left; (intro w'; (try (have d1 := hG.cell E1.out (by simp); have d2 := hG.cell E2.out (by simp))); go_simp; (first | done | with_reducible rfl)); (try simp only [Act.put, Act.eval, List.setIfInBounds_toArray, List.set_cons_zero, List.set_cons_succ, Array.getD_eq_getD_getElem?, List.getElem?_toArray, List.getElem?_cons_succ, List.getElem?_cons_zero, Option.getD_some]))) | (refine gSeq_still rfl (by rfl) ?_ ?_ ?_; (rotate_left; (intro w' hG; (try (have d1 := hG.cell E1.out (by simp); have d2 := hG.cell E2.out (by simp))); go_simp; (first | done | with_reducible rfl)); (try simp only [Act.put, Act.eval, List.setIfInBounds_toArray, List.set_cons_zero, List.set_cons_succ, Array.getD_eq_getD_getElem?, List.getElem?_toArray, List.getElem?_cons_succ, List.getElem?_cons_zero, Option.getD_some])))))
      refine gSeq_store rfl (by rfl) _ _ _ rfl (p + 1 + 1 + 1) k _ rfl rfl _ _ R4'.out (by rw [size_encK, List.length_append, length_difs, List.length_replicate]; omega) (by kernel_rfl) rfl rfl ?_
      intro w5 r5 g5
      (try simp only [Act.put, Act.eval, List.setIfInBounds_toArray, List.set_cons_zero, List.set_cons_succ, Array.getD_eq_getD_getElem?, List.getElem?_toArray, List.getElem?_cons_succ, List.getElem?_cons_zero, Option.getD_some])
      (repeat (first | (refine gSeq_skip rfl (by rfl) ?_; (try simp only [Act.put, Act.eval, List.setIfInBounds_toArray, List.set_cons_zero, List.set_cons_succ, Array.getD_eq_getD_getElem?, List.getElem?_toArray, List.getElem?_cons_succ, List.getElem?_cons_zero, Option.getD_some])) | (refine gSeq_move _ rfl rfl (by rfl) ?_; (try simp only [Act.put, Act.eval, List.setIfInBounds_toArray, List.set_cons_zero, List.set_cons_succ, Array.getD_eq_getD_getElem?, List.getElem?_toArray, List.getElem?_cons_succ, List.getElem?_cons_zero, Option.getD_some])) | (refine gSeq_assign _ rfl rfl (by rfl) ?_; (try simp only [Act.put, Act.eval, List.setIfInBounds_toArray, List.set_cons_zero, List.set_cons_succ, Array.getD_eq_getD_getElem?, List.getElem?_toArray, List.getElem?_cons_succ, List.getElem?_cons_zero, Option.getD_some])) | (fail) | (refine gSeq_pure rfl (by rfl) ?_ ?_ ?_; (rotate_left; (intro w'; (skip); go_simp; (first | done | with_reducible rfl)); (try simp only [Act.put, Act.eval, List.setIfInBounds_toArray, List.set_cons_zero, List.set_cons_succ, Array.getD_eq_getD_getElem?, List.getElem?_toArray, List.getElem?_cons_succ, List.getElem?_cons_zero, Option.getD_some]))) | (refine gSeq_still rfl (by rfl) ?_ ?_ ?_; (rotate_left; (intro w' hG; (skip); go_simp; (first | done | with_reducible rfl)); (try simp only [Act.put, Act.eval, List.setIfInBounds_toArray, List.set_cons_zero, List.set_cons_succ, Array.getD_eq_getD_getElem?, List.getElem?_toArray, List.getElem?_cons_succ, List.getElem?_cons_zero, Option.getD_some])))))
      refine gSeq_nil ?_
      go_wp2_with fail
      have r6 := rowK_set r5
      rw [← HNX.out] at r6
      have hset : (difs B64 a b k ++ List.replicate (5 - k) 0).set k (difAt B64 a b k) = difs B64 a b (k + 1) ++ List.replicate (5 - (k + 1)) 0 := set_next (difAt B64 a b) k 5 hlt
      rw [hset] at r6
      have g6 := grown_row (grown_trans HG.out G4.out) g5 (fun j hj => by injection hj with hj; have := HP.out; omega)
      have gw := grown_trans G4.out (grown_refl w4 none)
      refine ⟨⟨k + 1, by omega, by go_num, by rw [HNC.out], ?_, ?_, ?_, r6, g6⟩, by simp [intOf]; omega⟩
      · rw [g5.block _ (by have := row_lt R4'.out; omega) (by intro e; injection e; omega), G4.out.block _ (row_lt R1.out) (by simp)]; exact R1.out
      · rw [g5.block _ (by have := row_lt R4'.out; omega) (by intro e; injection e; omega), G4.out.block _ (row_lt R2.out) (by simp)]; exact R2.out
      · rw [g5.block _ (by have := row_lt R4'.out; omega) (by intro e; injection e; omega), G4.out.block _ (row_lt R3.out) (by simp)]; exact R3.out
    · have : k = 5 := by omega
      subst this
      have R5 := R4.out
      rw [show difs B64 a b 5 ++ List.replicate (5 - 5) 0 = difs B64 a b 5 by simp] at R5
      have R6 := Lib.hid R5
      clear R5
      go_wp2_with (first | (refine wpList_load_row rfl T5 (.tmp 6) rfl (p + 1 + 1 + 1) rfl _ _ _ _ R6.out Try.underlying36 rfl (by rw [size_encK, length_difs]; kernel_rfl) ?_) | (refine wpList_store_range rfl T5 (.tmp 4) (.tmp 26) rfl (p + 1 + 1) 0 (encK .u64 (difs B64 a b 5)) rfl rfl _ _ R3.out (by rw [size_encK, size_encK, length_difs]; decide) (by rw [size_encK, length_difs]; kernel_rfl) (one_encK _ _) ?_))
      intro w8 r8 g8
      rw [putAt_all _ _ (by rw [Array.length_toList, size_encK, size_encK, length_difs]; rfl)] at r8
      have R9 : Hid (w8.heap[p + 1 + 1]? = some (.cells (encK .u64 (difs B64 a b 5)) T5 (0, 0))) := r8
      have HG9 : Hid (w.grownBy w8 none) := grown_row HG.out g8 (fun k hk => by injection hk with hk; have := HP.out; omega)
      clear r8 g8
      go_wp2_with fail
      have hdec : decide (0 < borrow B64 a b 5) = decide (numB B64 a < numB B64 b) := by
        rw [HBOR.out]
        by_cases h : numB B64 a < numB B64 b
        · rw [if_pos h]; simp [h]
        · rw [if_neg h]; simp [h]
      exact bodyPost_ret (results_row_tmp rfl _ _ (p + 1 + 1) _ _ _ _ rfl R9.out Try.underlying36 rfl (by rw [size_encK, length_difs]; kernel_rfl) _ rfl) rfl ⟨by rw [← hdec]; rfl, HG9.out⟩
end Go.Proofs.Ytcfgobpjhppebaa
