/- PolyTells, walked. -/
import Derived.Test.YtcfhpbnkebodiaaPolN
namespace Go.Proofs.Ytcfhpbnkebodiaa
set_option linter.unusedVariables false
set_option linter.unusedSimpArgs false
open Go.RowKit Go.Proofs.YtcfhpbnkebodiaaL

theorem rd_block {k : IntKind} {w : World} {ad : Option Addr} {n : Nat} {xs : List Int} (h : Rd k w ad n xs) (hn : 0 < n) : ∀ x, ad = some x → x.block < w.heap.size := fun x hx => by
  obtain ⟨y, hy, hc⟩ := h.2 0 hn
  obtain rfl : y = x := Option.some.inj (hy.symm.trans hx)
  have := World.block_lt_of_cell? w _ hc
  rwa [add_block] at this
theorem isRow_none {w : World} {a : Option Addr} {len cap : Nat} {zs : List Int} (h : IsRow .u8 w a len cap zs) : (a = none → cap = 0) ∧ cap ≤ maxLen := by
  rcases h with ⟨rfl, rfl, rfl, rfl⟩ | ⟨x, rfl, hl, hm, hz, hc, hw⟩
  · exact ⟨fun _ => rfl, by unfold maxLen; omega⟩
  · exact ⟨fun h => (by cases h), hm⟩
theorem subAt_none {ad : Option Addr} {cap : Nat} (h : ad = none → cap = 0) (l : Nat) : subAt ad l cap = none → cap - l = 0 := fun hs => by
  unfold subAt at hs
  split at hs
  · omega
  · cases ad with
    | none => have := h rfl; omega
    | some x => simp at hs
theorem rd_take {k : IntKind} {w : World} {ad : Option Addr} {len : Nat} {xs : List Int} (h : Rd k w ad len xs) (n : Nat) (hn : n ≤ len) : Rd k w ad n (xs.take n) :=
  ⟨by rw [List.length_take, h.1]; omega, fun i hi => by
    obtain ⟨x, hx, hc⟩ := h.2 i (by omega)
    refine ⟨x, hx, ?_⟩
    rw [hc, List.getD_eq_getElem?_getD, List.getD_eq_getElem?_getD, List.getElem?_take_of_lt hi]⟩
set_option maxHeartbeats 4000000 in
set_option maxRecDepth 100000 in
theorem tells_walk (key : List Int) (ad : Option Addr) (len cap : Nat) (zs : List Int) (at_ : Int) (w : World) (hk : key.length = 32) (hko : okB 256 key) (hr : IsRow .u8 w ad len cap zs) (ha0 : 0 ≤ at_) (ha1 : at_ < 65536) :
    Calls Try.prog 3 #[.agg (encK .u8 key), .slice ad len cap, .int .u16 at_] w fun e w' => e = .returned (.bool true) ∧ w.grownBy w' none := by
  obtain ⟨h1, h2, h3, h4⟩ := isRow_rd hr
  obtain ⟨h5, h6⟩ := isRow_none hr
  have HK := Lib.hid hk
  have HKO := Lib.hid hko
  obtain ⟨xs, hxs⟩ : ∃ xs, xs = zs.take len := ⟨_, rfl⟩
  rw [← hxs] at h1 h2
  have HR := Lib.hid h1
  have HOX := Lib.hid h2
  have HLC := Lib.hid h3
  have HN := Lib.hid h5
  have HCM := Lib.hid h6
  have H63 := Lib.hid (show (len : Int) ≤ 9223372036854775807 by omega)
  clear hk hko hr h1 h2 h3 h4 h5 h6 hxs
  go_enter Try.func3, Try.ntmps3
  obtain ⟨p, hp⟩ : ∃ p, w.heap.size = p := ⟨_, rfl⟩
  have HP := Lib.hid hp
  clear hp
  go_wp2_with fail
  have r0 := alloc_at w (.cells (encK .u8 key) A32 (0, 0)) rfl
  have hg := World.grownBy_alloc w (.cells (encK .u8 key) A32 (0, 0)) none
  refine (known_any _).mono ?_
  rintro e w1 ⟨rfl, hg1⟩
  rw [HP.out] at r0 ⊢
  have RK := Lib.hid (row_keep r0 hg1)
  have HG := Lib.hid (grown_trans hg hg1)
  clear r0 hg hg1
  have h63 := H63.out
  by_cases hbig : (len : Int) > 200
  · go_wp2_with fail
    exact bodyPost_ret (results_tmp rfl _ _ _) rfl ⟨rfl, HG.out⟩
  · have hlen : len ≤ 200 := by omega
    have hlen' : (len : Int) ≤ 200 := by omega
    obtain ⟨i, hi, hil⟩ : ∃ i : Nat, at_ % ((len : Int) + 1) = i ∧ i ≤ len := by
      have h1 := Int.emod_nonneg at_ (show (len : Int) + 1 ≠ 0 by omega)
      have h2 := Int.emod_lt_of_pos at_ (show (0 : Int) < (len : Int) + 1 by omega)
      exact ⟨(at_ % ((len : Int) + 1)).toNat, by omega, by omega⟩
    have HI := Lib.hid hi
    clear hi
    go_wp2_with (refine wpList_load_row rfl A32 (.tmp 3) rfl p rfl _ _ _ _ RK.out Try.underlying22 rfl (by rw [size_encK, HK.out]; kernel_rfl) ?_)
    rw [HI.out]
    have hrb := HR.out.kept HG.out
    refine (rpoly_any key ad len cap xs _ HK.out HKO.out hrb HOX.out HLC.out HCM.out (fun h => rd_block hrb h)).mono ?_
    rintro e w2 ⟨rfl, hg2⟩
    obtain ⟨T, hT⟩ : ∃ T, T = digB 256 16 (tagV key xs) := ⟨_, rfl⟩
    rw [← hT]
    have HTL := Lib.hid (show T.length = 16 by rw [hT, length_digB])
    have HT := Lib.hid hT
    have RK' := Lib.hid (row_keep RK.out hg2)
    have HG2 := Lib.hid (grown_trans HG.out hg2)
    clear hT hg2 hrb RK HG
    obtain ⟨q, hq⟩ : ∃ q, w2.heap.size = q := ⟨_, rfl⟩
    have HQ := Lib.hid hq
    have HPQ := Lib.hid (show p < q by rw [← hq]; exact row_lt RK'.out)
    clear hq
    go_wp2_with (refine wpList_store_range rfl A16 (.tmp 8) (.tmp 22) rfl q 0 (encK .u8 T) (by simp [Act.eval, HQ.out]) rfl _ (encK .u8 (List.replicate 16 0)) (alloc_at _ _ HQ.out.symm) (by rw [size_encK, size_encK, HTL.out]; decide) (by rw [size_encK, HTL.out]; kernel_rfl) (one_encK _ _) ?_)
    rw [HQ.out]
    intro w3 r3 g3
    rw [putAt_all _ _ (by rw [Array.length_toList, size_encK, size_encK, HTL.out]; rfl)] at r3
    have RT0 : Hid (w3.heap[q]? = some (.cells (encK .u8 T) A16 (0, 0))) := r3
    have RK0 := Lib.hid ((g3.block _ (by have := HPQ.out; have := HQ.out; rw [alloc_size]; omega) (by intro e; injection e with e; have := HPQ.out; omega)).trans ((alloc_up _ _ (row_lt RK'.out)).trans RK'.out))
    have HG3 := Lib.hid (grown_row (grown_alloc HG2.out _) g3 (fun j hj => by injection hj with hj; have := HP.out; have := HPQ.out; omega))
    clear r3 g3 RK' HG2
    go_wp2_with fail
    refine wp_region_grow [(1,0),(2,1),(1,4),(0,2),(0,3),(2,5),(2,6),(1,7),(2,8),(2,9),(2,10),(2,11),(2,12),(2,13),(1,16),(0,14),(0,15),(2,17),(2,18),(2,19)] (by kernel_rfl) (by kernel_rfl) (fun _ _ _ _ _ h => h) (fun _ _ _ _ _ h => h) ?_
    refine gSeq_name fun w4 hw4 => ?_
    have g4 : w3.grownBy w4 none := by rw [hw4]; exact grown_drew _ _
    have RT := Lib.hid (row_keep RT0.out g4)
    have RK := Lib.hid (row_keep RK0.out g4)
    have HG := Lib.hid (grown_trans HG3.out g4)
    clear RT0 RK0 HG3 g4 hw4
    (repeat (first | (refine gSeq_skip rfl (by rfl) ?_; (try simp only [Act.put, Act.eval, List.setIfInBounds_toArray, List.set_cons_zero, List.set_cons_succ, Array.getD_eq_getD_getElem?, List.getElem?_toArray, List.getElem?_cons_succ, List.getElem?_cons_zero, Option.getD_some])) | (refine gSeq_move _ rfl rfl (by rfl) ?_; (try simp only [Act.put, Act.eval, List.setIfInBounds_toArray, List.set_cons_zero, List.set_cons_succ, Array.getD_eq_getD_getElem?, List.getElem?_toArray, List.getElem?_cons_succ, List.getElem?_cons_zero, Option.getD_some])) | (refine gSeq_assign _ rfl rfl (by rfl) ?_; (try simp only [Act.put, Act.eval, List.setIfInBounds_toArray, List.set_cons_zero, List.set_cons_succ, Array.getD_eq_getD_getElem?, List.getElem?_toArray, List.getElem?_cons_succ, List.getElem?_cons_zero, Option.getD_some])) | ((first | (refine gSeq_row rfl (by rfl) 22 _ rfl _ rfl _ _ _ _ RK.out Try.underlying22 rfl (by rw [size_encK, HK.out]; kernel_rfl) ?_; (try simp only [Act.put, Act.eval, List.setIfInBounds_toArray, List.set_cons_zero, List.set_cons_succ, Array.getD_eq_getD_getElem?, List.getElem?_toArray, List.getElem?_cons_succ, List.getElem?_cons_zero, Option.getD_some])) | (refine gSeq_row rfl (by rfl) 26 _ rfl _ rfl _ _ _ _ RT.out Try.underlying26 rfl (by rw [size_encK, HTL.out]; kernel_rfl) ?_; (try simp only [Act.put, Act.eval, List.setIfInBounds_toArray, List.set_cons_zero, List.set_cons_succ, Array.getD_eq_getD_getElem?, List.getElem?_toArray, List.getElem?_cons_succ, List.getElem?_cons_zero, Option.getD_some])))) | (refine gSeq_pure rfl (by rfl) ?_ ?_ ?_; (rotate_left; (intro w'; (skip); go_simp; (first | done | with_reducible rfl)); (try simp only [Act.put, Act.eval, List.setIfInBounds_toArray, List.set_cons_zero, List.set_cons_succ, Array.getD_eq_getD_getElem?, List.getElem?_toArray, List.getElem?_cons_succ, List.getElem?_cons_zero, Option.getD_some]))) | (refine gSeq_still rfl (by rfl) ?_ ?_ ?_; (rotate_left; (intro w' hG; (skip); go_simp; (first | done | with_reducible rfl)); (try simp only [Act.put, Act.eval, List.setIfInBounds_toArray, List.set_cons_zero, List.set_cons_succ, Array.getD_eq_getD_getElem?, List.getElem?_toArray, List.getElem?_cons_succ, List.getElem?_cons_zero, Option.getD_some])))))
    (refine gSeq_do rfl (by rfl) (fun K hK => ?_)); go_simp
    obtain ⟨s, hs⟩ : ∃ s, w4.heap.size = s := ⟨_, rfl⟩
    have HS := Lib.hid hs
    clear hs
    rw [HS.out]
    obtain ⟨B, hB⟩ : ∃ B : Bs, B = ⟨ad, len, cap, xs⟩ := ⟨_, rfl⟩
    have hBv : B.val = .slice ad len cap := by rw [hB]; rfl
    have HBX := Lib.hid (show B.xs = xs by rw [hB])
    have HBO := Lib.hid (show B.ok w4 by rw [hB]; exact ⟨HR.out.kept HG.out, HOX.out, HN.out, (show len ≤ 3000 by omega)⟩)
    have r5 := alloc_at w4 (.cells #[B.val] 23 (0, 0)) HS.out.symm
    have g5 := World.grownBy_alloc w4 (.cells #[B.val] 23 (0, 0)) none
    rw [hBv] at r5 g5
    refine hK _ _ (g5) ?_; clear hK K; (try simp only [Act.put, Act.eval, List.setIfInBounds_toArray, List.set_cons_zero, List.set_cons_succ, Array.getD_eq_getD_getElem?, List.getElem?_toArray, List.getElem?_cons_succ, List.getElem?_cons_zero, Option.getD_some])
    obtain ⟨w5, hw5⟩ : ∃ w5, w5 = w4.alloc (.cells #[.slice ad len cap] 23 (0, 0)) := ⟨_, rfl⟩
    rw [← hw5] at r5 g5 ⊢
    rw [← hBv] at r5
    have RC := Lib.hid r5
    have HBO' := Lib.hid (Bs.ok_keep HBO.out g5)
    have RT' := Lib.hid (row_keep RT.out g5)
    have RK' := Lib.hid (row_keep RK.out g5)
    have HG' := Lib.hid (grown_trans HG.out g5)
    clear r5 g5 hw5 RT RK HG HBO hB hBv
    (refine gSeq_do rfl (by rfl) (fun K hK => ?_)); go_simp
    refine (sum_any key (some ⟨s, 0, none⟩) 1 1 [B] _ HK.out HKO.out rfl (fun j c hc => by
      have h0 : j = 0 := by
        have := (List.getElem?_eq_some_iff.1 hc).1
        simpa using this
      subst h0
      have : B = c := by simpa using hc
      subst this
      exact ⟨_, rfl, row_cell RC.out 0 _ rfl⟩) (fun c hc => by
      have : c = B := by simpa using hc
      subst this
      exact HBO'.out) (by decide)).mono ?_
    rintro e w6 ⟨rfl, hg6⟩
    rw [show catB [B] = xs by rw [catB, HBX.out]; exact List.append_nil _, ← HT.out]
    refine hK _ _ hg6 ?_; clear hK K; (try simp only [Act.put, Act.eval, List.setIfInBounds_toArray, List.set_cons_zero, List.set_cons_succ, Array.getD_eq_getD_getElem?, List.getElem?_toArray, List.getElem?_cons_succ, List.getElem?_cons_zero, Option.getD_some])
    have RT := Lib.hid (row_keep RT'.out hg6)
    have RK := Lib.hid (row_keep RK'.out hg6)
    have HG := Lib.hid (grown_trans HG'.out hg6)
    clear hg6 RT' RK' HG' RC HBO'
    have hil' : (i : Int) ≤ len := by omega
    have hic : i ≤ cap := by have := HLC.out; omega
    (repeat (first | (refine gSeq_skip rfl (by rfl) ?_; (try simp only [Act.put, Act.eval, List.setIfInBounds_toArray, List.set_cons_zero, List.set_cons_succ, Array.getD_eq_getD_getElem?, List.getElem?_toArray, List.getElem?_cons_succ, List.getElem?_cons_zero, Option.getD_some])) | (refine gSeq_move _ rfl rfl (by rfl) ?_; (try simp only [Act.put, Act.eval, List.setIfInBounds_toArray, List.set_cons_zero, List.set_cons_succ, Array.getD_eq_getD_getElem?, List.getElem?_toArray, List.getElem?_cons_succ, List.getElem?_cons_zero, Option.getD_some])) | (refine gSeq_assign _ rfl rfl (by rfl) ?_; (try simp only [Act.put, Act.eval, List.setIfInBounds_toArray, List.set_cons_zero, List.set_cons_succ, Array.getD_eq_getD_getElem?, List.getElem?_toArray, List.getElem?_cons_succ, List.getElem?_cons_zero, Option.getD_some])) | ((first | (refine gSeq_row rfl (by rfl) 26 _ rfl _ rfl _ _ _ _ RT.out Try.underlying26 rfl (by rw [size_encK, HTL.out]; kernel_rfl) ?_; (try simp only [Act.put, Act.eval, List.setIfInBounds_toArray, List.set_cons_zero, List.set_cons_succ, Array.getD_eq_getD_getElem?, List.getElem?_toArray, List.getElem?_cons_succ, List.getElem?_cons_zero, Option.getD_some])))) | (refine gSeq_pure rfl (by rfl) ?_ ?_ ?_; (rotate_left; (intro w'; (skip); go_simp; (first | done | with_reducible rfl)); (try simp only [Act.put, Act.eval, List.setIfInBounds_toArray, List.set_cons_zero, List.set_cons_succ, Array.getD_eq_getD_getElem?, List.getElem?_toArray, List.getElem?_cons_succ, List.getElem?_cons_zero, Option.getD_some]))) | (refine gSeq_still rfl (by rfl) ?_ ?_ ?_; (rotate_left; (intro w' hG; (skip); go_simp; (first | done | with_reducible rfl)); (try simp only [Act.put, Act.eval, List.setIfInBounds_toArray, List.set_cons_zero, List.set_cons_succ, Array.getD_eq_getD_getElem?, List.getElem?_toArray, List.getElem?_cons_succ, List.getElem?_cons_zero, Option.getD_some])))))
    (refine gSeq_eql rfl (by rfl) 26 _ _ _ rfl _ _ _ Try.underlying26 Try.underlying5 (by kernel_rfl) (by kernel_rfl) T T rfl rfl HTL.out HTL.out true (by simp) ?_; (try simp only [Act.put, Act.eval, List.setIfInBounds_toArray, List.set_cons_zero, List.set_cons_succ, Array.getD_eq_getD_getElem?, List.getElem?_toArray, List.getElem?_cons_succ, List.getElem?_cons_zero, Option.getD_some]))
    (repeat (first | (refine gSeq_skip rfl (by rfl) ?_; (try simp only [Act.put, Act.eval, List.setIfInBounds_toArray, List.set_cons_zero, List.set_cons_succ, Array.getD_eq_getD_getElem?, List.getElem?_toArray, List.getElem?_cons_succ, List.getElem?_cons_zero, Option.getD_some])) | (refine gSeq_move _ rfl rfl (by rfl) ?_; (try simp only [Act.put, Act.eval, List.setIfInBounds_toArray, List.set_cons_zero, List.set_cons_succ, Array.getD_eq_getD_getElem?, List.getElem?_toArray, List.getElem?_cons_succ, List.getElem?_cons_zero, Option.getD_some])) | (refine gSeq_assign _ rfl rfl (by rfl) ?_; (try simp only [Act.put, Act.eval, List.setIfInBounds_toArray, List.set_cons_zero, List.set_cons_succ, Array.getD_eq_getD_getElem?, List.getElem?_toArray, List.getElem?_cons_succ, List.getElem?_cons_zero, Option.getD_some])) | ((first | (refine gSeq_row rfl (by rfl) 22 _ rfl _ rfl _ _ _ _ RK.out Try.underlying22 rfl (by rw [size_encK, HK.out]; kernel_rfl) ?_; (try simp only [Act.put, Act.eval, List.setIfInBounds_toArray, List.set_cons_zero, List.set_cons_succ, Array.getD_eq_getD_getElem?, List.getElem?_toArray, List.getElem?_cons_succ, List.getElem?_cons_zero, Option.getD_some])))) | (refine gSeq_pure rfl (by rfl) ?_ ?_ ?_; (rotate_left; (intro w'; (skip); go_simp; (first | done | with_reducible rfl)); (try simp only [Act.put, Act.eval, List.setIfInBounds_toArray, List.set_cons_zero, List.set_cons_succ, Array.getD_eq_getD_getElem?, List.getElem?_toArray, List.getElem?_cons_succ, List.getElem?_cons_zero, Option.getD_some]))) | (refine gSeq_still rfl (by rfl) ?_ ?_ ?_; (rotate_left; (intro w' hG; (skip); go_simp; (first | done | with_reducible rfl)); (try simp only [Act.put, Act.eval, List.setIfInBounds_toArray, List.set_cons_zero, List.set_cons_succ, Array.getD_eq_getD_getElem?, List.getElem?_toArray, List.getElem?_cons_succ, List.getElem?_cons_zero, Option.getD_some])))))
    rw [show (if cap = i then ad else Option.map (fun x => x.add i) ad) = subAt ad i cap by rw [subAt, Nat.mul_one]]
    (refine gSeq_row rfl (by rfl) 26 _ rfl _ rfl _ _ _ _ RT.out Try.underlying26 rfl (by rw [size_encK, HTL.out]; kernel_rfl) ?_; (try simp only [Act.put, Act.eval, List.setIfInBounds_toArray, List.set_cons_zero, List.set_cons_succ, Array.getD_eq_getD_getElem?, List.getElem?_toArray, List.getElem?_cons_succ, List.getElem?_cons_zero, Option.getD_some]))
    (refine gSeq_do rfl (by rfl) (fun K hK => ?_)); go_simp
    obtain ⟨s', hs'⟩ : ∃ s', w6.heap.size = s' := ⟨_, rfl⟩
    have HS' := Lib.hid hs'
    clear hs'
    rw [HS'.out]
    have hrw := HR.out.kept HG.out
    obtain ⟨B1, hB1⟩ : ∃ B : Bs, B = ⟨ad, i, cap, xs.take i⟩ := ⟨_, rfl⟩
    obtain ⟨B2, hB2⟩ : ∃ B : Bs, B = ⟨none, 0, 0, []⟩ := ⟨_, rfl⟩
    obtain ⟨B3, hB3⟩ : ∃ B : Bs, B = ⟨subAt ad i cap, len - i, cap - i, xs.drop i⟩ := ⟨_, rfl⟩
    have hv1 : B1.val = .slice ad i cap := by rw [hB1]; rfl
    have hv2 : B2.val = .slice none 0 0 := by rw [hB2]; rfl
    have hv3 : B3.val = .slice (subAt ad i cap) (len - i) (cap - i) := by rw [hB3]; rfl
    have HBX' := Lib.hid (show catB [B1, B2, B3] = xs by
      rw [hB1, hB2, hB3]
      show xs.take i ++ ([] ++ (xs.drop i ++ [])) = xs
      rw [List.nil_append, List.append_nil, List.take_append_drop])
    have HO1 := Lib.hid (show B1.ok w6 by rw [hB1]; exact ⟨rd_take hrw i hil, fun x hx => HOX.out x (List.mem_of_mem_take hx), HN.out, (show i ≤ 3000 by omega)⟩)
    have HO2 := Lib.hid (show B2.ok w6 by rw [hB2]; exact ⟨⟨rfl, fun j hj => absurd hj (Nat.not_lt_zero _)⟩, (fun x hx => by cases hx), (fun _ => rfl), (show 0 ≤ 3000 by omega)⟩)
    have HO3 := Lib.hid (show B3.ok w6 by rw [hB3]; exact ⟨rd_drop' hrw i hil HLC.out, (fun x hx => HOX.out x (List.mem_of_mem_drop hx)), subAt_none HN.out i, (show len - i ≤ 3000 by omega)⟩)
    rw [← hv1, ← hv2, ← hv3]
    have r7 := alloc_at w6 (.cells #[B1.val, B2.val, B3.val] 23 (0, 0)) HS'.out.symm
    have g7 := World.grownBy_alloc w6 (.cells #[B1.val, B2.val, B3.val] 23 (0, 0)) none
    refine hK _ _ g7 ?_; clear hK K; (try simp only [Act.put, Act.eval, List.setIfInBounds_toArray, List.set_cons_zero, List.set_cons_succ, Array.getD_eq_getD_getElem?, List.getElem?_toArray, List.getElem?_cons_succ, List.getElem?_cons_zero, Option.getD_some])
    obtain ⟨w7, hw7⟩ : ∃ w7, w7 = w6.alloc (.cells #[B1.val, B2.val, B3.val] 23 (0, 0)) := ⟨_, rfl⟩
    rw [← hw7] at r7 g7 ⊢
    have RC := Lib.hid r7
    have HO1' := Lib.hid (Bs.ok_keep HO1.out g7)
    have HO2' := Lib.hid (Bs.ok_keep HO2.out g7)
    have HO3' := Lib.hid (Bs.ok_keep HO3.out g7)
    have HG' := Lib.hid (grown_trans HG.out g7)
    clear r7 g7 hw7 RK RT HG HO1 HO2 HO3 hB1 hB2 hB3 hv1 hv2 hv3 hrw
    (refine gSeq_do rfl (by rfl) (fun K hK => ?_)); go_simp
    refine (sum_any key (some ⟨s', 0, none⟩) 3 3 [B1, B2, B3] _ HK.out HKO.out rfl (fun j c hc => by
      match j, hc with
      | 0, hc => exact ⟨_, rfl, row_cell RC.out 0 _ (by rw [← (show B1 = c from by simpa using hc)]; rfl)⟩
      | 1, hc => exact ⟨_, rfl, row_cell RC.out 1 _ (by rw [← (show B2 = c from by simpa using hc)]; rfl)⟩
      | 2, hc => exact ⟨_, rfl, row_cell RC.out 2 _ (by rw [← (show B3 = c from by simpa using hc)]; rfl)⟩
      | n + 3, hc => simp at hc) (fun c hc => by
      simp only [List.mem_cons, List.not_mem_nil, or_false] at hc
      rcases hc with rfl | rfl | rfl
      · exact HO1'.out
      · exact HO2'.out
      · exact HO3'.out) (by decide)).mono ?_
    rintro e w8 ⟨rfl, hg8⟩
    rw [HBX'.out, ← HT.out]
    refine hK _ _ hg8 ?_; clear hK K; (try simp only [Act.put, Act.eval, List.setIfInBounds_toArray, List.set_cons_zero, List.set_cons_succ, Array.getD_eq_getD_getElem?, List.getElem?_toArray, List.getElem?_cons_succ, List.getElem?_cons_zero, Option.getD_some])
    have HG := Lib.hid (grown_trans HG'.out hg8)
    clear hg8 HG' RC HO1' HO2' HO3'
    (refine gSeq_eql rfl (by rfl) 26 _ _ _ rfl _ _ _ Try.underlying26 Try.underlying5 (by kernel_rfl) (by kernel_rfl) T T rfl rfl HTL.out HTL.out true (by simp) ?_; (try simp only [Act.put, Act.eval, List.setIfInBounds_toArray, List.set_cons_zero, List.set_cons_succ, Array.getD_eq_getD_getElem?, List.getElem?_toArray, List.getElem?_cons_succ, List.getElem?_cons_zero, Option.getD_some]))
    (repeat (first | (refine gSeq_skip rfl (by rfl) ?_; (try simp only [Act.put, Act.eval, List.setIfInBounds_toArray, List.set_cons_zero, List.set_cons_succ, Array.getD_eq_getD_getElem?, List.getElem?_toArray, List.getElem?_cons_succ, List.getElem?_cons_zero, Option.getD_some])) | (refine gSeq_move _ rfl rfl (by rfl) ?_; (try simp only [Act.put, Act.eval, List.setIfInBounds_toArray, List.set_cons_zero, List.set_cons_succ, Array.getD_eq_getD_getElem?, List.getElem?_toArray, List.getElem?_cons_succ, List.getElem?_cons_zero, Option.getD_some])) | (refine gSeq_assign _ rfl rfl (by rfl) ?_; (try simp only [Act.put, Act.eval, List.setIfInBounds_toArray, List.set_cons_zero, List.set_cons_succ, Array.getD_eq_getD_getElem?, List.getElem?_toArray, List.getElem?_cons_succ, List.getElem?_cons_zero, Option.getD_some])) | (fail) | (refine gSeq_pure rfl (by rfl) ?_ ?_ ?_; (rotate_left; (intro w'; (skip); go_simp; (first | done | with_reducible rfl)); (try simp only [Act.put, Act.eval, List.setIfInBounds_toArray, List.set_cons_zero, List.set_cons_succ, Array.getD_eq_getD_getElem?, List.getElem?_toArray, List.getElem?_cons_succ, List.getElem?_cons_zero, Option.getD_some]))) | (refine gSeq_still rfl (by rfl) ?_ ?_ ?_; (rotate_left; (intro w' hG; (skip); go_simp; (first | done | with_reducible rfl)); (try simp only [Act.put, Act.eval, List.setIfInBounds_toArray, List.set_cons_zero, List.set_cons_succ, Array.getD_eq_getD_getElem?, List.getElem?_toArray, List.getElem?_cons_succ, List.getElem?_cons_zero, Option.getD_some])))))
    refine gSeq_nil ?_
    go_wp2_with fail
    exact bodyPost_ret (results_tmp rfl _ _ _) rfl ⟨rfl, HG.out⟩
theorem sum_one (key : List Int) (s : Nat) (B : Bs) (xs : List Int) (w : World) (hk : key.length = 32) (hko : okB 256 key) (hc : w.heap[s]? = some (.cells #[B.val] 23 (0, 0))) (hx : B.xs = xs) (hb : B.ok w) :
    Calls Try.prog 8 #[.agg (encK .u8 key), .slice (some ⟨s, 0, none⟩) 1 1] w fun e w' => e = .returned (.agg (encK .u8 (digB 256 16 (tagV key xs)))) ∧ w.grownBy w' none := by
  refine (sum_any key (some ⟨s, 0, none⟩) 1 1 [B] _ hk hko rfl (fun j c hj => by
    have h0 : j = 0 := by
      have := (List.getElem?_eq_some_iff.1 hj).1
      simpa using this
    subst h0
    have : B = c := by simpa using hj
    subst this
    exact ⟨_, rfl, row_cell hc 0 _ rfl⟩) (fun c hj => by
    have : c = B := by simpa using hj
    subst this
    exact hb) (by decide)).mono ?_
  rintro e w6 ⟨rfl, hg6⟩
  rw [show catB [B] = xs by rw [catB, hx]; exact List.append_nil _]
  exact ⟨rfl, hg6⟩
end Go.Proofs.Ytcfhpbnkebodiaa
