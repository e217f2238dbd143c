/- poly: the sum of any bytes, in parts, walked. -/
import Derived.Test.YthhijeokeljcjaaPolF
namespace Go.Proofs.Ythhijeokeljcjaa
set_option linter.unusedVariables false
set_option linter.unusedSimpArgs false
open Go.RowKit Go.Proofs.YthhijeokeljcjaaL

def zerP (n : Nat) : List Int := List.replicate n 0
theorem length_zerP (n : Nat) : (zerP n).length = n := List.length_replicate ..
theorem set_one' (xs : List Int) (n m : Nat) (y : Int) (h : xs.length = n) (hm : n < m) : (xs ++ zerP (m - n)).set n y = xs ++ [y] ++ zerP (m - (n + 1)) := set_one xs n m y h hm
theorem ok_block {xs : List Int} (h : okB 256 xs) (n : Nat) : okB 256 (xs ++ [1] ++ List.replicate n 0) := fun x hx => by
  rcases List.mem_append.1 hx with hx | hx
  · rcases List.mem_append.1 hx with hx | hx
    · exact h x hx
    · have : x = 1 := by simpa using hx
      omega
  · have : x = 0 := List.eq_of_mem_replicate hx
    omega
theorem block_range {xs : List Int} (h : okB 256 xs) (hl : xs.length ≤ 16) : 0 ≤ numB 256 (xs ++ [1]) ∧ numB 256 (xs ++ [1]) < 680564733841876926926749214863536422912 := by
  have h1 := numB_range (B := 256) (by decide) xs h
  have h2 : (256 : Int) ^ xs.length ≤ 256 ^ 16 := ipow_le (by decide) hl
  have h3 : (256 : Int) ^ 16 = 340282366920938463463374607431768211456 := by decide
  rw [numB_append]
  simp only [numB, Int.mul_zero, Int.add_zero, Int.mul_one]
  omega
theorem rd_other {k : IntKind} {w w' w6 : World} {ad : Option Addr} {n b : Nat} {xs : List Int} (h : Rd k w ad n xs) (h6 : Rd k w6 ad n xs) (g : w6.grownBy w' (some b)) (hb : w.heap.size = b) : Rd k w' ad n xs :=
  ⟨h.1, fun i hi => by
    obtain ⟨x, hx, hc⟩ := h6.2 i hi
    obtain ⟨x', hx', hc'⟩ := h.2 i hi
    have : x' = x := Option.some.inj (hx'.symm.trans hx)
    subst this
    have hlt := World.block_lt_of_cell? w _ hc'
    exact ⟨x', hx, g.cell hc (by intro e; injection e; omega)⟩⟩
set_option maxHeartbeats 4000000 in
set_option maxRecDepth 100000 in
theorem sum_any (key : List Int) (ad : Option Addr) (len cap : Nat) (L : List Bs) (w : World) (hk : key.length = 32) (hko : okB 256 key) (hl : L.length = len) (hcell : ∀ i b, L[i]? = some b → ∃ x, ad = some x ∧ w.cell? (x.add i) = some b.val) (hok : ∀ b ∈ L, b.ok w) (hlen : len ≤ 10) :
    Calls Try.prog 21 #[.agg (encK .u8 key), .slice ad len cap] w fun e w' => e = .returned (.agg (encK .u8 (digB 256 16 (tagV key (catB L))))) ∧ w.grownBy w' none := by
  have HK := Lib.hid hk
  have HKO := Lib.hid hko
  have HL := Lib.hid hl
  have HC := Lib.hid hcell
  have HOK := Lib.hid hok
  have HKR := Lib.hid (keyR_range hko)
  clear hk hko hl hcell hok
  go_enter Try.func21, Try.ntmps21
  obtain ⟨p, hp⟩ : ∃ p, w.heap.size = p := ⟨_, rfl⟩
  have HP := Lib.hid hp
  clear hp
  go_wp2_with fail
  rw [HP.out]
  refine wp_region_float [(7, 5, .cells (encK .u64 (List.replicate 2 0)) T2 (0, 0))] (floats_1 (float_of rfl rfl rfl (fun ρ w => by go_simp; exact ⟨rfl, rfl⟩))) [(2, 0), (2, 3), (5, 1), (2, 2), (5, 4), (2, 5), (2, 6), (4, 7), (3, 8)] (by kernel_rfl) (by kernel_rfl) (fun _ _ _ _ _ h => h) (fun _ _ _ _ _ h => h) ?_
  refine gSeq_name fun w1 hw1 => ?_
  have hw1' : w1 = ((w.alloc (.cells (encK .u8 key) A32 (0, 0))).alloc (.cells (encK .u8 (List.replicate 16 0)) A16 (0, 0))).drew := hw1
  have r0 : w1.heap[w.heap.size]? = some (.cells (encK .u8 key) A32 (0, 0)) := by rw [hw1']; exact two_0 w _ _
  have r1 : w1.heap[w.heap.size + 1]? = some (.cells (encK .u8 (List.replicate 16 0)) A16 (0, 0)) := by rw [hw1']; exact two_1 w _ _
  have HG : Hid (w.grownBy w1 none) := by rw [hw1']; exact grown_trans (two_g w _ _) (grown_drew _ _)
  rw [HP.out] at r0 r1
  have R0 := Lib.hid r0
  have R1 := Lib.hid r1
  clear hw1 hw1' r0 r1
  (repeat (first | (refine gSeq_skip rfl (by rfl) ?_; (try simp only [Act.put, Act.eval, List.setIfInBounds_toArray, List.set_cons_zero, List.set_cons_succ, Array.getD_eq_getD_getElem?, List.getElem?_toArray, List.getElem?_cons_succ, List.getElem?_cons_zero, Option.getD_some])) | (refine gSeq_move _ rfl rfl (by rfl) ?_; (try simp only [Act.put, Act.eval, List.setIfInBounds_toArray, List.set_cons_zero, List.set_cons_succ, Array.getD_eq_getD_getElem?, List.getElem?_toArray, List.getElem?_cons_succ, List.getElem?_cons_zero, Option.getD_some])) | (refine gSeq_assign _ rfl rfl (by rfl) ?_; (try simp only [Act.put, Act.eval, List.setIfInBounds_toArray, List.set_cons_zero, List.set_cons_succ, Array.getD_eq_getD_getElem?, List.getElem?_toArray, List.getElem?_cons_succ, List.getElem?_cons_zero, Option.getD_some])) | ((first | (refine gSeq_slice rfl (by rfl) _ _ _ _ rfl _ rfl _ _ rfl rfl _ (sliceAt_all _ 32 5 Try.underlying22 rfl p 0) ?_; (try simp only [Act.put, Act.eval, List.setIfInBounds_toArray, List.set_cons_zero, List.set_cons_succ, Array.getD_eq_getD_getElem?, List.getElem?_toArray, List.getElem?_cons_succ, List.getElem?_cons_zero, Option.getD_some])) | (refine gSeq_slice rfl (by rfl) _ _ _ _ rfl _ rfl _ _ rfl rfl _ (sliceAt_from _ 32 5 Try.underlying22 rfl p 0 8 _ rfl (by decide)) ?_; (try simp only [Act.put, Act.eval, List.setIfInBounds_toArray, List.set_cons_zero, List.set_cons_succ, Array.getD_eq_getD_getElem?, List.getElem?_toArray, List.getElem?_cons_succ, List.getElem?_cons_zero, Option.getD_some])))) | (refine gSeq_pure rfl (by rfl) ?_ ?_ ?_; (rotate_left; (intro w'; (skip); go_simp; (first | done | with_reducible rfl)); (try simp only [Act.put, Act.eval, List.setIfInBounds_toArray, List.set_cons_zero, List.set_cons_succ, Array.getD_eq_getD_getElem?, List.getElem?_toArray, List.getElem?_cons_succ, List.getElem?_cons_zero, Option.getD_some]))) | (refine gSeq_still rfl (by rfl) ?_ ?_ ?_; (rotate_left; (intro w' hG; (skip); go_simp; (first | done | with_reducible rfl)); (try simp only [Act.put, Act.eval, List.setIfInBounds_toArray, List.set_cons_zero, List.set_cons_succ, Array.getD_eq_getD_getElem?, List.getElem?_toArray, List.getElem?_cons_succ, List.getElem?_cons_zero, Option.getD_some])))))
  refine gSeq_do5 rfl (by rfl) (fun w2 hg2 K hK => ?_)
  go_simp
  refine (half_any _ 32 32 key _ (HK.out ▸ rd_row (row_keep R0.out hg2)) HKO.out (by decide)).mono ?_
  rintro e w2' ⟨rfl, hw2'⟩
  refine hK _ _ (by rw [hw2']; exact grown_refl _ _) ?_; clear hK K; (try simp only [Act.put, Act.eval, List.setIfInBounds_toArray, List.set_cons_zero, List.set_cons_succ, Array.getD_eq_getD_getElem?, List.getElem?_toArray, List.getElem?_cons_succ, List.getElem?_cons_zero, Option.getD_some])
  subst hw2'
  have R0' := Lib.hid (row_keep R0.out hg2)
  have R1' := Lib.hid (row_keep R1.out hg2)
  have HG2 := Lib.hid (grown_trans HG.out hg2)
  clear hg2 R0 R1 HG
  (repeat (first | (refine gSeq_skip rfl (by rfl) ?_; (try simp only [Act.put, Act.eval, List.setIfInBounds_toArray, List.set_cons_zero, List.set_cons_succ, Array.getD_eq_getD_getElem?, List.getElem?_toArray, List.getElem?_cons_succ, List.getElem?_cons_zero, Option.getD_some])) | (refine gSeq_move _ rfl rfl (by rfl) ?_; (try simp only [Act.put, Act.eval, List.setIfInBounds_toArray, List.set_cons_zero, List.set_cons_succ, Array.getD_eq_getD_getElem?, List.getElem?_toArray, List.getElem?_cons_succ, List.getElem?_cons_zero, Option.getD_some])) | (refine gSeq_assign _ rfl rfl (by rfl) ?_; (try simp only [Act.put, Act.eval, List.setIfInBounds_toArray, List.set_cons_zero, List.set_cons_succ, Array.getD_eq_getD_getElem?, List.getElem?_toArray, List.getElem?_cons_succ, List.getElem?_cons_zero, Option.getD_some])) | (fail) | (refine gSeq_pure rfl (by rfl) ?_ ?_ ?_; (rotate_left; (intro w'; (skip); go_simp; (first | done | with_reducible rfl)); (try simp only [Act.put, Act.eval, List.setIfInBounds_toArray, List.set_cons_zero, List.set_cons_succ, Array.getD_eq_getD_getElem?, List.getElem?_toArray, List.getElem?_cons_succ, List.getElem?_cons_zero, Option.getD_some]))) | (refine gSeq_still rfl (by rfl) ?_ ?_ ?_; (rotate_left; (intro w' hG; (skip); go_simp; (first | done | with_reducible rfl)); (try simp only [Act.put, Act.eval, List.setIfInBounds_toArray, List.set_cons_zero, List.set_cons_succ, Array.getD_eq_getD_getElem?, List.getElem?_toArray, List.getElem?_cons_succ, List.getElem?_cons_zero, Option.getD_some])))))
  refine gSeq_do5 rfl (by rfl) (fun w3 hg3 K hK => ?_)
  go_simp
  have R0 := Lib.hid (row_keep R0'.out hg3)
  have hrd : Rd .u8 w3 (some ⟨p, 8, none⟩) 24 (key.drop 8) := rd_row_from (m := 24) R0.out 8 (by rw [HK.out]; decide) (by rw [HK.out])
  refine (half_any _ 24 24 (key.drop 8) _ hrd (ok_drop HKO.out 8) (by decide)).mono ?_
  rintro e w3' ⟨rfl, hw3'⟩
  refine hK _ _ (by rw [hw3']; exact grown_refl _ _) ?_; clear hK K; (try simp only [Act.put, Act.eval, List.setIfInBounds_toArray, List.set_cons_zero, List.set_cons_succ, Array.getD_eq_getD_getElem?, List.getElem?_toArray, List.getElem?_cons_succ, List.getElem?_cons_zero, Option.getD_some])
  subst hw3'
  have R1 := Lib.hid (row_keep R1'.out hg3)
  have HG3 := Lib.hid (grown_trans HG2.out hg3)
  clear hg3 R0' R1' HG2 hrd
  (repeat (first | (refine gSeq_skip rfl (by rfl) ?_; (try simp only [Act.put, Act.eval, List.setIfInBounds_toArray, List.set_cons_zero, List.set_cons_succ, Array.getD_eq_getD_getElem?, List.getElem?_toArray, List.getElem?_cons_succ, List.getElem?_cons_zero, Option.getD_some])) | (refine gSeq_move _ rfl rfl (by rfl) ?_; (try simp only [Act.put, Act.eval, List.setIfInBounds_toArray, List.set_cons_zero, List.set_cons_succ, Array.getD_eq_getD_getElem?, List.getElem?_toArray, List.getElem?_cons_succ, List.getElem?_cons_zero, Option.getD_some])) | (refine gSeq_assign _ rfl rfl (by rfl) ?_; (try simp only [Act.put, Act.eval, List.setIfInBounds_toArray, List.set_cons_zero, List.set_cons_succ, Array.getD_eq_getD_getElem?, List.getElem?_toArray, List.getElem?_cons_succ, List.getElem?_cons_zero, Option.getD_some])) | (fail) | (refine gSeq_pure rfl (by rfl) ?_ ?_ ?_; (rotate_left; (intro w'; (skip); go_simp; (first | done | with_reducible rfl)); (try simp only [Act.put, Act.eval, List.setIfInBounds_toArray, List.set_cons_zero, List.set_cons_succ, Array.getD_eq_getD_getElem?, List.getElem?_toArray, List.getElem?_cons_succ, List.getElem?_cons_zero, Option.getD_some]))) | (refine gSeq_still rfl (by rfl) ?_ ?_ ?_; (rotate_left; (intro w' hG; (skip); go_simp; (first | done | with_reducible rfl)); (try simp only [Act.put, Act.eval, List.setIfInBounds_toArray, List.set_cons_zero, List.set_cons_succ, Array.getD_eq_getD_getElem?, List.getElem?_toArray, List.getElem?_cons_succ, List.getElem?_cons_zero, Option.getD_some])))))
  (refine gSeq_float rfl _ rfl (fun w2 b2 hg2 hn2 hb2 => ?_)); (try simp only [ptrTo]); (try simp only [Act.put, Act.eval, List.setIfInBounds_toArray, List.set_cons_zero, List.set_cons_succ, Array.getD_eq_getD_getElem?, List.getElem?_toArray, List.getElem?_cons_succ, List.getElem?_cons_zero, Option.getD_some])
  have HN := Lib.hid (show p + 1 + 1 ≤ b2 by have := HP.out; rw [alloc_size, alloc_size] at hn2; omega)
  have R0' := Lib.hid (row_keep R0.out hg2)
  have R1' := Lib.hid (row_keep R1.out hg2)
  have HG2 := Lib.hid (grown_trans HG3.out hg2)
  have HB2 := Lib.hid hb2
  clear hg2 hn2 hb2 R0 R1 HG3
  (refine gSeq_store_range rfl (by rfl) _ _ _ rfl b2 0 (encK .u64 [rA key, rB key]) rfl rfl _ _ HB2.out (Nat.le_refl 2) (show _ = some 2 by kernel_rfl) (one_encK _ _) ?_)
  intro w4 r4 g4
  rw [putAt_all _ _ (by rfl)] at r4
  have RR : Hid (w4.heap[b2]? = some (.cells (encK .u64 [rA key, rB key]) T2 (0, 0))) := r4
  have R0 := Lib.hid ((g4.block _ (row_lt R0'.out) (by intro e; injection e with e; have := HN.out; omega)).trans R0'.out)
  have R1 := Lib.hid ((g4.block _ (row_lt R1'.out) (by intro e; injection e with e; have := HN.out; omega)).trans R1'.out)
  have HG4 := Lib.hid (grown_row HG2.out g4 (fun j hj => by injection hj with hj; have := HP.out; have := HN.out; omega))
  clear r4 g4 R0' R1' HG2 HB2
  (try simp only [Act.put, Act.eval, List.setIfInBounds_toArray, List.set_cons_zero, List.set_cons_succ, Array.getD_eq_getD_getElem?, List.getElem?_toArray, List.getElem?_cons_succ, List.getElem?_cons_zero, Option.getD_some])
  refine gSeq_nil ?_
  obtain ⟨q, hq⟩ : ∃ q, w4.heap.size = q := ⟨_, rfl⟩
  have HQ := Lib.hid hq
  have HBQ := Lib.hid (show b2 < q by rw [← hq]; exact row_lt RR.out)
  clear hq
  go_wp2_with fail
  rw [HQ.out]
  have ga := World.grownBy_alloc w4 (.cells (encK .u64 (List.replicate 3 0)) T3 (0, 0)) none
  have hgw := grown_trans HG4.out ga
  refine (concat_any ad len cap L _ HL.out (fun i b hb => let ⟨x, h1, h2⟩ := HC.out i b hb; ⟨x, h1, hgw.cell h2 (by simp)⟩) (fun b hb => Bs.ok_keep (HOK.out b hb) hgw) (by omega)).mono ?_
  rintro e w5 ⟨v, rfl, how, hg5⟩
  obtain ⟨bs, hbs⟩ : ∃ bs, bs = catB L := ⟨_, rfl⟩
  have hbo : okB 256 bs := by rw [hbs]; exact catB_ok fun b hb => (HOK.out b hb).2.1
  have hbl : bs.length = lenB L := by rw [hbs]; exact length_catB L HOK.out
  have hble : bs.length ≤ 30000 := by have := lenB_le L HOK.out; have := HL.out; omega
  rw [← hbs] at how
  have HBS := Lib.hid hbs
  obtain ⟨sa, sc, hv, hrd, hnc, hcm, hsb⟩ := own_rd how
  subst hv
  rw [← hbl] at hrd hnc ⊢
  have HRD := Lib.hid hrd
  have HBO := Lib.hid hbo
  have HCM := Lib.hid hcm
  have HSB := Lib.hid (show ∀ x, sa = some x → q < x.block from fun x hx => by have := hsb x hx; rw [alloc_size] at this; have := HQ.out; omega)
  have hbo := 0
  have RH := Lib.hid ((hg5.block _ (by rw [alloc_size]; have := HQ.out; omega) (by simp)).trans (alloc_at (w := w4) (.cells (encK .u64 (List.replicate 3 0)) T3 (0, 0)) HQ.out.symm))
  have R0' := Lib.hid (row_keep R0.out (grown_trans ga hg5))
  have R1' := Lib.hid (row_keep R1.out (grown_trans ga hg5))
  have RR' := Lib.hid (row_keep RR.out (grown_trans ga hg5))
  have HG5 := Lib.hid (grown_trans hgw hg5)
  clear hsb how hrd hg5 hgw ga R0 R1 RR HG4 hbs hbl hbo hcm
  go_wp2_with fail
  go_loopw [7] (fun v wr => ∃ (k : Nat) (ad' : Option Addr) (len' cap' : Nat) (H : Int), v = .slice ad' len' cap' ∧ 16 * k ≤ bs.length + 15 ∧ len' = bs.length - 16 * k ∧ len' ≤ cap' ∧ cap' ≤ maxLen ∧ Hid (Rd .u8 wr ad' len' (bs.drop (16 * k))) ∧ Hid (∀ x, ad' = some x → q < x.block) ∧
    Hid (0 ≤ H ∧ H < 1786482426334926933182716689016783110144 ∧ H % PP = polyV (keyR key) bs k) ∧ wr.heap[p]? = some (.cells (encK .u8 key) A32 (0, 0)) ∧ wr.heap[p + 1]? = some (.cells (encK .u8 (List.replicate 16 0)) A16 (0, 0)) ∧
    wr.heap[b2]? = some (.cells (encK .u64 [rA key, rB key]) T2 (0, 0)) ∧ wr.heap[q]? = some (.cells (encK .u64 (digB B64 3 H)) T3 (0, 0)) ∧ w.grownBy wr none) (fun v _ => match v with | .slice _ n _ => n | _ => 0)
  case atStart =>
    exact ⟨0, sa, bs.length, sc, 0, rfl, by omega, by omega, hnc, HCM.out, HRD, HSB, ⟨by decide, by decide, rfl⟩, R0'.out, R1'.out, RR'.out, RH.out, HG5.out⟩
  case round =>
    obtain ⟨k, ad', len', cap', H, rfl, hk, hlen', hlc, hcm, HR, HQO, HH, r0, r1, r2, r3, hg⟩ := hrel
    have HCM2 := Lib.hid hcm
    have HLEN := Lib.hid hlen'
    have R0 := Lib.hid r0
    have R1 := Lib.hid r1
    have RR := Lib.hid r2
    have RH := Lib.hid r3
    have HG := Lib.hid hg
    clear r0 r1 r2 r3 hg hcm hlen' R0' R1' RR' HG5 HRD HCM HSB
    by_cases hpos : 0 < len'
    · have hpos' : (len' : Int) > 0 := by omega
      by_cases h16 : 16 < len'
      · have h16' : 16 < (len' : Int) := by omega
        obtain ⟨s, hs⟩ : ∃ s, wr.heap.size = s := ⟨_, rfl⟩
        have HS := Lib.hid hs
        have HQS := Lib.hid (show q < s by rw [← hs]; exact row_lt RH.out)
        clear hs
        obtain ⟨xs, hxs⟩ : ∃ xs, xs = (bs.drop (16 * k)).take 16 := ⟨_, rfl⟩
        have hxl : xs.length = 16 := by rw [hxs, List.length_take, HR.out.1]; omega
        have hx16 : xs = (bs.drop (16 * k)).take 16 := by rw [hxs]
        have hxo : okB 256 xs := by rw [hxs]; exact fun x hx => HBO.out x (List.mem_of_mem_drop (List.mem_of_mem_take hx))
        have hdrop : (bs.drop (16 * k)).drop 16 = bs.drop (16 * (k + 1)) := by
          rw [List.drop_drop]; try rfl
        have HXL := Lib.hid hxl
        have HX16 := Lib.hid hx16
        have HXO := Lib.hid hxo
        have HDR := Lib.hid hdrop
        have HXS := Lib.hid hxs
        clear hxs hxl hx16 hxo hdrop
        go_wp2_with fail
        rw [HS.out]
        refine wp_region_grow [(2, 0), (2, 1), (2, 2), (2, 3), (3, 4)] (by kernel_rfl) (by kernel_rfl) (fun _ _ _ _ _ h => h) (fun _ _ _ _ _ h => h) ?_
        refine gSeq_name fun w6 hw6 => ?_
        have g6 : wr.grownBy w6 none := by rw [hw6]; exact grown_trans (World.grownBy_alloc wr _ none) (grown_drew _ _)
        have RB : Hid (w6.heap[s]? = some (.cells (encK .u8 (List.replicate 24 0)) A24 (0, 0))) := by rw [hw6]; exact alloc_at (w := wr) (.cells (encK .u8 (List.replicate 24 0)) A24 (0, 0)) HS.out.symm
        have HR6 := Lib.hid (HR.out.kept g6)
        have R0' := Lib.hid (row_keep R0.out g6)
        have R1' := Lib.hid (row_keep R1.out g6)
        have RR' := Lib.hid (row_keep RR.out g6)
        have RH' := Lib.hid (row_keep RH.out g6)
        have HG6 := Lib.hid (grown_trans HG.out g6)
        clear hw6 g6 R0 R1 RR RH HG
        (repeat (first | (refine gSeq_skip rfl (by rfl) ?_; (try simp only [Act.put, Act.eval, List.setIfInBounds_toArray, List.set_cons_zero, List.set_cons_succ, Array.getD_eq_getD_getElem?, List.getElem?_toArray, List.getElem?_cons_succ, List.getElem?_cons_zero, Option.getD_some])) | (refine gSeq_move _ rfl rfl (by rfl) ?_; (try simp only [Act.put, Act.eval, List.setIfInBounds_toArray, List.set_cons_zero, List.set_cons_succ, Array.getD_eq_getD_getElem?, List.getElem?_toArray, List.getElem?_cons_succ, List.getElem?_cons_zero, Option.getD_some])) | (refine gSeq_assign _ rfl rfl (by rfl) ?_; (try simp only [Act.put, Act.eval, List.setIfInBounds_toArray, List.set_cons_zero, List.set_cons_succ, Array.getD_eq_getD_getElem?, List.getElem?_toArray, List.getElem?_cons_succ, List.getElem?_cons_zero, Option.getD_some])) | ((first | (refine gSeq_slice rfl (by rfl) _ _ _ _ rfl _ rfl _ _ rfl rfl _ (sliceAt_all _ 24 5 Try.underlying62 rfl s 0) ?_; (try simp only [Act.put, Act.eval, List.setIfInBounds_toArray, List.set_cons_zero, List.set_cons_succ, Array.getD_eq_getD_getElem?, List.getElem?_toArray, List.getElem?_cons_succ, List.getElem?_cons_zero, Option.getD_some])) | (refine gSeq_slice rfl (by rfl) _ _ _ _ rfl _ rfl _ _ rfl rfl _ (run_sub_h Try.underlying24 rfl 16 16 (by decide) (by omega)) ?_; (try simp only [Act.put, Act.eval, List.setIfInBounds_toArray, List.set_cons_zero, List.set_cons_succ, Array.getD_eq_getD_getElem?, List.getElem?_toArray, List.getElem?_cons_succ, List.getElem?_cons_zero, Option.getD_some])))) | (refine gSeq_pure rfl (by rfl) ?_ ?_ ?_; (rotate_left; (intro w'; (skip); go_simp; (first | done | with_reducible rfl)); (try simp only [Act.put, Act.eval, List.setIfInBounds_toArray, List.set_cons_zero, List.set_cons_succ, Array.getD_eq_getD_getElem?, List.getElem?_toArray, List.getElem?_cons_succ, List.getElem?_cons_zero, Option.getD_some]))) | (refine gSeq_still rfl (by rfl) ?_ ?_ ?_; (rotate_left; (intro w' hG; (skip); go_simp; (first | done | with_reducible rfl)); (try simp only [Act.put, Act.eval, List.setIfInBounds_toArray, List.set_cons_zero, List.set_cons_succ, Array.getD_eq_getD_getElem?, List.getElem?_toArray, List.getElem?_cons_succ, List.getElem?_cons_zero, Option.getD_some])))))
        refine gSeq_copy (k := .u8) (op := _) rfl ?c0 (.tmp 32) (.tmp 35) _ _ rfl 5 s 0 24 24 (subAt ad' 0 cap') 16 cap' (List.replicate 24 0) A24 xs Try.underlying24 rfl ?c1 ?c2 ?c3 RB.out 16 ?c4 ?c5 ?_
        case c0 => rfl
        case c1 => rfl
        case c2 => rfl
        case c3 => rw [HXS.out]; exact rd_sub0 HR6.out 16 (by omega) hlc
        case c4 => omega
        case c5 => rw [List.length_replicate]; omega
        intro w7 r7 g7
        have r7' : w7.heap[s]? = some (.cells (encK .u8 (xs ++ zerP (24 - 16))) A24 (0, 0)) := by
          unfold zerP
          rw [r7, List.take_zero, List.nil_append, List.take_of_length_le (by rw [HXL.out]; omega), Nat.zero_add, List.drop_replicate]
        have RB' := Lib.hid r7'
        have R0 := Lib.hid ((g7.block _ (row_lt R0'.out) (by intro e; injection e with e; have := HQS.out; have := HBQ.out; have := HN.out; omega)).trans R0'.out)
        have R1 := Lib.hid ((g7.block _ (row_lt R1'.out) (by intro e; injection e with e; have := HQS.out; have := HBQ.out; have := HN.out; omega)).trans R1'.out)
        have RR := Lib.hid ((g7.block _ (row_lt RR'.out) (by intro e; injection e with e; have := HQS.out; have := HBQ.out; omega)).trans RR'.out)
        have RH := Lib.hid ((g7.block _ (row_lt RH'.out) (by intro e; injection e with e; have := HQS.out; omega)).trans RH'.out)
        have HR7 := Lib.hid (rd_other HR.out HR6.out g7 HS.out)
        have HG7 := Lib.hid (grown_row HG6.out g7 (fun j hj => by injection hj with hj; have := HP.out; have := HN.out; have := HBQ.out; have := HQS.out; omega))
        clear r7 r7' g7 RB R0' R1' RR' RH' HG6 HR6
        (try simp only [Act.put, Act.eval, List.setIfInBounds_toArray, List.set_cons_zero, List.set_cons_succ, Array.getD_eq_getD_getElem?, List.getElem?_toArray, List.getElem?_cons_succ, List.getElem?_cons_zero, Option.getD_some])
        refine gSeq_nil ?_
        have hnn0 : (0 : Int) ≤ ((16 : Nat) : Int) := by omega
        have hnn24 : ((16 : Nat) : Int) < 24 := by omega
        go_wp2_with (refine wpList_store_cell rfl _ (.tmp 38) (.const (.int .u8 1)) rfl s (16) _ rfl rfl _ _ RB'.out (by rw [size_encK, List.length_append, HXL.out, length_zerP]; omega) (by kernel_rfl) rfl rfl ?_)
        intro w8 r8 g8
        have r8' := rowK_set r8
        rw [set_one' xs (16) 24 1 HXL.out (by omega)] at r8'
        obtain ⟨S, hS⟩ : ∃ S, S = xs ++ [1] ++ zerP (24 - (16 + 1)) := ⟨_, rfl⟩
        rw [← hS] at r8'
        have HSL := Lib.hid (show S.length = 24 by rw [hS, List.length_append, List.length_append, HXL.out, length_zerP, List.length_singleton]; try omega)
        have HSO := Lib.hid (show okB 256 S by rw [hS, zerP]; exact ok_block HXO.out _)
        have HSN := Lib.hid (show numB 256 S = numB 256 ((bs.drop (16 * k)).take 16 ++ [1]) by rw [hS, zerP, num_zeros, HX16.out])
        have HSR := Lib.hid (show 0 ≤ numB 256 S ∧ numB 256 S < 680564733841876926926749214863536422912 by rw [hS, zerP, num_zeros]; exact block_range HXO.out (by rw [HXL.out]; omega))
        have RB := Lib.hid r8'
        have R0' := Lib.hid ((g8.block _ (row_lt R0.out) (by intro e; injection e with e; have := HQS.out; have := HBQ.out; have := HN.out; omega)).trans R0.out)
        have R1' := Lib.hid ((g8.block _ (row_lt R1.out) (by intro e; injection e with e; have := HQS.out; have := HBQ.out; have := HN.out; omega)).trans R1.out)
        have RR' := Lib.hid ((g8.block _ (row_lt RR.out) (by intro e; injection e with e; have := HQS.out; have := HBQ.out; omega)).trans RR.out)
        have RH' := Lib.hid ((g8.block _ (row_lt RH.out) (by intro e; injection e with e; have := HQS.out; omega)).trans RH.out)
        have HR8 := Lib.hid (rd_other HR.out HR7.out g8 HS.out)
        have HG8 := Lib.hid (grown_row HG7.out g8 (fun j hj => by injection hj with hj; have := HP.out; have := HN.out; have := HBQ.out; have := HQS.out; omega))
        clear r8 r8' g8 hS RB' R0 R1 RR RH HG7 HR7
        go_wp2_with fail
        refine wp_region_grow [(1, 0), (2, 1), (2, 3), (2, 5), (1, 9), (0, 2), (0, 4), (0, 6), (2, 7), (0, 8), (0, 10), (3, 11)] (by kernel_rfl) (by kernel_rfl) (fun _ _ _ _ _ h => h) (fun _ _ _ _ _ h => h) ?_
        refine gSeq_name fun w9 hw9 => ?_
        have g9 : w8.grownBy w9 none := by rw [hw9]; exact grown_drew _ _
        have RB0 := Lib.hid (row_keep RB.out g9)
        have R0 := Lib.hid (row_keep R0'.out g9)
        have R1 := Lib.hid (row_keep R1'.out g9)
        have RR := Lib.hid (row_keep RR'.out g9)
        have RH := Lib.hid (row_keep RH'.out g9)
        have HR9 := Lib.hid (HR8.out.kept g9)
        have HG9 := Lib.hid (grown_trans HG8.out g9)
        clear hw9 g9 RB R0' R1' RR' RH' HG8 HR8
        (repeat (first | (refine gSeq_skip rfl (by rfl) ?_; (try simp only [Act.put, Act.eval, List.setIfInBounds_toArray, List.set_cons_zero, List.set_cons_succ, Array.getD_eq_getD_getElem?, List.getElem?_toArray, List.getElem?_cons_succ, List.getElem?_cons_zero, Option.getD_some])) | (refine gSeq_move _ rfl rfl (by rfl) ?_; (try simp only [Act.put, Act.eval, List.setIfInBounds_toArray, List.set_cons_zero, List.set_cons_succ, Array.getD_eq_getD_getElem?, List.getElem?_toArray, List.getElem?_cons_succ, List.getElem?_cons_zero, Option.getD_some])) | (refine gSeq_assign _ rfl rfl (by rfl) ?_; (try simp only [Act.put, Act.eval, List.setIfInBounds_toArray, List.set_cons_zero, List.set_cons_succ, Array.getD_eq_getD_getElem?, List.getElem?_toArray, List.getElem?_cons_succ, List.getElem?_cons_zero, Option.getD_some])) | ((first | (refine gSeq_row rfl (by rfl) 61 _ rfl _ rfl _ _ _ _ RH.out Try.underlying61 rfl (by rw [size_encK, length_digB]; kernel_rfl) ?_; (try simp only [Act.put, Act.eval, List.setIfInBounds_toArray, List.set_cons_zero, List.set_cons_succ, Array.getD_eq_getD_getElem?, List.getElem?_toArray, List.getElem?_cons_succ, List.getElem?_cons_zero, Option.getD_some])) | (refine gSeq_row rfl (by rfl) 59 _ rfl _ rfl _ _ _ _ RR.out Try.underlying59 rfl (by rw [size_encK, (rfl : ([rA key, rB key] : List Int).length = 2)]; kernel_rfl) ?_; (try simp only [Act.put, Act.eval, List.setIfInBounds_toArray, List.set_cons_zero, List.set_cons_succ, Array.getD_eq_getD_getElem?, List.getElem?_toArray, List.getElem?_cons_succ, List.getElem?_cons_zero, Option.getD_some])) | (refine gSeq_slice rfl (by rfl) _ _ _ _ rfl _ rfl _ _ rfl rfl _ (sliceAt_all _ 24 5 Try.underlying62 rfl s 0) ?_; (try simp only [Act.put, Act.eval, List.setIfInBounds_toArray, List.set_cons_zero, List.set_cons_succ, Array.getD_eq_getD_getElem?, List.getElem?_toArray, List.getElem?_cons_succ, List.getElem?_cons_zero, Option.getD_some])) | (refine gSeq_slice rfl (by rfl) _ _ _ _ rfl _ rfl _ _ rfl rfl _ (sliceAt_from _ 24 5 Try.underlying62 rfl s 0 8 _ rfl (by decide)) ?_; (try simp only [Act.put, Act.eval, List.setIfInBounds_toArray, List.set_cons_zero, List.set_cons_succ, Array.getD_eq_getD_getElem?, List.getElem?_toArray, List.getElem?_cons_succ, List.getElem?_cons_zero, Option.getD_some])) | (refine gSeq_slice rfl (by rfl) _ _ _ _ rfl _ rfl _ _ rfl rfl _ (sliceAt_from _ 24 5 Try.underlying62 rfl s 0 16 _ rfl (by decide)) ?_; (try simp only [Act.put, Act.eval, List.setIfInBounds_toArray, List.set_cons_zero, List.set_cons_succ, Array.getD_eq_getD_getElem?, List.getElem?_toArray, List.getElem?_cons_succ, List.getElem?_cons_zero, Option.getD_some])))) | (refine gSeq_pure rfl (by rfl) ?_ ?_ ?_; (rotate_left; (intro w'; (skip); go_simp; (first | done | with_reducible rfl)); (try simp only [Act.put, Act.eval, List.setIfInBounds_toArray, List.set_cons_zero, List.set_cons_succ, Array.getD_eq_getD_getElem?, List.getElem?_toArray, List.getElem?_cons_succ, List.getElem?_cons_zero, Option.getD_some]))) | (refine gSeq_still rfl (by rfl) ?_ ?_ ?_; (rotate_left; (intro w' hG; (skip); go_simp; (first | done | with_reducible rfl)); (try simp only [Act.put, Act.eval, List.setIfInBounds_toArray, List.set_cons_zero, List.set_cons_succ, Array.getD_eq_getD_getElem?, List.getElem?_toArray, List.getElem?_cons_succ, List.getElem?_cons_zero, Option.getD_some])))))
        (refine gSeq_do rfl (by rfl) (fun K hK => ?_)); go_simp
        refine (half_any _ 24 24 S _ (HSL.out ▸ rd_row RB0.out) HSO.out (by decide)).mono ?_
        rintro e w10 ⟨rfl, hw10⟩
        refine hK _ _ (by rw [hw10]; exact grown_refl _ _) ?_; clear hK K; (try simp only [Act.put, Act.eval, List.setIfInBounds_toArray, List.set_cons_zero, List.set_cons_succ, Array.getD_eq_getD_getElem?, List.getElem?_toArray, List.getElem?_cons_succ, List.getElem?_cons_zero, Option.getD_some])
        subst hw10
        (repeat (first | (refine gSeq_skip rfl (by rfl) ?_; (try simp only [Act.put, Act.eval, List.setIfInBounds_toArray, List.set_cons_zero, List.set_cons_succ, Array.getD_eq_getD_getElem?, List.getElem?_toArray, List.getElem?_cons_succ, List.getElem?_cons_zero, Option.getD_some])) | (refine gSeq_move _ rfl rfl (by rfl) ?_; (try simp only [Act.put, Act.eval, List.setIfInBounds_toArray, List.set_cons_zero, List.set_cons_succ, Array.getD_eq_getD_getElem?, List.getElem?_toArray, List.getElem?_cons_succ, List.getElem?_cons_zero, Option.getD_some])) | (refine gSeq_assign _ rfl rfl (by rfl) ?_; (try simp only [Act.put, Act.eval, List.setIfInBounds_toArray, List.set_cons_zero, List.set_cons_succ, Array.getD_eq_getD_getElem?, List.getElem?_toArray, List.getElem?_cons_succ, List.getElem?_cons_zero, Option.getD_some])) | (fail) | (refine gSeq_pure rfl (by rfl) ?_ ?_ ?_; (rotate_left; (intro w'; (skip); go_simp; (first | done | with_reducible rfl)); (try simp only [Act.put, Act.eval, List.setIfInBounds_toArray, List.set_cons_zero, List.set_cons_succ, Array.getD_eq_getD_getElem?, List.getElem?_toArray, List.getElem?_cons_succ, List.getElem?_cons_zero, Option.getD_some]))) | (refine gSeq_still rfl (by rfl) ?_ ?_ ?_; (rotate_left; (intro w' hG; (skip); go_simp; (first | done | with_reducible rfl)); (try simp only [Act.put, Act.eval, List.setIfInBounds_toArray, List.set_cons_zero, List.set_cons_succ, Array.getD_eq_getD_getElem?, List.getElem?_toArray, List.getElem?_cons_succ, List.getElem?_cons_zero, Option.getD_some])))))
        (refine gSeq_do rfl (by rfl) (fun K hK => ?_)); go_simp
        refine (half_any (some ⟨s, 8, none⟩) 16 16 (S.drop 8) _ (rd_row_from (m := 16) RB0.out 8 (by rw [HSL.out]; decide) (by rw [HSL.out])) (ok_drop HSO.out 8) (by decide)).mono ?_
        rintro e w10 ⟨rfl, hw10⟩
        refine hK _ _ (by rw [hw10]; exact grown_refl _ _) ?_; clear hK K; (try simp only [Act.put, Act.eval, List.setIfInBounds_toArray, List.set_cons_zero, List.set_cons_succ, Array.getD_eq_getD_getElem?, List.getElem?_toArray, List.getElem?_cons_succ, List.getElem?_cons_zero, Option.getD_some])
        subst hw10
        (repeat (first | (refine gSeq_skip rfl (by rfl) ?_; (try simp only [Act.put, Act.eval, List.setIfInBounds_toArray, List.set_cons_zero, List.set_cons_succ, Array.getD_eq_getD_getElem?, List.getElem?_toArray, List.getElem?_cons_succ, List.getElem?_cons_zero, Option.getD_some])) | (refine gSeq_move _ rfl rfl (by rfl) ?_; (try simp only [Act.put, Act.eval, List.setIfInBounds_toArray, List.set_cons_zero, List.set_cons_succ, Array.getD_eq_getD_getElem?, List.getElem?_toArray, List.getElem?_cons_succ, List.getElem?_cons_zero, Option.getD_some])) | (refine gSeq_assign _ rfl rfl (by rfl) ?_; (try simp only [Act.put, Act.eval, List.setIfInBounds_toArray, List.set_cons_zero, List.set_cons_succ, Array.getD_eq_getD_getElem?, List.getElem?_toArray, List.getElem?_cons_succ, List.getElem?_cons_zero, Option.getD_some])) | (fail) | (refine gSeq_pure rfl (by rfl) ?_ ?_ ?_; (rotate_left; (intro w'; (skip); go_simp; (first | done | with_reducible rfl)); (try simp only [Act.put, Act.eval, List.setIfInBounds_toArray, List.set_cons_zero, List.set_cons_succ, Array.getD_eq_getD_getElem?, List.getElem?_toArray, List.getElem?_cons_succ, List.getElem?_cons_zero, Option.getD_some]))) | (refine gSeq_still rfl (by rfl) ?_ ?_ ?_; (rotate_left; (intro w' hG; (skip); go_simp; (first | done | with_reducible rfl)); (try simp only [Act.put, Act.eval, List.setIfInBounds_toArray, List.set_cons_zero, List.set_cons_succ, Array.getD_eq_getD_getElem?, List.getElem?_toArray, List.getElem?_cons_succ, List.getElem?_cons_zero, Option.getD_some])))))
        (refine gSeq_do rfl (by rfl) (fun K hK => ?_)); go_simp
        refine (half_any (some ⟨s, 16, none⟩) 8 8 (S.drop 16) _ (rd_row_from (m := 8) RB0.out 16 (by rw [HSL.out]; decide) (by rw [HSL.out])) (ok_drop HSO.out 16) (by decide)).mono ?_
        rintro e w10 ⟨rfl, hw10⟩
        refine hK _ _ (by rw [hw10]; exact grown_refl _ _) ?_; clear hK K; (try simp only [Act.put, Act.eval, List.setIfInBounds_toArray, List.set_cons_zero, List.set_cons_succ, Array.getD_eq_getD_getElem?, List.getElem?_toArray, List.getElem?_cons_succ, List.getElem?_cons_zero, Option.getD_some])
        subst hw10
        (repeat (first | (refine gSeq_skip rfl (by rfl) ?_; (try simp only [Act.put, Act.eval, List.setIfInBounds_toArray, List.set_cons_zero, List.set_cons_succ, Array.getD_eq_getD_getElem?, List.getElem?_toArray, List.getElem?_cons_succ, List.getElem?_cons_zero, Option.getD_some])) | (refine gSeq_move _ rfl rfl (by rfl) ?_; (try simp only [Act.put, Act.eval, List.setIfInBounds_toArray, List.set_cons_zero, List.set_cons_succ, Array.getD_eq_getD_getElem?, List.getElem?_toArray, List.getElem?_cons_succ, List.getElem?_cons_zero, Option.getD_some])) | (refine gSeq_assign _ rfl rfl (by rfl) ?_; (try simp only [Act.put, Act.eval, List.setIfInBounds_toArray, List.set_cons_zero, List.set_cons_succ, Array.getD_eq_getD_getElem?, List.getElem?_toArray, List.getElem?_cons_succ, List.getElem?_cons_zero, Option.getD_some])) | (fail) | (refine gSeq_pure rfl (by rfl) ?_ ?_ ?_; (rotate_left; (intro w'; (skip); go_simp; (first | done | with_reducible rfl)); (try simp only [Act.put, Act.eval, List.setIfInBounds_toArray, List.set_cons_zero, List.set_cons_succ, Array.getD_eq_getD_getElem?, List.getElem?_toArray, List.getElem?_cons_succ, List.getElem?_cons_zero, Option.getD_some]))) | (refine gSeq_still rfl (by rfl) ?_ ?_ ?_; (rotate_left; (intro w' hG; (skip); go_simp; (first | done | with_reducible rfl)); (try simp only [Act.put, Act.eval, List.setIfInBounds_toArray, List.set_cons_zero, List.set_cons_succ, Array.getD_eq_getD_getElem?, List.getElem?_toArray, List.getElem?_cons_succ, List.getElem?_cons_zero, Option.getD_some])))))
        have hS3 : okB B64 [numB 256 (S.take 8), numB 256 ((S.drop 8).take 8), numB 256 ((S.drop 16).take 8)] := fun y hy => by
          have hy' : y = numB 256 (S.take 8) ∨ y = numB 256 ((S.drop 8).take 8) ∨ y = numB 256 ((S.drop 16).take 8) := by simpa only [List.mem_cons, List.not_mem_nil, or_false] using hy
          rcases hy' with rfl | rfl | rfl
          · exact num8 HSO.out
          · exact num8 (ok_drop HSO.out 8)
          · exact num8 (ok_drop HSO.out 16)
        have hps := poly_step HH.out.1 HH.out.2.1 HSR.out.1 HSR.out.2 HKR.out.2.2.1 HKR.out.2.2.2 HH.out.2.2
        have hb1 : H < B64 ^ 3 := Int.lt_trans HH.out.2.1 (by decide)
        have hb2 : H + numB 256 S < B64 ^ 3 := Int.lt_trans (show H + numB 256 S < 1786482426334926933182716689016783110144 + 680564733841876926926749214863536422912 by have := HH.out.2.1; have := HSR.out.2; omega) (by decide)
        have hb0 : 0 ≤ H + numB 256 S := by have := HH.out.1; have := HSR.out.1; omega
        (refine gSeq_do rfl (by rfl) (fun K hK => ?_)); go_simp
        refine (plus_any (digB B64 3 H) [numB 256 (S.take 8), numB 256 ((S.drop 8).take 8), numB 256 ((S.drop 16).take 8)] _ (length_digB _ _ _) rfl (ok_digB (by decide) _ _) hS3).mono ?_
        rintro e w11 ⟨rfl, hg11⟩
        rw [num3 H HH.out.1 hb1, num24 S HSL.out]
        refine hK _ _ hg11 ?_; clear hK K; (try simp only [Act.put, Act.eval, List.setIfInBounds_toArray, List.set_cons_zero, List.set_cons_succ, Array.getD_eq_getD_getElem?, List.getElem?_toArray, List.getElem?_cons_succ, List.getElem?_cons_zero, Option.getD_some])
        (refine gSeq_do rfl (by rfl) (fun K hK => ?_)); go_simp
        refine (times_any (digB B64 3 (H + numB 256 S)) [rA key, rB key] _ (length_digB _ _ _) (ok_digB (by decide) _ _) rfl (fun y hy => by
          have hy' : y = rA key ∨ y = rB key := by simpa only [List.mem_cons, List.not_mem_nil, or_false] using hy
          rcases hy' with rfl | rfl
          · exact HKR.out.1
          · exact HKR.out.2.1)).mono ?_
        rintro e w12 ⟨rfl, hg12⟩
        rw [num3 (H + numB 256 S) hb0 hb2, show numB B64 [rA key, rB key] = keyR key by simp [numB, keyR]]
        refine hK _ _ hg12 ?_; clear hK K; (try simp only [Act.put, Act.eval, List.setIfInBounds_toArray, List.set_cons_zero, List.set_cons_succ, Array.getD_eq_getD_getElem?, List.getElem?_toArray, List.getElem?_cons_succ, List.getElem?_cons_zero, Option.getD_some])
        obtain ⟨H', hH'⟩ : ∃ H', H' = foldI ((H + numB 256 S) * keyR key % B64 ^ 4) := ⟨_, rfl⟩
        rw [← hH'] at hps ⊢
        have HH' : Hid (0 ≤ H' ∧ H' < 1786482426334926933182716689016783110144 ∧ H' % PP = polyV (keyR key) bs (k + 1)) := by
          refine ⟨hps.1, hps.2.1, ?_⟩
          rw [hps.2.2, HSN.out]; rfl
        have g12 := grown_trans hg11 hg12
        have R0' := Lib.hid (row_keep R0.out g12)
        have R1' := Lib.hid (row_keep R1.out g12)
        have RR' := Lib.hid (row_keep RR.out g12)
        have RH' := Lib.hid (row_keep RH.out g12)
        have HR12 := Lib.hid (HR9.out.kept g12)
        have HG12 := Lib.hid (grown_trans HG9.out g12)
        clear hps hb0 hb1 hb2 hS3 hH' hg11 hg12 g12 R0 R1 RR RH HR9 HG9 RB0
        (refine gSeq_store_range rfl (by rfl) _ _ _ rfl q 0 (encK .u64 (digB B64 3 H')) rfl rfl _ _ RH'.out (by rw [size_encK, size_encK, length_digB, length_digB]; decide) (by rw [size_encK, length_digB]; kernel_rfl) (one_encK _ _) ?_)
        intro w13 r13 g13
        rw [putAt_all _ _ (by rw [Array.length_toList, size_encK, size_encK, length_digB, length_digB])] at r13
        have RH : Hid (w13.heap[q]? = some (.cells (encK .u64 (digB B64 3 H')) T3 (0, 0))) := r13
        have R0 := Lib.hid ((g13.block _ (row_lt R0'.out) (by intro e; injection e with e; have := HBQ.out; have := HN.out; omega)).trans R0'.out)
        have R1 := Lib.hid ((g13.block _ (row_lt R1'.out) (by intro e; injection e with e; have := HBQ.out; have := HN.out; omega)).trans R1'.out)
        have RR := Lib.hid ((g13.block _ (row_lt RR'.out) (by intro e; injection e with e; have := HBQ.out; omega)).trans RR'.out)
        have HR13 := Lib.hid (rd_off HR12.out HQO.out g13)
        have HG13 := Lib.hid (grown_row HG12.out g13 (fun j hj => by injection hj with hj; have := HP.out; have := HN.out; have := HBQ.out; omega))
        clear r13 g13 R0' R1' RR' RH' HR12 HG12
        (try simp only [Act.put, Act.eval, List.setIfInBounds_toArray, List.set_cons_zero, List.set_cons_succ, Array.getD_eq_getD_getElem?, List.getElem?_toArray, List.getElem?_cons_succ, List.getElem?_cons_zero, Option.getD_some])
        refine gSeq_nil ?_
        go_wp2_with (refine wpList_slice rfl _ _ _ _ rfl _ rfl _ _ rfl rfl _ (run_sub_l Try.underlying24 rfl 16 (16) (by first | rfl | decide) (by omega)) ?_)
        have hrd := rd_drop' (cap := cap') HR13.out (16) (by omega) hlc
        rw [HDR.out] at hrd
        have HRD := Lib.hid hrd
        have hcap2 := HCM2.out
        have hlen2 := HLEN.out
        exact ⟨⟨k + 1, subAt ad' (16) cap', len' - 16, cap' - 16, H', rfl, by omega, by omega, by omega, by omega, HRD, subAt_block HQO.out _ _, HH', R0.out, R1.out, RR.out, RH.out, HG13.out⟩, by simp; omega⟩
      · have h16' : (len' : Int) ≤ 16 := by omega
        obtain ⟨s, hs⟩ : ∃ s, wr.heap.size = s := ⟨_, rfl⟩
        have HS := Lib.hid hs
        have HQS := Lib.hid (show q < s by rw [← hs]; exact row_lt RH.out)
        clear hs
        obtain ⟨xs, hxs⟩ : ∃ xs, xs = (bs.drop (16 * k)).take len' := ⟨_, rfl⟩
        have hxl : xs.length = len' := by rw [hxs, List.length_take, HR.out.1]; omega
        have hx16 : xs = (bs.drop (16 * k)).take 16 := by rw [hxs]; rw [List.take_of_length_le (by rw [HR.out.1]; omega), List.take_of_length_le (by rw [HR.out.1]; omega)]
        have hxo : okB 256 xs := by rw [hxs]; exact fun x hx => HBO.out x (List.mem_of_mem_drop (List.mem_of_mem_take hx))
        have hdrop : (bs.drop (16 * k)).drop len' = bs.drop (16 * (k + 1)) := by
          rw [List.drop_of_length_le (by rw [HR.out.1]; omega), List.drop_of_length_le (by have := HLEN.out; omega)]
        have HXL := Lib.hid hxl
        have HX16 := Lib.hid hx16
        have HXO := Lib.hid hxo
        have HDR := Lib.hid hdrop
        have HXS := Lib.hid hxs
        clear hxs hxl hx16 hxo hdrop
        go_wp2_with fail
        rw [HS.out]
        refine wp_region_grow [(2, 0), (2, 1), (2, 2), (2, 3), (3, 4)] (by kernel_rfl) (by kernel_rfl) (fun _ _ _ _ _ h => h) (fun _ _ _ _ _ h => h) ?_
        refine gSeq_name fun w6 hw6 => ?_
        have g6 : wr.grownBy w6 none := by rw [hw6]; exact grown_trans (World.grownBy_alloc wr _ none) (grown_drew _ _)
        have RB : Hid (w6.heap[s]? = some (.cells (encK .u8 (List.replicate 24 0)) A24 (0, 0))) := by rw [hw6]; exact alloc_at (w := wr) (.cells (encK .u8 (List.replicate 24 0)) A24 (0, 0)) HS.out.symm
        have HR6 := Lib.hid (HR.out.kept g6)
        have R0' := Lib.hid (row_keep R0.out g6)
        have R1' := Lib.hid (row_keep R1.out g6)
        have RR' := Lib.hid (row_keep RR.out g6)
        have RH' := Lib.hid (row_keep RH.out g6)
        have HG6 := Lib.hid (grown_trans HG.out g6)
        clear hw6 g6 R0 R1 RR RH HG
        (repeat (first | (refine gSeq_skip rfl (by rfl) ?_; (try simp only [Act.put, Act.eval, List.setIfInBounds_toArray, List.set_cons_zero, List.set_cons_succ, Array.getD_eq_getD_getElem?, List.getElem?_toArray, List.getElem?_cons_succ, List.getElem?_cons_zero, Option.getD_some])) | (refine gSeq_move _ rfl rfl (by rfl) ?_; (try simp only [Act.put, Act.eval, List.setIfInBounds_toArray, List.set_cons_zero, List.set_cons_succ, Array.getD_eq_getD_getElem?, List.getElem?_toArray, List.getElem?_cons_succ, List.getElem?_cons_zero, Option.getD_some])) | (refine gSeq_assign _ rfl rfl (by rfl) ?_; (try simp only [Act.put, Act.eval, List.setIfInBounds_toArray, List.set_cons_zero, List.set_cons_succ, Array.getD_eq_getD_getElem?, List.getElem?_toArray, List.getElem?_cons_succ, List.getElem?_cons_zero, Option.getD_some])) | ((first | (refine gSeq_slice rfl (by rfl) _ _ _ _ rfl _ rfl _ _ rfl rfl _ (sliceAt_all _ 24 5 Try.underlying62 rfl s 0) ?_; (try simp only [Act.put, Act.eval, List.setIfInBounds_toArray, List.set_cons_zero, List.set_cons_succ, Array.getD_eq_getD_getElem?, List.getElem?_toArray, List.getElem?_cons_succ, List.getElem?_cons_zero, Option.getD_some])) | (refine gSeq_slice rfl (by rfl) _ _ _ _ rfl _ rfl _ _ rfl rfl _ (run_sub_h Try.underlying24 rfl _ (len') (by rfl) (by omega)) ?_; (try simp only [Act.put, Act.eval, List.setIfInBounds_toArray, List.set_cons_zero, List.set_cons_succ, Array.getD_eq_getD_getElem?, List.getElem?_toArray, List.getElem?_cons_succ, List.getElem?_cons_zero, Option.getD_some])))) | (refine gSeq_pure rfl (by rfl) ?_ ?_ ?_; (rotate_left; (intro w'; (skip); go_simp; (first | done | with_reducible rfl)); (try simp only [Act.put, Act.eval, List.setIfInBounds_toArray, List.set_cons_zero, List.set_cons_succ, Array.getD_eq_getD_getElem?, List.getElem?_toArray, List.getElem?_cons_succ, List.getElem?_cons_zero, Option.getD_some]))) | (refine gSeq_still rfl (by rfl) ?_ ?_ ?_; (rotate_left; (intro w' hG; (skip); go_simp; (first | done | with_reducible rfl)); (try simp only [Act.put, Act.eval, List.setIfInBounds_toArray, List.set_cons_zero, List.set_cons_succ, Array.getD_eq_getD_getElem?, List.getElem?_toArray, List.getElem?_cons_succ, List.getElem?_cons_zero, Option.getD_some])))))
        refine gSeq_copy (k := .u8) (op := _) rfl ?c0 (.tmp 32) (.tmp 35) _ _ rfl 5 s 0 24 24 (subAt ad' 0 cap') len' cap' (List.replicate 24 0) A24 xs Try.underlying24 rfl ?c1 ?c2 ?c3 RB.out len' ?c4 ?c5 ?_
        case c0 => rfl
        case c1 => rfl
        case c2 => rfl
        case c3 => rw [HXS.out]; exact rd_sub0 HR6.out len' (by omega) hlc
        case c4 => omega
        case c5 => rw [List.length_replicate]; omega
        intro w7 r7 g7
        have r7' : w7.heap[s]? = some (.cells (encK .u8 (xs ++ zerP (24 - len'))) A24 (0, 0)) := by
          unfold zerP
          rw [r7, List.take_zero, List.nil_append, List.take_of_length_le (by rw [HXL.out]; omega), Nat.zero_add, List.drop_replicate]
        have RB' := Lib.hid r7'
        have R0 := Lib.hid ((g7.block _ (row_lt R0'.out) (by intro e; injection e with e; have := HQS.out; have := HBQ.out; have := HN.out; omega)).trans R0'.out)
        have R1 := Lib.hid ((g7.block _ (row_lt R1'.out) (by intro e; injection e with e; have := HQS.out; have := HBQ.out; have := HN.out; omega)).trans R1'.out)
        have RR := Lib.hid ((g7.block _ (row_lt RR'.out) (by intro e; injection e with e; have := HQS.out; have := HBQ.out; omega)).trans RR'.out)
        have RH := Lib.hid ((g7.block _ (row_lt RH'.out) (by intro e; injection e with e; have := HQS.out; omega)).trans RH'.out)
        have HR7 := Lib.hid (rd_other HR.out HR6.out g7 HS.out)
        have HG7 := Lib.hid (grown_row HG6.out g7 (fun j hj => by injection hj with hj; have := HP.out; have := HN.out; have := HBQ.out; have := HQS.out; omega))
        clear r7 r7' g7 RB R0' R1' RR' RH' HG6 HR6
        (try simp only [Act.put, Act.eval, List.setIfInBounds_toArray, List.set_cons_zero, List.set_cons_succ, Array.getD_eq_getD_getElem?, List.getElem?_toArray, List.getElem?_cons_succ, List.getElem?_cons_zero, Option.getD_some])
        refine gSeq_nil ?_
        have hnn0 : (0 : Int) ≤ ((len' : Nat) : Int) := by omega
        have hnn24 : ((len' : Nat) : Int) < 24 := by omega
        go_wp2_with (refine wpList_store_cell rfl _ (.tmp 38) (.const (.int .u8 1)) rfl s (len') _ rfl rfl _ _ RB'.out (by rw [size_encK, List.length_append, HXL.out, length_zerP]; omega) (by kernel_rfl) rfl rfl ?_)
        intro w8 r8 g8
        have r8' := rowK_set r8
        rw [set_one' xs (len') 24 1 HXL.out (by omega)] at r8'
        obtain ⟨S, hS⟩ : ∃ S, S = xs ++ [1] ++ zerP (24 - (len' + 1)) := ⟨_, rfl⟩
        rw [← hS] at r8'
        have HSL := Lib.hid (show S.length = 24 by rw [hS, List.length_append, List.length_append, HXL.out, length_zerP, List.length_singleton]; try omega)
        have HSO := Lib.hid (show okB 256 S by rw [hS, zerP]; exact ok_block HXO.out _)
        have HSN := Lib.hid (show numB 256 S = numB 256 ((bs.drop (16 * k)).take 16 ++ [1]) by rw [hS, zerP, num_zeros, HX16.out])
        have HSR := Lib.hid (show 0 ≤ numB 256 S ∧ numB 256 S < 680564733841876926926749214863536422912 by rw [hS, zerP, num_zeros]; exact block_range HXO.out (by rw [HXL.out]; omega))
        have RB := Lib.hid r8'
        have R0' := Lib.hid ((g8.block _ (row_lt R0.out) (by intro e; injection e with e; have := HQS.out; have := HBQ.out; have := HN.out; omega)).trans R0.out)
        have R1' := Lib.hid ((g8.block _ (row_lt R1.out) (by intro e; injection e with e; have := HQS.out; have := HBQ.out; have := HN.out; omega)).trans R1.out)
        have RR' := Lib.hid ((g8.block _ (row_lt RR.out) (by intro e; injection e with e; have := HQS.out; have := HBQ.out; omega)).trans RR.out)
        have RH' := Lib.hid ((g8.block _ (row_lt RH.out) (by intro e; injection e with e; have := HQS.out; omega)).trans RH.out)
        have HR8 := Lib.hid (rd_other HR.out HR7.out g8 HS.out)
        have HG8 := Lib.hid (grown_row HG7.out g8 (fun j hj => by injection hj with hj; have := HP.out; have := HN.out; have := HBQ.out; have := HQS.out; omega))
        clear r8 r8' g8 hS RB' R0 R1 RR RH HG7 HR7
        go_wp2_with fail
        refine wp_region_grow [(1, 0), (2, 1), (2, 3), (2, 5), (1, 9), (0, 2), (0, 4), (0, 6), (2, 7), (0, 8), (0, 10), (3, 11)] (by kernel_rfl) (by kernel_rfl) (fun _ _ _ _ _ h => h) (fun _ _ _ _ _ h => h) ?_
        refine gSeq_name fun w9 hw9 => ?_
        have g9 : w8.grownBy w9 none := by rw [hw9]; exact grown_drew _ _
        have RB0 := Lib.hid (row_keep RB.out g9)
        have R0 := Lib.hid (row_keep R0'.out g9)
        have R1 := Lib.hid (row_keep R1'.out g9)
        have RR := Lib.hid (row_keep RR'.out g9)
        have RH := Lib.hid (row_keep RH'.out g9)
        have HR9 := Lib.hid (HR8.out.kept g9)
        have HG9 := Lib.hid (grown_trans HG8.out g9)
        clear hw9 g9 RB R0' R1' RR' RH' HG8 HR8
        (repeat (first | (refine gSeq_skip rfl (by rfl) ?_; (try simp only [Act.put, Act.eval, List.setIfInBounds_toArray, List.set_cons_zero, List.set_cons_succ, Array.getD_eq_getD_getElem?, List.getElem?_toArray, List.getElem?_cons_succ, List.getElem?_cons_zero, Option.getD_some])) | (refine gSeq_move _ rfl rfl (by rfl) ?_; (try simp only [Act.put, Act.eval, List.setIfInBounds_toArray, List.set_cons_zero, List.set_cons_succ, Array.getD_eq_getD_getElem?, List.getElem?_toArray, List.getElem?_cons_succ, List.getElem?_cons_zero, Option.getD_some])) | (refine gSeq_assign _ rfl rfl (by rfl) ?_; (try simp only [Act.put, Act.eval, List.setIfInBounds_toArray, List.set_cons_zero, List.set_cons_succ, Array.getD_eq_getD_getElem?, List.getElem?_toArray, List.getElem?_cons_succ, List.getElem?_cons_zero, Option.getD_some])) | ((first | (refine gSeq_row rfl (by rfl) 61 _ rfl _ rfl _ _ _ _ RH.out Try.underlying61 rfl (by rw [size_encK, length_digB]; kernel_rfl) ?_; (try simp only [Act.put, Act.eval, List.setIfInBounds_toArray, List.set_cons_zero, List.set_cons_succ, Array.getD_eq_getD_getElem?, List.getElem?_toArray, List.getElem?_cons_succ, List.getElem?_cons_zero, Option.getD_some])) | (refine gSeq_row rfl (by rfl) 59 _ rfl _ rfl _ _ _ _ RR.out Try.underlying59 rfl (by rw [size_encK, (rfl : ([rA key, rB key] : List Int).length = 2)]; kernel_rfl) ?_; (try simp only [Act.put, Act.eval, List.setIfInBounds_toArray, List.set_cons_zero, List.set_cons_succ, Array.getD_eq_getD_getElem?, List.getElem?_toArray, List.getElem?_cons_succ, List.getElem?_cons_zero, Option.getD_some])) | (refine gSeq_slice rfl (by rfl) _ _ _ _ rfl _ rfl _ _ rfl rfl _ (sliceAt_all _ 24 5 Try.underlying62 rfl s 0) ?_; (try simp only [Act.put, Act.eval, List.setIfInBounds_toArray, List.set_cons_zero, List.set_cons_succ, Array.getD_eq_getD_getElem?, List.getElem?_toArray, List.getElem?_cons_succ, List.getElem?_cons_zero, Option.getD_some])) | (refine gSeq_slice rfl (by rfl) _ _ _ _ rfl _ rfl _ _ rfl rfl _ (sliceAt_from _ 24 5 Try.underlying62 rfl s 0 8 _ rfl (by decide)) ?_; (try simp only [Act.put, Act.eval, List.setIfInBounds_toArray, List.set_cons_zero, List.set_cons_succ, Array.getD_eq_getD_getElem?, List.getElem?_toArray, List.getElem?_cons_succ, List.getElem?_cons_zero, Option.getD_some])) | (refine gSeq_slice rfl (by rfl) _ _ _ _ rfl _ rfl _ _ rfl rfl _ (sliceAt_from _ 24 5 Try.underlying62 rfl s 0 16 _ rfl (by decide)) ?_; (try simp only [Act.put, Act.eval, List.setIfInBounds_toArray, List.set_cons_zero, List.set_cons_succ, Array.getD_eq_getD_getElem?, List.getElem?_toArray, List.getElem?_cons_succ, List.getElem?_cons_zero, Option.getD_some])))) | (refine gSeq_pure rfl (by rfl) ?_ ?_ ?_; (rotate_left; (intro w'; (skip); go_simp; (first | done | with_reducible rfl)); (try simp only [Act.put, Act.eval, List.setIfInBounds_toArray, List.set_cons_zero, List.set_cons_succ, Array.getD_eq_getD_getElem?, List.getElem?_toArray, List.getElem?_cons_succ, List.getElem?_cons_zero, Option.getD_some]))) | (refine gSeq_still rfl (by rfl) ?_ ?_ ?_; (rotate_left; (intro w' hG; (skip); go_simp; (first | done | with_reducible rfl)); (try simp only [Act.put, Act.eval, List.setIfInBounds_toArray, List.set_cons_zero, List.set_cons_succ, Array.getD_eq_getD_getElem?, List.getElem?_toArray, List.getElem?_cons_succ, List.getElem?_cons_zero, Option.getD_some])))))
        (refine gSeq_do rfl (by rfl) (fun K hK => ?_)); go_simp
        refine (half_any _ 24 24 S _ (HSL.out ▸ rd_row RB0.out) HSO.out (by decide)).mono ?_
        rintro e w10 ⟨rfl, hw10⟩
        refine hK _ _ (by rw [hw10]; exact grown_refl _ _) ?_; clear hK K; (try simp only [Act.put, Act.eval, List.setIfInBounds_toArray, List.set_cons_zero, List.set_cons_succ, Array.getD_eq_getD_getElem?, List.getElem?_toArray, List.getElem?_cons_succ, List.getElem?_cons_zero, Option.getD_some])
        subst hw10
        (repeat (first | (refine gSeq_skip rfl (by rfl) ?_; (try simp only [Act.put, Act.eval, List.setIfInBounds_toArray, List.set_cons_zero, List.set_cons_succ, Array.getD_eq_getD_getElem?, List.getElem?_toArray, List.getElem?_cons_succ, List.getElem?_cons_zero, Option.getD_some])) | (refine gSeq_move _ rfl rfl (by rfl) ?_; (try simp only [Act.put, Act.eval, List.setIfInBounds_toArray, List.set_cons_zero, List.set_cons_succ, Array.getD_eq_getD_getElem?, List.getElem?_toArray, List.getElem?_cons_succ, List.getElem?_cons_zero, Option.getD_some])) | (refine gSeq_assign _ rfl rfl (by rfl) ?_; (try simp only [Act.put, Act.eval, List.setIfInBounds_toArray, List.set_cons_zero, List.set_cons_succ, Array.getD_eq_getD_getElem?, List.getElem?_toArray, List.getElem?_cons_succ, List.getElem?_cons_zero, Option.getD_some])) | (fail) | (refine gSeq_pure rfl (by rfl) ?_ ?_ ?_; (rotate_left; (intro w'; (skip); go_simp; (first | done | with_reducible rfl)); (try simp only [Act.put, Act.eval, List.setIfInBounds_toArray, List.set_cons_zero, List.set_cons_succ, Array.getD_eq_getD_getElem?, List.getElem?_toArray, List.getElem?_cons_succ, List.getElem?_cons_zero, Option.getD_some]))) | (refine gSeq_still rfl (by rfl) ?_ ?_ ?_; (rotate_left; (intro w' hG; (skip); go_simp; (first | done | with_reducible rfl)); (try simp only [Act.put, Act.eval, List.setIfInBounds_toArray, List.set_cons_zero, List.set_cons_succ, Array.getD_eq_getD_getElem?, List.getElem?_toArray, List.getElem?_cons_succ, List.getElem?_cons_zero, Option.getD_some])))))
        (refine gSeq_do rfl (by rfl) (fun K hK => ?_)); go_simp
        refine (half_any (some ⟨s, 8, none⟩) 16 16 (S.drop 8) _ (rd_row_from (m := 16) RB0.out 8 (by rw [HSL.out]; decide) (by rw [HSL.out])) (ok_drop HSO.out 8) (by decide)).mono ?_
        rintro e w10 ⟨rfl, hw10⟩
        refine hK _ _ (by rw [hw10]; exact grown_refl _ _) ?_; clear hK K; (try simp only [Act.put, Act.eval, List.setIfInBounds_toArray, List.set_cons_zero, List.set_cons_succ, Array.getD_eq_getD_getElem?, List.getElem?_toArray, List.getElem?_cons_succ, List.getElem?_cons_zero, Option.getD_some])
        subst hw10
        (repeat (first | (refine gSeq_skip rfl (by rfl) ?_; (try simp only [Act.put, Act.eval, List.setIfInBounds_toArray, List.set_cons_zero, List.set_cons_succ, Array.getD_eq_getD_getElem?, List.getElem?_toArray, List.getElem?_cons_succ, List.getElem?_cons_zero, Option.getD_some])) | (refine gSeq_move _ rfl rfl (by rfl) ?_; (try simp only [Act.put, Act.eval, List.setIfInBounds_toArray, List.set_cons_zero, List.set_cons_succ, Array.getD_eq_getD_getElem?, List.getElem?_toArray, List.getElem?_cons_succ, List.getElem?_cons_zero, Option.getD_some])) | (refine gSeq_assign _ rfl rfl (by rfl) ?_; (try simp only [Act.put, Act.eval, List.setIfInBounds_toArray, List.set_cons_zero, List.set_cons_succ, Array.getD_eq_getD_getElem?, List.getElem?_toArray, List.getElem?_cons_succ, List.getElem?_cons_zero, Option.getD_some])) | (fail) | (refine gSeq_pure rfl (by rfl) ?_ ?_ ?_; (rotate_left; (intro w'; (skip); go_simp; (first | done | with_reducible rfl)); (try simp only [Act.put, Act.eval, List.setIfInBounds_toArray, List.set_cons_zero, List.set_cons_succ, Array.getD_eq_getD_getElem?, List.getElem?_toArray, List.getElem?_cons_succ, List.getElem?_cons_zero, Option.getD_some]))) | (refine gSeq_still rfl (by rfl) ?_ ?_ ?_; (rotate_left; (intro w' hG; (skip); go_simp; (first | done | with_reducible rfl)); (try simp only [Act.put, Act.eval, List.setIfInBounds_toArray, List.set_cons_zero, List.set_cons_succ, Array.getD_eq_getD_getElem?, List.getElem?_toArray, List.getElem?_cons_succ, List.getElem?_cons_zero, Option.getD_some])))))
        (refine gSeq_do rfl (by rfl) (fun K hK => ?_)); go_simp
        refine (half_any (some ⟨s, 16, none⟩) 8 8 (S.drop 16) _ (rd_row_from (m := 8) RB0.out 16 (by rw [HSL.out]; decide) (by rw [HSL.out])) (ok_drop HSO.out 16) (by decide)).mono ?_
        rintro e w10 ⟨rfl, hw10⟩
        refine hK _ _ (by rw [hw10]; exact grown_refl _ _) ?_; clear hK K; (try simp only [Act.put, Act.eval, List.setIfInBounds_toArray, List.set_cons_zero, List.set_cons_succ, Array.getD_eq_getD_getElem?, List.getElem?_toArray, List.getElem?_cons_succ, List.getElem?_cons_zero, Option.getD_some])
        subst hw10
        (repeat (first | (refine gSeq_skip rfl (by rfl) ?_; (try simp only [Act.put, Act.eval, List.setIfInBounds_toArray, List.set_cons_zero, List.set_cons_succ, Array.getD_eq_getD_getElem?, List.getElem?_toArray, List.getElem?_cons_succ, List.getElem?_cons_zero, Option.getD_some])) | (refine gSeq_move _ rfl rfl (by rfl) ?_; (try simp only [Act.put, Act.eval, List.setIfInBounds_toArray, List.set_cons_zero, List.set_cons_succ, Array.getD_eq_getD_getElem?, List.getElem?_toArray, List.getElem?_cons_succ, List.getElem?_cons_zero, Option.getD_some])) | (refine gSeq_assign _ rfl rfl (by rfl) ?_; (try simp only [Act.put, Act.eval, List.setIfInBounds_toArray, List.set_cons_zero, List.set_cons_succ, Array.getD_eq_getD_getElem?, List.getElem?_toArray, List.getElem?_cons_succ, List.getElem?_cons_zero, Option.getD_some])) | (fail) | (refine gSeq_pure rfl (by rfl) ?_ ?_ ?_; (rotate_left; (intro w'; (skip); go_simp; (first | done | with_reducible rfl)); (try simp only [Act.put, Act.eval, List.setIfInBounds_toArray, List.set_cons_zero, List.set_cons_succ, Array.getD_eq_getD_getElem?, List.getElem?_toArray, List.getElem?_cons_succ, List.getElem?_cons_zero, Option.getD_some]))) | (refine gSeq_still rfl (by rfl) ?_ ?_ ?_; (rotate_left; (intro w' hG; (skip); go_simp; (first | done | with_reducible rfl)); (try simp only [Act.put, Act.eval, List.setIfInBounds_toArray, List.set_cons_zero, List.set_cons_succ, Array.getD_eq_getD_getElem?, List.getElem?_toArray, List.getElem?_cons_succ, List.getElem?_cons_zero, Option.getD_some])))))
        have hS3 : okB B64 [numB 256 (S.take 8), numB 256 ((S.drop 8).take 8), numB 256 ((S.drop 16).take 8)] := fun y hy => by
          have hy' : y = numB 256 (S.take 8) ∨ y = numB 256 ((S.drop 8).take 8) ∨ y = numB 256 ((S.drop 16).take 8) := by simpa only [List.mem_cons, List.not_mem_nil, or_false] using hy
          rcases hy' with rfl | rfl | rfl
          · exact num8 HSO.out
          · exact num8 (ok_drop HSO.out 8)
          · exact num8 (ok_drop HSO.out 16)
        have hps := poly_step HH.out.1 HH.out.2.1 HSR.out.1 HSR.out.2 HKR.out.2.2.1 HKR.out.2.2.2 HH.out.2.2
        have hb1 : H < B64 ^ 3 := Int.lt_trans HH.out.2.1 (by decide)
        have hb2 : H + numB 256 S < B64 ^ 3 := Int.lt_trans (show H + numB 256 S < 1786482426334926933182716689016783110144 + 680564733841876926926749214863536422912 by have := HH.out.2.1; have := HSR.out.2; omega) (by decide)
        have hb0 : 0 ≤ H + numB 256 S := by have := HH.out.1; have := HSR.out.1; omega
        (refine gSeq_do rfl (by rfl) (fun K hK => ?_)); go_simp
        refine (plus_any (digB B64 3 H) [numB 256 (S.take 8), numB 256 ((S.drop 8).take 8), numB 256 ((S.drop 16).take 8)] _ (length_digB _ _ _) rfl (ok_digB (by decide) _ _) hS3).mono ?_
        rintro e w11 ⟨rfl, hg11⟩
        rw [num3 H HH.out.1 hb1, num24 S HSL.out]
        refine hK _ _ hg11 ?_; clear hK K; (try simp only [Act.put, Act.eval, List.setIfInBounds_toArray, List.set_cons_zero, List.set_cons_succ, Array.getD_eq_getD_getElem?, List.getElem?_toArray, List.getElem?_cons_succ, List.getElem?_cons_zero, Option.getD_some])
        (refine gSeq_do rfl (by rfl) (fun K hK => ?_)); go_simp
        refine (times_any (digB B64 3 (H + numB 256 S)) [rA key, rB key] _ (length_digB _ _ _) (ok_digB (by decide) _ _) rfl (fun y hy => by
          have hy' : y = rA key ∨ y = rB key := by simpa only [List.mem_cons, List.not_mem_nil, or_false] using hy
          rcases hy' with rfl | rfl
          · exact HKR.out.1
          · exact HKR.out.2.1)).mono ?_
        rintro e w12 ⟨rfl, hg12⟩
        rw [num3 (H + numB 256 S) hb0 hb2, show numB B64 [rA key, rB key] = keyR key by simp [numB, keyR]]
        refine hK _ _ hg12 ?_; clear hK K; (try simp only [Act.put, Act.eval, List.setIfInBounds_toArray, List.set_cons_zero, List.set_cons_succ, Array.getD_eq_getD_getElem?, List.getElem?_toArray, List.getElem?_cons_succ, List.getElem?_cons_zero, Option.getD_some])
        obtain ⟨H', hH'⟩ : ∃ H', H' = foldI ((H + numB 256 S) * keyR key % B64 ^ 4) := ⟨_, rfl⟩
        rw [← hH'] at hps ⊢
        have HH' : Hid (0 ≤ H' ∧ H' < 1786482426334926933182716689016783110144 ∧ H' % PP = polyV (keyR key) bs (k + 1)) := by
          refine ⟨hps.1, hps.2.1, ?_⟩
          rw [hps.2.2, HSN.out]; rfl
        have g12 := grown_trans hg11 hg12
        have R0' := Lib.hid (row_keep R0.out g12)
        have R1' := Lib.hid (row_keep R1.out g12)
        have RR' := Lib.hid (row_keep RR.out g12)
        have RH' := Lib.hid (row_keep RH.out g12)
        have HR12 := Lib.hid (HR9.out.kept g12)
        have HG12 := Lib.hid (grown_trans HG9.out g12)
        clear hps hb0 hb1 hb2 hS3 hH' hg11 hg12 g12 R0 R1 RR RH HR9 HG9 RB0
        (refine gSeq_store_range rfl (by rfl) _ _ _ rfl q 0 (encK .u64 (digB B64 3 H')) rfl rfl _ _ RH'.out (by rw [size_encK, size_encK, length_digB, length_digB]; decide) (by rw [size_encK, length_digB]; kernel_rfl) (one_encK _ _) ?_)
        intro w13 r13 g13
        rw [putAt_all _ _ (by rw [Array.length_toList, size_encK, size_encK, length_digB, length_digB])] at r13
        have RH : Hid (w13.heap[q]? = some (.cells (encK .u64 (digB B64 3 H')) T3 (0, 0))) := r13
        have R0 := Lib.hid ((g13.block _ (row_lt R0'.out) (by intro e; injection e with e; have := HBQ.out; have := HN.out; omega)).trans R0'.out)
        have R1 := Lib.hid ((g13.block _ (row_lt R1'.out) (by intro e; injection e with e; have := HBQ.out; have := HN.out; omega)).trans R1'.out)
        have RR := Lib.hid ((g13.block _ (row_lt RR'.out) (by intro e; injection e with e; have := HBQ.out; omega)).trans RR'.out)
        have HR13 := Lib.hid (rd_off HR12.out HQO.out g13)
        have HG13 := Lib.hid (grown_row HG12.out g13 (fun j hj => by injection hj with hj; have := HP.out; have := HN.out; have := HBQ.out; omega))
        clear r13 g13 R0' R1' RR' RH' HR12 HG12
        (try simp only [Act.put, Act.eval, List.setIfInBounds_toArray, List.set_cons_zero, List.set_cons_succ, Array.getD_eq_getD_getElem?, List.getElem?_toArray, List.getElem?_cons_succ, List.getElem?_cons_zero, Option.getD_some])
        refine gSeq_nil ?_
        go_wp2_with (refine wpList_slice rfl _ _ _ _ rfl _ rfl _ _ rfl rfl _ (run_sub_l Try.underlying24 rfl (len' : Int) (len') (by first | rfl | decide) (by omega)) ?_)
        have hrd := rd_drop' (cap := cap') HR13.out (len') (by omega) hlc
        rw [Nat.sub_self] at hrd
        rw [HDR.out] at hrd
        have HRD := Lib.hid hrd
        have hcap2 := HCM2.out
        have hlen2 := HLEN.out
        exact ⟨⟨k + 1, subAt ad' (len') cap', 0, cap' - len', H', rfl, by omega, by omega, by omega, by omega, HRD, subAt_block HQO.out _ _, HH', R0.out, R1.out, RR.out, RH.out, HG13.out⟩, by simp; omega⟩
    · have hzero : len' = 0 := by omega
      have hI : (len' : Int) = 0 := by omega
      have hkk : k = (bs.length + 15) / 16 := by have := HLEN.out; omega
      have hbH : H < B64 ^ 3 := Int.lt_trans HH.out.2.1 (by decide)
      have HHN := Lib.hid (num3 H HH.out.1 hbH)
      clear hpos hbH
      subst hzero
      go_wp2_with (refine wpList_load_row rfl T3 (.tmp 6) rfl q rfl _ _ _ _ RH.out Try.underlying61 rfl (by rw [size_encK, length_digB]; kernel_rfl) ?_)
      refine (full_any _ _ (length_digB _ _ _) (ok_digB (by decide) _ _)).mono ?_
      rintro e w6 ⟨rfl, hg6⟩
      rw [HHN.out, HH.out.2.2]
      have R0' := Lib.hid (row_keep R0.out hg6)
      have R1' := Lib.hid (row_keep R1.out hg6)
      have HG6 := Lib.hid (grown_trans HG.out hg6)
      clear hg6 R0 R1 RR RH HG HR
      obtain ⟨V, hV⟩ : ∃ V, V = polyV (keyR key) bs k := ⟨_, rfl⟩
      have hVr : 0 ≤ V ∧ V < PP := by rw [hV]; exact polyV_range _ _ _
      rw [← hV]
      have hS := tail_parts HK.out
      obtain ⟨T, hT⟩ : ∃ T, T = V + numB 256 (key.drop 16) := ⟨_, rfl⟩
      have HT := Lib.hid (show T = tagV key (catB L) by rw [hT, tagV, ← HBS.out, ← hkk, ← hV])
      obtain ⟨S0, hS0⟩ : ∃ x, x = numB 256 ((key.drop 16).take 8) := ⟨_, rfl⟩
      obtain ⟨S1, hS1⟩ : ∃ x, x = numB 256 ((key.drop 24).take 8) := ⟨_, rfl⟩
      have hS0r := num8 (ok_drop HKO.out 16)
      have hS1r := num8 (ok_drop HKO.out 24)
      rw [← hS0] at hS0r hS
      rw [← hS1] at hS1r hS
      obtain ⟨x0, hx0⟩ : ∃ x, x = V % B64 := ⟨_, rfl⟩
      obtain ⟨x1, hx1⟩ : ∃ x, x = V / B64 % B64 := ⟨_, rfl⟩
      have hfull : digB B64 2 V = [x0, x1] := by rw [hx0, hx1]; rfl
      rw [hfull]
      have hx0r : 0 ≤ x0 ∧ x0 < 18446744073709551616 := by rw [hx0]; exact mod_small V
      have hx1r : 0 ≤ x1 ∧ x1 < 18446744073709551616 := by rw [hx1]; exact mod_small (V / B64)
      have HLIM := Lib.hid (show (x0 + S0) % 18446744073709551616 = T % B64 ∧ (x1 + S1 + (x0 + S0) / 18446744073709551616) % 18446744073709551616 = T / B64 % B64 by
        have e : B64 = 18446744073709551616 := rfl
        rw [hT, hS, hx0, hx1, e]
        constructor <;> omega)
      have HS0 := Lib.hid hS0
      have HS1 := Lib.hid hS1
      clear hV hVr hS hT hS0 hS1 hx0 hx1 hfull HHN HH hkk
      obtain ⟨t, ht⟩ : ∃ t, w6.heap.size = t := ⟨_, rfl⟩
      have HTS := Lib.hid ht
      have HPT := Lib.hid (show p + 1 < t by rw [← ht]; exact row_lt R1'.out)
      clear ht
      go_wp2_with (refine wpList_store_range rfl T2 (.tmp 10) (.tmp 54) rfl t 0 (encK .u64 [x0, x1]) (by simp [Act.eval, HTS.out]) rfl _ (encK .u64 (List.replicate 2 0)) (alloc_at _ _ HTS.out.symm) (Nat.le_refl 2) (show _ = some 2 by kernel_rfl) (one_encK _ _) ?_)
      rw [HTS.out]
      intro w7 r7 g7
      rw [putAt_all _ _ (by rfl)] at r7
      have RX : Hid (w7.heap[t]? = some (.cells (encK .u64 [x0, x1]) T2 (0, 0))) := r7
      have R0 := Lib.hid ((g7.block _ (by have := HPT.out; have := HTS.out; rw [alloc_size]; omega) (by intro e; injection e with e; have := HPT.out; omega)).trans ((alloc_up _ _ (row_lt R0'.out)).trans R0'.out))
      have R1 := Lib.hid ((g7.block _ (by have := HPT.out; have := HTS.out; rw [alloc_size]; omega) (by intro e; injection e with e; have := HPT.out; omega)).trans ((alloc_up _ _ (row_lt R1'.out)).trans R1'.out))
      have HG7 := Lib.hid (grown_row (grown_alloc HG6.out _) g7 (fun j hj => by injection hj with hj; have := HP.out; have := HPT.out; omega))
      clear r7 g7 R0' R1' HG6
      go_wp2_with fail
      refine wp_region_grow [(2, 0), (1, 1), (2, 2), (0, 3), (2, 4), (2, 5), (2, 6), (2, 7), (2, 8), (2, 9)] (by kernel_rfl) (by kernel_rfl) (fun _ _ _ _ _ h => h) (fun _ _ _ _ _ h => h) ?_
      refine gSeq_name fun w8 hw8 => ?_
      have g8 : w7.grownBy w8 none := by rw [hw8]; exact grown_drew _ _
      have RX' := Lib.hid (row_keep RX.out g8)
      have R0' := Lib.hid (row_keep R0.out g8)
      have R1' := Lib.hid (row_keep R1.out g8)
      have HG8 := Lib.hid (grown_trans HG7.out g8)
      have E0 := Lib.hid (show w8.cell? ⟨t, 0, none⟩ = some (.int .u64 x0) from rowK_at RX'.out 0 (show 0 < 2 by decide))
      clear hw8 g8 RX R0 R1 HG7
      (repeat (first | (refine gSeq_skip rfl (by rfl) ?_; (try simp only [Act.put, Act.eval, List.setIfInBounds_toArray, List.set_cons_zero, List.set_cons_succ, Array.getD_eq_getD_getElem?, List.getElem?_toArray, List.getElem?_cons_succ, List.getElem?_cons_zero, Option.getD_some])) | (refine gSeq_move _ rfl rfl (by rfl) ?_; (try simp only [Act.put, Act.eval, List.setIfInBounds_toArray, List.set_cons_zero, List.set_cons_succ, Array.getD_eq_getD_getElem?, List.getElem?_toArray, List.getElem?_cons_succ, List.getElem?_cons_zero, Option.getD_some])) | (refine gSeq_assign _ rfl rfl (by rfl) ?_; (try simp only [Act.put, Act.eval, List.setIfInBounds_toArray, List.set_cons_zero, List.set_cons_succ, Array.getD_eq_getD_getElem?, List.getElem?_toArray, List.getElem?_cons_succ, List.getElem?_cons_zero, Option.getD_some])) | ((first | (refine gSeq_slice rfl (by rfl) _ _ _ _ rfl _ rfl _ _ rfl rfl _ (sliceAt_from _ 32 5 Try.underlying22 rfl p 0 16 _ rfl (by decide)) ?_; (try simp only [Act.put, Act.eval, List.setIfInBounds_toArray, List.set_cons_zero, List.set_cons_succ, Array.getD_eq_getD_getElem?, List.getElem?_toArray, List.getElem?_cons_succ, List.getElem?_cons_zero, Option.getD_some])))) | (refine gSeq_pure rfl (by rfl) ?_ ?_ ?_; (rotate_left; (intro w'; (try (have d1 := hG.cell E0.out (by simp))); go_simp; (first | done | with_reducible rfl)); (try simp only [Act.put, Act.eval, List.setIfInBounds_toArray, List.set_cons_zero, List.set_cons_succ, Array.getD_eq_getD_getElem?, List.getElem?_toArray, List.getElem?_cons_succ, List.getElem?_cons_zero, Option.getD_some]))) | (refine gSeq_still rfl (by rfl) ?_ ?_ ?_; (rotate_left; (intro w' hG; (try (have d1 := hG.cell E0.out (by simp))); go_simp; (first | done | with_reducible rfl)); (try simp only [Act.put, Act.eval, List.setIfInBounds_toArray, List.set_cons_zero, List.set_cons_succ, Array.getD_eq_getD_getElem?, List.getElem?_toArray, List.getElem?_cons_succ, List.getElem?_cons_zero, Option.getD_some])))))
      (refine gSeq_do rfl (by rfl) (fun K hK => ?_)); go_simp
      refine (half_any (some ⟨p, 16, none⟩) 16 16 (key.drop 16) _ (rd_row_from (m := 16) R0'.out 16 (by rw [HK.out]; decide) (by rw [HK.out])) (ok_drop HKO.out 16) (by decide)).mono ?_
      rintro e w9 ⟨rfl, hw9⟩
      rw [← HS0.out]
      refine hK _ _ (by rw [hw9]; exact grown_refl _ _) ?_; clear hK K; (try simp only [Act.put, Act.eval, List.setIfInBounds_toArray, List.set_cons_zero, List.set_cons_succ, Array.getD_eq_getD_getElem?, List.getElem?_toArray, List.getElem?_cons_succ, List.getElem?_cons_zero, Option.getD_some])
      subst hw9
      have hadd := fun w => add64_run x0 S0 0 hx0r.1 hS0r.1 (by decide) (by decide) w
      (repeat (first | (refine gSeq_skip rfl (by rfl) ?_; (try simp only [Act.put, Act.eval, List.setIfInBounds_toArray, List.set_cons_zero, List.set_cons_succ, Array.getD_eq_getD_getElem?, List.getElem?_toArray, List.getElem?_cons_succ, List.getElem?_cons_zero, Option.getD_some])) | (refine gSeq_move _ rfl rfl (by rfl) ?_; (try simp only [Act.put, Act.eval, List.setIfInBounds_toArray, List.set_cons_zero, List.set_cons_succ, Array.getD_eq_getD_getElem?, List.getElem?_toArray, List.getElem?_cons_succ, List.getElem?_cons_zero, Option.getD_some])) | (refine gSeq_assign _ rfl rfl (by rfl) ?_; (try simp only [Act.put, Act.eval, List.setIfInBounds_toArray, List.set_cons_zero, List.set_cons_succ, Array.getD_eq_getD_getElem?, List.getElem?_toArray, List.getElem?_cons_succ, List.getElem?_cons_zero, Option.getD_some])) | (fail) | (refine gSeq_pure rfl (by rfl) ?_ ?_ ?_; (rotate_left; (intro w'; (skip); go_simp; (first | done | with_reducible rfl)); (try simp only [Act.put, Act.eval, List.setIfInBounds_toArray, List.set_cons_zero, List.set_cons_succ, Array.getD_eq_getD_getElem?, List.getElem?_toArray, List.getElem?_cons_succ, List.getElem?_cons_zero, Option.getD_some]))) | (refine gSeq_still rfl (by rfl) ?_ ?_ ?_; (rotate_left; (intro w' hG; (skip); go_simp; (first | done | with_reducible rfl)); (try simp only [Act.put, Act.eval, List.setIfInBounds_toArray, List.set_cons_zero, List.set_cons_succ, Array.getD_eq_getD_getElem?, List.getElem?_toArray, List.getElem?_cons_succ, List.getElem?_cons_zero, Option.getD_some])))))
      refine gSeq_nil ?_
      have hc0 := div_small (x0 + S0) (by omega) (by have e : B64 = 18446744073709551616 := rfl; omega)
      obtain ⟨a0, ha0⟩ : ∃ z, z = (x0 + S0) % 18446744073709551616 := ⟨_, rfl⟩
      obtain ⟨c0, hcc⟩ : ∃ z, z = (x0 + S0) / 18446744073709551616 := ⟨_, rfl⟩
      rw [show (x0 + S0) / B64 = c0 from hcc.symm] at hc0
      rw [← ha0, ← hcc] at HLIM ⊢
      clear ha0 hcc hadd
      go_wp2_with fail
      refine wp_region_grow [(2, 0), (1, 1), (2, 2), (2, 4), (0, 3), (2, 5), (2, 6), (2, 7), (2, 8), (2, 9), (2, 10)] (by kernel_rfl) (by kernel_rfl) (fun _ _ _ _ _ h => h) (fun _ _ _ _ _ h => h) ?_
      refine gSeq_name fun w10 hw10 => ?_
      have g10 : w9.grownBy w10 none := by rw [hw10]; exact grown_drew _ _
      have RX := Lib.hid (row_keep RX'.out g10)
      have R0 := Lib.hid (row_keep R0'.out g10)
      have R1 := Lib.hid (row_keep R1'.out g10)
      have HG10 := Lib.hid (grown_trans HG8.out g10)
      have E1 := Lib.hid (show w10.cell? ⟨t, 1, none⟩ = some (.int .u64 x1) from rowK_at RX.out 1 (show 1 < 2 by decide))
      clear hw10 g10 RX' R0' R1' HG8 E0
      (repeat (first | (refine gSeq_skip rfl (by rfl) ?_; (try simp only [Act.put, Act.eval, List.setIfInBounds_toArray, List.set_cons_zero, List.set_cons_succ, Array.getD_eq_getD_getElem?, List.getElem?_toArray, List.getElem?_cons_succ, List.getElem?_cons_zero, Option.getD_some])) | (refine gSeq_move _ rfl rfl (by rfl) ?_; (try simp only [Act.put, Act.eval, List.setIfInBounds_toArray, List.set_cons_zero, List.set_cons_succ, Array.getD_eq_getD_getElem?, List.getElem?_toArray, List.getElem?_cons_succ, List.getElem?_cons_zero, Option.getD_some])) | (refine gSeq_assign _ rfl rfl (by rfl) ?_; (try simp only [Act.put, Act.eval, List.setIfInBounds_toArray, List.set_cons_zero, List.set_cons_succ, Array.getD_eq_getD_getElem?, List.getElem?_toArray, List.getElem?_cons_succ, List.getElem?_cons_zero, Option.getD_some])) | ((first | (refine gSeq_slice rfl (by rfl) _ _ _ _ rfl _ rfl _ _ rfl rfl _ (sliceAt_from _ 32 5 Try.underlying22 rfl p 0 24 _ rfl (by decide)) ?_; (try simp only [Act.put, Act.eval, List.setIfInBounds_toArray, List.set_cons_zero, List.set_cons_succ, Array.getD_eq_getD_getElem?, List.getElem?_toArray, List.getElem?_cons_succ, List.getElem?_cons_zero, Option.getD_some])))) | (refine gSeq_pure rfl (by rfl) ?_ ?_ ?_; (rotate_left; (intro w'; (try (have d1 := hG.cell E1.out (by simp))); go_simp; (first | done | with_reducible rfl)); (try simp only [Act.put, Act.eval, List.setIfInBounds_toArray, List.set_cons_zero, List.set_cons_succ, Array.getD_eq_getD_getElem?, List.getElem?_toArray, List.getElem?_cons_succ, List.getElem?_cons_zero, Option.getD_some]))) | (refine gSeq_still rfl (by rfl) ?_ ?_ ?_; (rotate_left; (intro w' hG; (try (have d1 := hG.cell E1.out (by simp))); go_simp; (first | done | with_reducible rfl)); (try simp only [Act.put, Act.eval, List.setIfInBounds_toArray, List.set_cons_zero, List.set_cons_succ, Array.getD_eq_getD_getElem?, List.getElem?_toArray, List.getElem?_cons_succ, List.getElem?_cons_zero, Option.getD_some])))))
      (refine gSeq_do rfl (by rfl) (fun K hK => ?_)); go_simp
      refine (half_any (some ⟨p, 24, none⟩) 8 8 (key.drop 24) _ (rd_row_from (m := 8) R0.out 24 (by rw [HK.out]; decide) (by rw [HK.out])) (ok_drop HKO.out 24) (by decide)).mono ?_
      rintro e w11 ⟨rfl, hw11⟩
      rw [← HS1.out]
      refine hK _ _ (by rw [hw11]; exact grown_refl _ _) ?_; clear hK K; (try simp only [Act.put, Act.eval, List.setIfInBounds_toArray, List.set_cons_zero, List.set_cons_succ, Array.getD_eq_getD_getElem?, List.getElem?_toArray, List.getElem?_cons_succ, List.getElem?_cons_zero, Option.getD_some])
      subst hw11
      have hadd := fun w => add64_run x1 S1 c0 hx1r.1 hS1r.1 hc0.1 hc0.2 w
      (repeat (first | (refine gSeq_skip rfl (by rfl) ?_; (try simp only [Act.put, Act.eval, List.setIfInBounds_toArray, List.set_cons_zero, List.set_cons_succ, Array.getD_eq_getD_getElem?, List.getElem?_toArray, List.getElem?_cons_succ, List.getElem?_cons_zero, Option.getD_some])) | (refine gSeq_move _ rfl rfl (by rfl) ?_; (try simp only [Act.put, Act.eval, List.setIfInBounds_toArray, List.set_cons_zero, List.set_cons_succ, Array.getD_eq_getD_getElem?, List.getElem?_toArray, List.getElem?_cons_succ, List.getElem?_cons_zero, Option.getD_some])) | (refine gSeq_assign _ rfl rfl (by rfl) ?_; (try simp only [Act.put, Act.eval, List.setIfInBounds_toArray, List.set_cons_zero, List.set_cons_succ, Array.getD_eq_getD_getElem?, List.getElem?_toArray, List.getElem?_cons_succ, List.getElem?_cons_zero, Option.getD_some])) | (fail) | (refine gSeq_pure rfl (by rfl) ?_ ?_ ?_; (rotate_left; (intro w'; (skip); go_simp; (first | done | with_reducible rfl)); (try simp only [Act.put, Act.eval, List.setIfInBounds_toArray, List.set_cons_zero, List.set_cons_succ, Array.getD_eq_getD_getElem?, List.getElem?_toArray, List.getElem?_cons_succ, List.getElem?_cons_zero, Option.getD_some]))) | (refine gSeq_still rfl (by rfl) ?_ ?_ ?_; (rotate_left; (intro w' hG; (skip); go_simp; (first | done | with_reducible rfl)); (try simp only [Act.put, Act.eval, List.setIfInBounds_toArray, List.set_cons_zero, List.set_cons_succ, Array.getD_eq_getD_getElem?, List.getElem?_toArray, List.getElem?_cons_succ, List.getElem?_cons_zero, Option.getD_some])))))
      refine gSeq_nil ?_
      obtain ⟨d0, hd0⟩ : ∃ z, z = (x1 + S1 + c0) % 18446744073709551616 := ⟨_, rfl⟩
      rw [← hd0] at HLIM ⊢
      clear hd0 hadd hc0 hx0r hx1r hS0r hS1r
      obtain ⟨y0, hy0⟩ : ∃ z, z = a0 := ⟨_, rfl⟩
      obtain ⟨u, hu⟩ : ∃ u, w11.heap.size = u := ⟨_, rfl⟩
      have HUS := Lib.hid hu
      have HPU := Lib.hid (show p + 1 < u by rw [← hu]; exact row_lt R1.out)
      clear hu hy0
      go_wp2_with fail
      rw [HUS.out]
      go_loopw [72] (fun v wr' => ∃ j : Nat, j ≤ 8 ∧ v = .int .i64 j ∧ wr'.heap[p + 1]? = some (.cells (encK .u8 (List.replicate 16 0)) A16 (0, 0)) ∧
        wr'.heap[u]? = some (.cells (encK .u8 (halfL j T ++ halfL j (T / B64))) A16 (0, 0)) ∧ w.grownBy wr' none) (fun v _ => 8 - (intOf v).toNat)
      case atStart =>
        exact ⟨0, by omega, rfl, (alloc_up _ _ (row_lt R1.out)).trans R1.out, alloc_at _ _ HUS.out.symm, grown_alloc HG10.out _⟩
      case round =>
        obtain ⟨j, hj, rfl, r1, r2, hg⟩ := hrel
        clear R1 HG10
        have R1 := Lib.hid r1
        have R2 := Lib.hid r2
        have HG := Lib.hid hg
        clear r1 r2 hg
        by_cases hlj : j < 8
        · have hj0 : 0 ≤ (j : Int) := by omega
          have hj8 : (j : Int) < 8 := by omega
          have hw8 : (8 : Int) + (j : Int) ≤ 16 := by omega
          have HF0 := Lib.hid (show a0 / 2 ^ (8 * j) % 256 = T / 256 ^ j % 256 by rw [HLIM.out.1]; exact limb_byte T j hlj)
          have HF1 := Lib.hid (show d0 / 2 ^ (8 * j) % 256 = T / B64 / 256 ^ j % 256 by rw [HLIM.out.2]; exact limb_byte (T / B64) j hlj)
          have HL1 := Lib.hid (length_halfL j T hj)
          have HL2 := Lib.hid (length_halfL j (T / B64) hj)
          have HL3 := Lib.hid (length_halfL (j + 1) T hlj)
          go_wp2_with (refine wpList_store_cell rfl _ (.tmp 90) (.tmp 83) rfl u j _ rfl rfl _ _ R2.out (by rw [size_encK, List.length_append, HL1.out, HL2.out]; omega) (by kernel_rfl) rfl rfl ?_)
          intro w12 r12 g12
          rw [HF0.out] at r12
          have r13 := rowK_set r12
          rw [List.set_append_left _ _ (by rw [HL1.out]; exact hlj), halfL_set j T hlj] at r13
          have R2' := Lib.hid r13
          have R1' := Lib.hid ((g12.block _ (row_lt R1.out) (by intro e; injection e with e; have := HPU.out; omega)).trans R1.out)
          have HG' := Lib.hid (grown_row HG.out g12 (fun k hk => by injection hk with hk; have := HP.out; have := HPU.out; omega))
          clear r12 r13 g12 R1 R2 HG
          go_wp2_with (refine wpList_store_cell rfl _ (.tmp 91) (.tmp 89) rfl u (8 + j) _ rfl rfl _ _ R2'.out (by rw [size_encK, List.length_append, HL3.out, HL2.out]; omega) (by kernel_rfl) rfl rfl ?_)
          intro w14 r14 g14
          rw [HF1.out] at r14
          have r15 := rowK_set r14
          rw [List.set_append_right _ _ (by rw [HL3.out]; omega), HL3.out, show 8 + j - 8 = j by omega, halfL_set j (T / B64) hlj] at r15
          have R2 := Lib.hid r15
          have R1 := Lib.hid ((g14.block _ (row_lt R1'.out) (by intro e; injection e with e; have := HPU.out; omega)).trans R1'.out)
          have HG := Lib.hid (grown_row HG'.out g14 (fun k hk => by injection hk with hk; have := HP.out; have := HPU.out; omega))
          clear r14 r15 g14 R1' R2' HG' hw8
          go_wp2_with fail
          exact ⟨⟨j + 1, by omega, by go_num, R1.out, R2.out, HG.out⟩, by simp [intOf]; omega⟩
        · have : j = 8 := by omega
          subst this
          have R5 := R2.out
          rw [show halfL 8 T ++ halfL 8 (T / B64) = digB 256 16 T by rw [halfL_8, halfL_8]; exact (digB_add 256 (by decide) 8 8 T).symm, HT.out] at R5
          have R6 := Lib.hid R5
          clear R5 R2
          go_wp2_with (first | (refine wpList_load_row rfl A16 (.tmp 15) rfl (u) rfl _ _ _ _ R6.out Try.underlying40 rfl (by rw [size_encK, length_digB]; kernel_rfl) ?_) | (refine wpList_store_range rfl A16 (.tmp 4) (.tmp 93) rfl (p + 1) 0 (encK .u8 (digB 256 16 (tagV key (catB L)))) rfl rfl _ _ R1.out (by rw [size_encK, size_encK, length_digB]; decide) (by rw [size_encK, length_digB]; kernel_rfl) (one_encK _ _) ?_))
          intro w8 r8 g8
          rw [putAt_all _ _ (by rw [Array.length_toList, size_encK, size_encK, length_digB]; rfl)] at r8
          have R9 : Hid (w8.heap[p + 1]? = some (.cells (encK .u8 (digB 256 16 (tagV key (catB L)))) A16 (0, 0))) := r8
          have HG9 : Hid (w.grownBy w8 none) := grown_row HG.out g8 (fun k hk => by injection hk with hk; have := HP.out; omega)
          clear r8 g8
          go_wp2_with fail
          exact bodyPost_ret (results_cell_row rfl _ _ (p + 1) _ _ _ _ rfl R9.out Try.underlying40 rfl (by rw [size_encK, length_digB]; kernel_rfl)) rfl ⟨rfl, HG9.out⟩
end Go.Proofs.Ythhijeokeljcjaa
