/- What bytes of version 6 are: the program's parse6. -/
import Derived.Test.YtmankjhopfilaaaPkL
namespace Go.Proofs.Ytmankjhopfilaaa
set_option linter.unusedVariables false
set_option linter.unusedSimpArgs false
open Go.RowKit Go.Proofs.YtmankjhopfilaaaL

def pk6 (xs : List Int) : Pk := ⟨true, beV (xs.take 4) / 1048576 % 256, beV (xs.take 4) % 1048576, 0, 0, xs.getD 7 0, xs.getD 6 0, ad6 (sec xs 8 24), ad6 (sec xs 24 40)⟩
def par6 (xs : List Int) : Rs := if xs.length < 40 ∨ beV (sec xs 4 6) ≠ xs.length - 40 then badR 20 else ⟨0, pk6 xs, xs.drop 40⟩
theorem u64_and20 (x : Int) (h0 : 0 ≤ x) (h1 : x < 18446744073709551616) : bits .and .u64 x 1048575 = x % 1048576 := by
  obtain ⟨X, rfl⟩ := Int.eq_ofNat_of_zero_le h0
  rw [u64_and _ 1048575 h0 h1 (by decide) (by decide), Int.toNat_natCast, show (1048575 : Int).toNat = 2 ^ 20 - 1 from rfl, Nat.and_two_pow_sub_one_eq_mod]
  rfl

set_option maxHeartbeats 8000000 in
set_option maxRecDepth 100000 in
theorem parse6_any (ad : Option Addr) (n c : Nat) (xs : List Int) (w : World) (hb : (⟨ad, n, c, xs⟩ : Bs).ok w) (hcn : n ≤ c) :
    Calls Try.prog 32 #[.slice ad n c] w fun e w' => (par6 xs).ret w w' e := by
  have HB := Lib.hid (fun (w' : World) (g : w.grownBy w' none) => Bs.ok_keep hb g)
  have HL := Lib.hid (show xs.length = n from hb.1.1)
  have HO := Lib.hid (show okB 256 xs from hb.2.1)
  have hn3 : (n : Int) ≤ 3000 := by have h : n ≤ 3000 := hb.2.2.2; omega
  obtain ⟨R, hR⟩ : ∃ R, R = par6 xs := ⟨_, rfl⟩
  rw [← hR]
  have HR := Lib.hid hR
  clear hb hR
  have HK := Lib.hid (own_start w)
  by_cases h40 : n < 40
  · have hR2 : R = badR 20 := by rw [HR.out, par6, if_pos (.inl (by rw [HL.out]; exact h40))]
    rw [hR2]
    show Calls Try.prog _ #[.slice ad n c] w fun e w' => ∃ a c, e = .returned (.tuple #[.agg #[.bool false, .int .u8 0, .int .u32 0, .int .u16 0, .int .u16 0, .int .u8 0, .int .u8 0, .bool false, .int .u64 0, .int .u64 0, .bool false, .int .u64 0, .int .u64 0, .slice a 0 c], .int .i64 20]) ∧ w'.ownsRow w.heap.size 5 1 (.slice a 0 c) 0 [] ∧ w.grownBy w' none
    clear hR2 HR
    have hn40 : (n : Int) < 40 := by omega
    clear h40
    go_enter Try.func32, Try.ntmps32
    go_upto_region 1 with fail
    have hk := own_alloc HK.out (Obj.cells #[Value.bool false, .int .u8 0, .int .u32 0, .int .u16 0, .int .u16 0, .int .u8 0, .int .u8 0, .bool false, .int .u64 0, .int .u64 0, .bool false, .int .u64 0, .int .u64 0, .slice none 0 0] 29 (0, 0))
    obtain ⟨p, hp⟩ : ∃ p, p = w.heap.size := ⟨_, rfl⟩
    rw [← hp] at hk ⊢
    clear hp
    clear HK
    have HK := Lib.hid hk
    clear hk
    generalize w.alloc (Obj.cells #[Value.bool false, .int .u8 0, .int .u32 0, .int .u16 0, .int .u16 0, .int .u8 0, .int .u8 0, .bool false, .int .u64 0, .int .u64 0, .bool false, .int .u64 0, .int .u64 0, .slice none 0 0] 29 (0, 0)) = w1 at HK ⊢
    go_wp2_with (refine wpList_put_blk rfl HK.out 29 _ _ rfl p #[.bool false, .int .u8 0, .int .u32 0, .int .u16 0, .int .u16 0, .int .u8 0, .int .u8 0, .bool false, .int .u64 0, .int .u64 0, .bool false, .int .u64 0, .int .u64 0, .slice none 0 0] rfl rfl _ _ (.here _) rfl (by kernel_rfl) (by simp [Value.oneCell']) ?_; (intro wn hkn; have HKN := Lib.hid hkn; clear hkn; clear HK; have HK := HKN; clear HKN))
    exact bodyPost_ret (results_cell_tmp_row rfl _ _ p _ _ _ _ rfl (HK.out.at (.here _)) Try.underlying29 rfl (by kernel_rfl)) rfl ⟨none, 0, rfl, own_nil_row _ _ _, HK.out.grown⟩
  have hn40 : ¬ (n : Int) < 40 := by omega
  have h40' : 40 ≤ n := by omega
  clear h40
  obtain ⟨x, rfl⟩ : ∃ x, ad = some x := by
    obtain ⟨x, hx, -⟩ := (HB.out w (grown_refl _ _)).1.2 0 (show 0 < n by omega)
    exact ⟨x, hx⟩
  obtain ⟨V, hV⟩ : ∃ V, V = beV (sec xs 4 6) := ⟨_, rfl⟩
  have HV := Lib.hid hV
  clear hV
  have hc4 : ¬ c = 4 := by omega
  have hc6 : (6 : Int) ≤ c := by omega
  have hcn2 : (n : Int) ≤ c := by omega
  have HWN := Lib.hid (show IntKind.u64.wrap ((n : Int) - 40) = n - 40 by rw [IntKind.wrap_u64]; omega)
  by_cases hv : V = n - 40
  case neg =>
    have hR2 : R = badR 20 := by rw [HR.out, par6, if_pos (.inr (by rw [← HV.out, HL.out]; exact hv))]
    rw [hR2]
    show Calls Try.prog _ #[.slice (some x) n c] w fun e w' => ∃ a c, e = .returned (.tuple #[.agg #[.bool false, .int .u8 0, .int .u32 0, .int .u16 0, .int .u16 0, .int .u8 0, .int .u8 0, .bool false, .int .u64 0, .int .u64 0, .bool false, .int .u64 0, .int .u64 0, .slice a 0 c], .int .i64 20]) ∧ w'.ownsRow w.heap.size 5 1 (.slice a 0 c) 0 [] ∧ w.grownBy w' none
    clear hR2 HR
    have hnv : (V != (n : Int) - 40) = true := by simp [hv]
    clear hv
    go_enter Try.func32, Try.ntmps32
    go_upto_region 1 with fail
    have hk := own_alloc HK.out (Obj.cells #[Value.bool false, .int .u8 0, .int .u32 0, .int .u16 0, .int .u16 0, .int .u8 0, .int .u8 0, .bool false, .int .u64 0, .int .u64 0, .bool false, .int .u64 0, .int .u64 0, .slice none 0 0] 29 (0, 0))
    obtain ⟨p, hp⟩ : ∃ p, p = w.heap.size := ⟨_, rfl⟩
    rw [← hp] at hk ⊢
    clear hp
    clear HK
    have HK := Lib.hid hk
    clear hk
    generalize w.alloc (Obj.cells #[Value.bool false, .int .u8 0, .int .u32 0, .int .u16 0, .int .u16 0, .int .u8 0, .int .u8 0, .bool false, .int .u64 0, .int .u64 0, .bool false, .int .u64 0, .int .u64 0, .slice none 0 0] 29 (0, 0)) = w1 at HK ⊢
    have hr0 : Rd .u8 w1 (some x) n xs := (HB.out _ HK.out.grown).1
    have hr := rd_sub hr0 4 6 c (by decide) (by omega) (by omega)
    rw [if_neg hc4] at hr
    have HRD := Lib.hid hr
    clear hr hr0
    go_wp2_with fail
    refine (value_any _ 2 _ (sec xs 4 6) w1 HRD.out (ok_sec HO.out 4 6) (by decide)).mono ?_
    rintro e w2 ⟨rfl, rfl⟩
    rw [← HV.out]
    have hwn := HWN.out
    go_wp2_with (refine wpList_put_blk rfl HK.out 29 _ _ rfl p #[.bool false, .int .u8 0, .int .u32 0, .int .u16 0, .int .u16 0, .int .u8 0, .int .u8 0, .bool false, .int .u64 0, .int .u64 0, .bool false, .int .u64 0, .int .u64 0, .slice none 0 0] rfl rfl _ _ (.here _) rfl (by kernel_rfl) (by simp [Value.oneCell']) ?_; (intro wn hkn; have HKN := Lib.hid hkn; clear hkn; clear HK; have HK := HKN; clear HKN))
    exact bodyPost_ret (results_cell_tmp_row rfl _ _ p _ _ _ _ rfl (HK.out.at (.here _)) Try.underlying29 rfl (by kernel_rfl)) rfl ⟨none, 0, rfl, own_nil_row _ _ _, HK.out.grown⟩
  have hR2 : R = ⟨0, pk6 xs, xs.drop 40⟩ := by
    rw [HR.out, par6, if_neg]
    rw [← HV.out, HL.out]
    rintro (h | h)
    · omega
    · exact h hv
  obtain ⟨b6, hb6⟩ : ∃ b, b = xs.getD 6 0 := ⟨_, rfl⟩
  obtain ⟨b7, hb7⟩ : ∃ b, b = xs.getD 7 0 := ⟨_, rfl⟩
  obtain ⟨W, hW⟩ : ∃ b, b = beV (xs.take 4) := ⟨_, rfl⟩
  obtain ⟨C, hC⟩ : ∃ b, b = W / 1048576 % 256 := ⟨_, rfl⟩
  obtain ⟨F, hF⟩ : ∃ b, b = W % 1048576 := ⟨_, rfl⟩
  obtain ⟨⟨v1, sh, sl⟩, hs1⟩ : ∃ b, b = ad6 (sec xs 8 24) := ⟨_, rfl⟩
  obtain ⟨⟨v2, dh, dl⟩, hs2⟩ : ∃ b, b = ad6 (sec xs 24 40) := ⟨_, rfl⟩
  obtain ⟨D, hD⟩ : ∃ b, b = xs.drop 40 := ⟨_, rfl⟩
  rw [hR2, pk6, ← hb6, ← hb7, ← hW, ← hC, ← hF, ← hs1, ← hs2, ← hD]
  obtain rfl : v1 = true := congrArg Ad.v6 hs1
  obtain rfl : v2 = true := congrArg Ad.v6 hs2
  obtain ⟨m, hm⟩ : ∃ m, m = n - 40 := ⟨_, rfl⟩
  have hDl : D.length = m := by rw [hD, List.length_drop, HL.out, hm]
  show Calls Try.prog _ #[.slice (some x) n c] w fun e w' => ∃ a c, e = .returned (.tuple #[.agg #[.bool true, .int .u8 C, .int .u32 F, .int .u16 0, .int .u16 0, .int .u8 b7, .int .u8 b6, .bool true, .int .u64 sh, .int .u64 sl, .bool true, .int .u64 dh, .int .u64 dl, .slice a D.length c], .int .i64 0]) ∧ w'.ownsRow w.heap.size 5 1 (.slice a D.length c) D.length (D.map (Value.int .u8)) ∧ w.grownBy w' none
  rw [hDl]
  have hWr : 0 ≤ W ∧ W < 4294967296 := by rw [hW]; exact beV_range 4 _ (by rw [List.length_take, HL.out]; omega) (ok_take HO.out _)
  have HB6 := Lib.hid hb6
  have HB7 := Lib.hid hb7
  have HWW := Lib.hid hW
  have HS1 := Lib.hid hs1
  have HS2 := Lib.hid hs2
  have HD := Lib.hid hD
  have HM := Lib.hid hm
  obtain ⟨y, hy⟩ : ∃ y, some y = subAt (some x) 40 c := by unfold subAt; split; exact ⟨_, rfl⟩; exact ⟨_, rfl⟩
  have HY := Lib.hid hy
  have HWC := Lib.hid (show IntKind.u8.wrap (W / 1048576) = C by rw [hC]; rw [IntKind.wrap_u8])
  have HWF := Lib.hid (show bits .and .u64 W 1048575 = F by rw [hF]; exact u64_and20 W hWr.1 (by omega))
  have HWG := Lib.hid (show IntKind.u32.wrap F = F by rw [IntKind.wrap_u32, hF]; omega)
  clear hb6 hb7 hW hC hF hs1 hs2 hD hm hDl hy hR2 HR
  obtain ⟨hW0, hW1⟩ := hWr
  · have hnv : (V != (n : Int) - 40) = false := by simp [hv]
    clear hv
    go_enter Try.func32, Try.ntmps32
    go_upto_region 1 with fail
    have hk := own_alloc HK.out (Obj.cells #[Value.bool false, .int .u8 0, .int .u32 0, .int .u16 0, .int .u16 0, .int .u8 0, .int .u8 0, .bool false, .int .u64 0, .int .u64 0, .bool false, .int .u64 0, .int .u64 0, .slice none 0 0] 29 (0, 0))
    obtain ⟨p, hp⟩ : ∃ p, p = w.heap.size := ⟨_, rfl⟩
    rw [← hp] at hk ⊢
    clear hp
    clear HK
    have HK := Lib.hid hk
    clear hk
    generalize w.alloc (Obj.cells #[Value.bool false, .int .u8 0, .int .u32 0, .int .u16 0, .int .u16 0, .int .u8 0, .int .u8 0, .bool false, .int .u64 0, .int .u64 0, .bool false, .int .u64 0, .int .u64 0, .slice none 0 0] 29 (0, 0)) = w1 at HK ⊢
    have hr0 : Rd .u8 w1 (some x) n xs := (HB.out _ HK.out.grown).1
    have hr := rd_sub hr0 4 6 c (by decide) (by omega) (by omega)
    rw [if_neg hc4] at hr
    have HRD := Lib.hid hr
    clear hr hr0
    go_wp2_with fail
    refine (value_any _ 2 _ (sec xs 4 6) w1 HRD.out (ok_sec HO.out 4 6) (by decide)).mono ?_
    rintro e w2 ⟨rfl, rfl⟩
    rw [← HV.out]
    have hwn := HWN.out
    go_wp2_with fail
    clear HRD hwn
    refine (value_any (some x) 4 c (xs.take 4) w2 (rdfront (HB.out _ HK.out.grown).1 4 (show 4 ≤ n by omega)) (ok_take HO.out 4) (by decide)).mono ?_
    rintro e w3 ⟨rfl, rfl⟩
    rw [← HWW.out]
    go_upto_region 4 with fail
    have h8n : ¬ c = 8 := by omega
    have h24n : ¬ c = 24 := by omega
    have h24c : (24 : Int) ≤ c := by omega
    have h40c : (40 : Int) ≤ c := by omega
    have h6n : (6 : Int) < n := by omega
    have h7n : (7 : Int) < n := by omega
    clear hnv
    refine wp_region_sep [[.blk p (Obj.cells #[Value.bool false, .int .u8 0, .int .u32 0, .int .u16 0, .int .u16 0, .int .u8 0, .int .u8 0, .bool false, .int .u64 0, .int .u64 0, .bool false, .int .u64 0, .int .u64 0, .slice none 0 0] 29 (0, 0))]] [] [(22, [], [24])] [22, 20] 24 (by kernel_rfl) (by kernel_rfl) (w0 := w) HK.out ?_
    (try simp only [Act.put, Act.eval, List.setIfInBounds_toArray, List.set_cons_zero, List.set_cons_succ, Array.getD_eq_getD_getElem?, List.getElem?_toArray, List.getElem?_cons_succ, List.getElem?_cons_zero, Option.getD_some, Nat.reduceAdd, List.nil_append, List.cons_append, En.get])
    (repeat (first | (refine fs_skip rfl (fun f => rfl) ?_; (try simp only [Act.put, Act.eval, List.setIfInBounds_toArray, List.set_cons_zero, List.set_cons_succ, Array.getD_eq_getD_getElem?, List.getElem?_toArray, List.getElem?_cons_succ, List.getElem?_cons_zero, Option.getD_some, Nat.reduceAdd, List.nil_append, List.cons_append, En.get])) | (refine fs_move _ rfl rfl (fun f => rfl) rfl ?_ ?_; ((first | exact fun _ _ _ => rfl | exact fun f f' hcg => hcg _ (by kernel_rfl) | (intro f f' hcg; rw [hcg]; kernel_rfl) | (intro f f' hcg; rw [hcg, hcg]; (kernel_rfl; kernel_rfl)) | exact trivial)); (try simp only [Act.put, Act.eval, List.setIfInBounds_toArray, List.set_cons_zero, List.set_cons_succ, Array.getD_eq_getD_getElem?, List.getElem?_toArray, List.getElem?_cons_succ, List.getElem?_cons_zero, Option.getD_some, Nat.reduceAdd, List.nil_append, List.cons_append, En.get])) | (refine fs_assign _ rfl rfl (fun f => rfl) rfl ?_ ?_; ((first | exact fun _ _ _ => rfl | exact fun f f' hcg => hcg _ (by kernel_rfl) | (intro f f' hcg; rw [hcg]; kernel_rfl) | (intro f f' hcg; rw [hcg, hcg]; (kernel_rfl; kernel_rfl)) | exact trivial)); (try simp only [Act.put, Act.eval, List.setIfInBounds_toArray, List.set_cons_zero, List.set_cons_succ, Array.getD_eq_getD_getElem?, List.getElem?_toArray, List.getElem?_cons_succ, List.getElem?_cons_zero, Option.getD_some, Nat.reduceAdd, List.nil_append, List.cons_append, En.get])) | (fail) | (refine fs_pure rfl (fun f => rfl) rfl ?_ ?_ ?_ ?_; (rotate_left; (intro f w1; ((have hwc := HWC.out; have hwf := HWF.out; have hwg := HWG.out)); go_simp; (first | done | with_reducible rfl)); ((first | exact fun _ _ _ => rfl | exact fun f f' hcg => hcg _ (by kernel_rfl) | (intro f f' hcg; rw [hcg]; kernel_rfl) | (intro f f' hcg; rw [hcg, hcg]; (kernel_rfl; kernel_rfl)) | exact trivial)); (try simp only [Act.put, Act.eval, List.setIfInBounds_toArray, List.set_cons_zero, List.set_cons_succ, Array.getD_eq_getD_getElem?, List.getElem?_toArray, List.getElem?_cons_succ, List.getElem?_cons_zero, Option.getD_some, Nat.reduceAdd, List.nil_append, List.cons_append, En.get])))))
    refine fs_read rfl (fun f => rfl) rfl (fun _ => .int .u8 b6) ?_ (fun _ _ _ => rfl) ?_
    · intro f lof w1 Lf HF HK1
      clear HF
      have hr0 : Rd .u8 w1 (some x) n xs := (HB.out _ HK1.grown).1
      have c0 := rdx_at hr0 6 (by omega)
      rw [← HB6.out] at c0
      rw [Addr.add, if_neg (by decide)] at c0
      clear hr0 HK1
      go_simp
    (try simp only [Act.put, Act.eval, List.setIfInBounds_toArray, List.set_cons_zero, List.set_cons_succ, Array.getD_eq_getD_getElem?, List.getElem?_toArray, List.getElem?_cons_succ, List.getElem?_cons_zero, Option.getD_some, Nat.reduceAdd, List.nil_append, List.cons_append, En.get])
    (repeat (first | (refine fs_skip rfl (fun f => rfl) ?_; (try simp only [Act.put, Act.eval, List.setIfInBounds_toArray, List.set_cons_zero, List.set_cons_succ, Array.getD_eq_getD_getElem?, List.getElem?_toArray, List.getElem?_cons_succ, List.getElem?_cons_zero, Option.getD_some, Nat.reduceAdd, List.nil_append, List.cons_append, En.get])) | (refine fs_move _ rfl rfl (fun f => rfl) rfl ?_ ?_; ((first | exact fun _ _ _ => rfl | exact fun f f' hcg => hcg _ (by kernel_rfl) | (intro f f' hcg; rw [hcg]; kernel_rfl) | (intro f f' hcg; rw [hcg, hcg]; (kernel_rfl; kernel_rfl)) | exact trivial)); (try simp only [Act.put, Act.eval, List.setIfInBounds_toArray, List.set_cons_zero, List.set_cons_succ, Array.getD_eq_getD_getElem?, List.getElem?_toArray, List.getElem?_cons_succ, List.getElem?_cons_zero, Option.getD_some, Nat.reduceAdd, List.nil_append, List.cons_append, En.get])) | (refine fs_assign _ rfl rfl (fun f => rfl) rfl ?_ ?_; ((first | exact fun _ _ _ => rfl | exact fun f f' hcg => hcg _ (by kernel_rfl) | (intro f f' hcg; rw [hcg]; kernel_rfl) | (intro f f' hcg; rw [hcg, hcg]; (kernel_rfl; kernel_rfl)) | exact trivial)); (try simp only [Act.put, Act.eval, List.setIfInBounds_toArray, List.set_cons_zero, List.set_cons_succ, Array.getD_eq_getD_getElem?, List.getElem?_toArray, List.getElem?_cons_succ, List.getElem?_cons_zero, Option.getD_some, Nat.reduceAdd, List.nil_append, List.cons_append, En.get])) | (fail) | (refine fs_pure rfl (fun f => rfl) rfl ?_ ?_ ?_ ?_; (rotate_left; (intro f w1; (skip); go_simp; (first | done | with_reducible rfl)); ((first | exact fun _ _ _ => rfl | exact fun f f' hcg => hcg _ (by kernel_rfl) | (intro f f' hcg; rw [hcg]; kernel_rfl) | (intro f f' hcg; rw [hcg, hcg]; (kernel_rfl; kernel_rfl)) | exact trivial)); (try simp only [Act.put, Act.eval, List.setIfInBounds_toArray, List.set_cons_zero, List.set_cons_succ, Array.getD_eq_getD_getElem?, List.getElem?_toArray, List.getElem?_cons_succ, List.getElem?_cons_zero, Option.getD_some, Nat.reduceAdd, List.nil_append, List.cons_append, En.get])))))
    refine fs_read rfl (fun f => rfl) rfl (fun _ => .int .u8 b7) ?_ (fun _ _ _ => rfl) ?_
    · intro f lof w1 Lf HF HK1
      clear HF
      have hr0 : Rd .u8 w1 (some x) n xs := (HB.out _ HK1.grown).1
      have c0 := rdx_at hr0 7 (by omega)
      rw [← HB7.out] at c0
      rw [Addr.add, if_neg (by decide)] at c0
      clear hr0 HK1
      go_simp
    (try simp only [Act.put, Act.eval, List.setIfInBounds_toArray, List.set_cons_zero, List.set_cons_succ, Array.getD_eq_getD_getElem?, List.getElem?_toArray, List.getElem?_cons_succ, List.getElem?_cons_zero, Option.getD_some, Nat.reduceAdd, List.nil_append, List.cons_append, En.get])
    (repeat (first | (refine fs_skip rfl (fun f => rfl) ?_; (try simp only [Act.put, Act.eval, List.setIfInBounds_toArray, List.set_cons_zero, List.set_cons_succ, Array.getD_eq_getD_getElem?, List.getElem?_toArray, List.getElem?_cons_succ, List.getElem?_cons_zero, Option.getD_some, Nat.reduceAdd, List.nil_append, List.cons_append, En.get])) | (refine fs_move _ rfl rfl (fun f => rfl) rfl ?_ ?_; ((first | exact fun _ _ _ => rfl | exact fun f f' hcg => hcg _ (by kernel_rfl) | (intro f f' hcg; rw [hcg]; kernel_rfl) | (intro f f' hcg; rw [hcg, hcg]; (kernel_rfl; kernel_rfl)) | exact trivial)); (try simp only [Act.put, Act.eval, List.setIfInBounds_toArray, List.set_cons_zero, List.set_cons_succ, Array.getD_eq_getD_getElem?, List.getElem?_toArray, List.getElem?_cons_succ, List.getElem?_cons_zero, Option.getD_some, Nat.reduceAdd, List.nil_append, List.cons_append, En.get])) | (refine fs_assign _ rfl rfl (fun f => rfl) rfl ?_ ?_; ((first | exact fun _ _ _ => rfl | exact fun f f' hcg => hcg _ (by kernel_rfl) | (intro f f' hcg; rw [hcg]; kernel_rfl) | (intro f f' hcg; rw [hcg, hcg]; (kernel_rfl; kernel_rfl)) | exact trivial)); (try simp only [Act.put, Act.eval, List.setIfInBounds_toArray, List.set_cons_zero, List.set_cons_succ, Array.getD_eq_getD_getElem?, List.getElem?_toArray, List.getElem?_cons_succ, List.getElem?_cons_zero, Option.getD_some, Nat.reduceAdd, List.nil_append, List.cons_append, En.get])) | (fail) | (refine fs_pure rfl (fun f => rfl) rfl ?_ ?_ ?_ ?_; (rotate_left; (intro f w1; (skip); go_simp; (first | done | with_reducible rfl)); ((first | exact fun _ _ _ => rfl | exact fun f f' hcg => hcg _ (by kernel_rfl) | (intro f f' hcg; rw [hcg]; kernel_rfl) | (intro f f' hcg; rw [hcg, hcg]; (kernel_rfl; kernel_rfl)) | exact trivial)); (try simp only [Act.put, Act.eval, List.setIfInBounds_toArray, List.set_cons_zero, List.set_cons_succ, Array.getD_eq_getD_getElem?, List.getElem?_toArray, List.getElem?_cons_succ, List.getElem?_cons_zero, Option.getD_some, Nat.reduceAdd, List.nil_append, List.cons_append, En.get])))))
    refine fs_callv rfl (fun f => rfl) rfl 39 _ _ rfl (fun args w => by simp [callFunc, Try.func39]; rfl) (fun _ => .agg #[.bool true, .int .u64 sh, .int .u64 sl]) ?_ (fun _ _ _ => rfl) ?_
    · intro f lof w1 Lf HF HK1
      simp only [List.map_toArray, List.map_cons, List.map_nil, Act.eval, Array.getD_eq_getD_getElem?, List.getElem?_toArray, List.getElem?_cons_succ, List.getElem?_cons_zero, Option.getD_some, List.append_nil]
      clear HF
      have hr := rd_sub (show Rd .u8 w1 (some x) n xs from (HB.out _ HK1.grown).1) 8 24 c (by decide) (by omega) (by omega)
      rw [if_neg h8n] at hr
      have q4 := read6_any (x.add (8 * 1)) (c - 8) (sec xs 8 24) w1 hr (ok_sec HO.out 8 24) (by omega)
      rw [← HS1.out] at q4
      exact q4
    (try simp only [Act.put, Act.eval, List.setIfInBounds_toArray, List.set_cons_zero, List.set_cons_succ, Array.getD_eq_getD_getElem?, List.getElem?_toArray, List.getElem?_cons_succ, List.getElem?_cons_zero, Option.getD_some, Nat.reduceAdd, List.nil_append, List.cons_append, En.get])
    (repeat (first | (refine fs_skip rfl (fun f => rfl) ?_; (try simp only [Act.put, Act.eval, List.setIfInBounds_toArray, List.set_cons_zero, List.set_cons_succ, Array.getD_eq_getD_getElem?, List.getElem?_toArray, List.getElem?_cons_succ, List.getElem?_cons_zero, Option.getD_some, Nat.reduceAdd, List.nil_append, List.cons_append, En.get])) | (refine fs_move _ rfl rfl (fun f => rfl) rfl ?_ ?_; ((first | exact fun _ _ _ => rfl | exact fun f f' hcg => hcg _ (by kernel_rfl) | (intro f f' hcg; rw [hcg]; kernel_rfl) | (intro f f' hcg; rw [hcg, hcg]; (kernel_rfl; kernel_rfl)) | exact trivial)); (try simp only [Act.put, Act.eval, List.setIfInBounds_toArray, List.set_cons_zero, List.set_cons_succ, Array.getD_eq_getD_getElem?, List.getElem?_toArray, List.getElem?_cons_succ, List.getElem?_cons_zero, Option.getD_some, Nat.reduceAdd, List.nil_append, List.cons_append, En.get])) | (refine fs_assign _ rfl rfl (fun f => rfl) rfl ?_ ?_; ((first | exact fun _ _ _ => rfl | exact fun f f' hcg => hcg _ (by kernel_rfl) | (intro f f' hcg; rw [hcg]; kernel_rfl) | (intro f f' hcg; rw [hcg, hcg]; (kernel_rfl; kernel_rfl)) | exact trivial)); (try simp only [Act.put, Act.eval, List.setIfInBounds_toArray, List.set_cons_zero, List.set_cons_succ, Array.getD_eq_getD_getElem?, List.getElem?_toArray, List.getElem?_cons_succ, List.getElem?_cons_zero, Option.getD_some, Nat.reduceAdd, List.nil_append, List.cons_append, En.get])) | (fail) | (refine fs_pure rfl (fun f => rfl) rfl ?_ ?_ ?_ ?_; (rotate_left; (intro f w1; (skip); go_simp; (first | done | with_reducible rfl)); ((first | exact fun _ _ _ => rfl | exact fun f f' hcg => hcg _ (by kernel_rfl) | (intro f f' hcg; rw [hcg]; kernel_rfl) | (intro f f' hcg; rw [hcg, hcg]; (kernel_rfl; kernel_rfl)) | exact trivial)); (try simp only [Act.put, Act.eval, List.setIfInBounds_toArray, List.set_cons_zero, List.set_cons_succ, Array.getD_eq_getD_getElem?, List.getElem?_toArray, List.getElem?_cons_succ, List.getElem?_cons_zero, Option.getD_some, Nat.reduceAdd, List.nil_append, List.cons_append, En.get])))))
    refine fs_callv rfl (fun f => rfl) rfl 39 _ _ rfl (fun args w => by simp [callFunc, Try.func39]; rfl) (fun _ => .agg #[.bool true, .int .u64 dh, .int .u64 dl]) ?_ (fun _ _ _ => rfl) ?_
    · intro f lof w1 Lf HF HK1
      simp only [List.map_toArray, List.map_cons, List.map_nil, Act.eval, Array.getD_eq_getD_getElem?, List.getElem?_toArray, List.getElem?_cons_succ, List.getElem?_cons_zero, Option.getD_some, List.append_nil]
      clear HF
      have hr := rd_sub (show Rd .u8 w1 (some x) n xs from (HB.out _ HK1.grown).1) 24 40 c (by decide) (by omega) (by omega)
      rw [if_neg h24n] at hr
      have q4 := read6_any (x.add (24 * 1)) (c - 24) (sec xs 24 40) w1 hr (ok_sec HO.out 24 40) (by omega)
      rw [← HS2.out] at q4
      exact q4
    (try simp only [Act.put, Act.eval, List.setIfInBounds_toArray, List.set_cons_zero, List.set_cons_succ, Array.getD_eq_getD_getElem?, List.getElem?_toArray, List.getElem?_cons_succ, List.getElem?_cons_zero, Option.getD_some, Nat.reduceAdd, List.nil_append, List.cons_append, En.get])
    refine fs_move _ rfl rfl (fun f => rfl) rfl ?_ ?_; ((first | exact fun _ _ _ => rfl | exact fun f f' hcg => hcg _ (by kernel_rfl) | (intro f f' hcg; rw [hcg]; kernel_rfl) | (intro f f' hcg; rw [hcg, hcg]; (kernel_rfl; kernel_rfl)) | exact trivial)); (try simp only [Act.put, Act.eval, List.setIfInBounds_toArray, List.set_cons_zero, List.set_cons_succ, Array.getD_eq_getD_getElem?, List.getElem?_toArray, List.getElem?_cons_succ, List.getElem?_cons_zero, Option.getD_some, Nat.reduceAdd, List.nil_append, List.cons_append, En.get])
    refine fs_pure rfl (fun f => rfl) rfl (fun _ => .slice (some y) m (c - 40)) (fun f w1 => by rw [HY.out, HM.out]; exact run_sl rfl rfl rfl rfl (run_sub_l Try.underlying27 rfl 40 40 rfl (by omega) w1)) (fun _ _ _ => rfl) ?_
    (try simp only [Act.put, Act.eval, List.setIfInBounds_toArray, List.set_cons_zero, List.set_cons_succ, Array.getD_eq_getD_getElem?, List.getElem?_toArray, List.getElem?_cons_succ, List.getElem?_cons_zero, Option.getD_some, Nat.reduceAdd, List.nil_append, List.cons_append, En.get])
    refine fs_call rfl (fun f => rfl) 34 _ _ rfl (fun args w => by simp [callFunc, Try.func34]; rfl) (.res (fun _ v it => ∃ a c, v = .slice a m c ∧ it = [.sl 5 .u8 a m c D])) ?_ (fun _ _ _ => rfl) ?_
    · intro f lof w1 Lf HF HK1
      (try simp only [itms, itm, usesOf, readsOf, takesOf, List.find?, Nat.reduceBEq, List.flatMap_cons, List.flatMap_nil, Nat.reduceLT, if_true, if_false, Nat.reduceSub, List.getD_cons_zero, List.getD_cons_succ, List.append_nil, List.cons_append, List.nil_append, List.append_nil] at HK1)
      simp only [List.map_toArray, List.map_cons, List.map_nil, Act.eval, Array.getD_eq_getD_getElem?, List.getElem?_toArray, List.getElem?_cons_succ, List.getElem?_cons_zero, Option.getD_some, List.append_nil]
      clear HF
      have hr := rd_drop' (show Rd .u8 w1 (some x) n xs from (HB.out _ HK1.grown).1) 40 (by omega) (show n ≤ c by omega)
      rw [← HY.out, ← HM.out, ← HD.out] at hr
      have q4 := clone_any y m (c - 40) D w1 hr (by rw [HM.out]; omega)
      refine q4.mono ?_
      rintro e w2 ⟨a, c, rfl, ho, hg⟩
      exact ⟨_, _, rfl, ⟨a, c, rfl, rfl⟩, own_back HK1 hg ho⟩
    (try simp only [Act.put, Act.eval, List.setIfInBounds_toArray, List.set_cons_zero, List.set_cons_succ, Array.getD_eq_getD_getElem?, List.getElem?_toArray, List.getElem?_cons_succ, List.getElem?_cons_zero, Option.getD_some, Nat.reduceAdd, List.nil_append, List.cons_append, En.get])
    refine fs_read rfl (fun f => rfl) rfl (fun f => .agg #[.bool true, .int .u8 C, .int .u32 F, .int .u16 0, .int .u16 0, .int .u8 b7, .int .u8 b6, .bool true, .int .u64 sh, .int .u64 sl, .bool true, .int .u64 dh, .int .u64 dl, f 20]) ?_ (fun f f' h => by (try dsimp only); rw [h 20 (by kernel_rfl)]) ?_
    · intro f lof w1 Lf HF HK1
      obtain ⟨a, c', hv, hl⟩ := HF 20 (by kernel_rfl)
      rw [hv]
      clear HF HK1 hv hl
      go_simp; first | done | exact ⟨rfl, rfl⟩ | rfl
    (try simp only [Act.put, Act.eval, List.setIfInBounds_toArray, List.set_cons_zero, List.set_cons_succ, Array.getD_eq_getD_getElem?, List.getElem?_toArray, List.getElem?_cons_succ, List.getElem?_cons_zero, Option.getD_some, Nat.reduceAdd, List.nil_append, List.cons_append, En.get])
    refine fs_store rfl (fun f => rfl) (fun f it => it = [.blk p (.cells #[.bool true, .int .u8 C, .int .u32 F, .int .u16 0, .int .u16 0, .int .u8 b7, .int .u8 b6, .bool true, .int .u64 sh, .int .u64 sl, .bool true, .int .u64 dh, .int .u64 dl, f 20] 29 (0, 0))]) rfl ?_ (fun f f' h => by (try dsimp only); rw [h 20 (by kernel_rfl)]) ?_
    · intro f lof w1 Lf HF HK1 Q' hQ
      obtain ⟨a, c', hv, hl⟩ := HF 20 (by kernel_rfl)
      clear HF
      (try simp only [itms, itm, usesOf, readsOf, takesOf, List.find?, Nat.reduceBEq, List.flatMap_cons, List.flatMap_nil, Nat.reduceLT, if_true, if_false, Nat.reduceSub, List.getD_cons_zero, List.getD_cons_succ, List.append_nil, List.cons_append, List.nil_append, List.append_nil] at HK1)
      refine wpList_put_blk rfl HK1 29 _ _ rfl p #[.bool true, .int .u8 C, .int .u32 F, .int .u16 0, .int .u16 0, .int .u8 b7, .int .u8 b6, .bool true, .int .u64 sh, .int .u64 sl, .bool true, .int .u64 dh, .int .u64 dl, f 20] rfl rfl _ _ (.here _) rfl (by kernel_rfl) (by rw [hv]; simp [Value.oneCell']) ?_
      intro w' hk
      exact hQ _ ⟨_, rfl, hk⟩
    (try simp only [Act.put, Act.eval, List.setIfInBounds_toArray, List.set_cons_zero, List.set_cons_succ, Array.getD_eq_getD_getElem?, List.getElem?_toArray, List.getElem?_cons_succ, List.getElem?_cons_zero, Option.getD_some, Nat.reduceAdd, List.nil_append, List.cons_append, En.get])
    (repeat (first | (refine fs_skip rfl (fun f => rfl) ?_; (try simp only [Act.put, Act.eval, List.setIfInBounds_toArray, List.set_cons_zero, List.set_cons_succ, Array.getD_eq_getD_getElem?, List.getElem?_toArray, List.getElem?_cons_succ, List.getElem?_cons_zero, Option.getD_some, Nat.reduceAdd, List.nil_append, List.cons_append, En.get])) | (refine fs_move _ rfl rfl (fun f => rfl) rfl ?_ ?_; ((first | exact fun _ _ _ => rfl | exact fun f f' hcg => hcg _ (by kernel_rfl) | (intro f f' hcg; rw [hcg]; kernel_rfl) | (intro f f' hcg; rw [hcg, hcg]; (kernel_rfl; kernel_rfl)) | exact trivial)); (try simp only [Act.put, Act.eval, List.setIfInBounds_toArray, List.set_cons_zero, List.set_cons_succ, Array.getD_eq_getD_getElem?, List.getElem?_toArray, List.getElem?_cons_succ, List.getElem?_cons_zero, Option.getD_some, Nat.reduceAdd, List.nil_append, List.cons_append, En.get])) | (refine fs_assign _ rfl rfl (fun f => rfl) rfl ?_ ?_; ((first | exact fun _ _ _ => rfl | exact fun f f' hcg => hcg _ (by kernel_rfl) | (intro f f' hcg; rw [hcg]; kernel_rfl) | (intro f f' hcg; rw [hcg, hcg]; (kernel_rfl; kernel_rfl)) | exact trivial)); (try simp only [Act.put, Act.eval, List.setIfInBounds_toArray, List.set_cons_zero, List.set_cons_succ, Array.getD_eq_getD_getElem?, List.getElem?_toArray, List.getElem?_cons_succ, List.getElem?_cons_zero, Option.getD_some, Nat.reduceAdd, List.nil_append, List.cons_append, En.get])) | (fail) | (refine fs_pure rfl (fun f => rfl) rfl ?_ ?_ ?_ ?_; (rotate_left; (intro f w1; (skip); go_simp; (first | done | with_reducible rfl)); ((first | exact fun _ _ _ => rfl | exact fun f f' hcg => hcg _ (by kernel_rfl) | (intro f f' hcg; rw [hcg]; kernel_rfl) | (intro f f' hcg; rw [hcg, hcg]; (kernel_rfl; kernel_rfl)) | exact trivial)); (try simp only [Act.put, Act.eval, List.setIfInBounds_toArray, List.set_cons_zero, List.set_cons_succ, Array.getD_eq_getD_getElem?, List.getElem?_toArray, List.getElem?_cons_succ, List.getElem?_cons_zero, Option.getD_some, Nat.reduceAdd, List.nil_append, List.cons_append, En.get])))))
    refine fs_end ?_
    intro f lof wn HF hk
    obtain ⟨a5, c5, hv, hl⟩ := HF 20 (by decide)
    have hl27 := HF 22 (by decide)
    (try simp only [itms, itm, usesOf, readsOf, takesOf, List.find?, Nat.reduceBEq, List.flatMap_cons, List.flatMap_nil, Nat.reduceLT, if_true, if_false, Nat.reduceSub, List.getD_cons_zero, List.getD_cons_succ, List.append_nil, List.cons_append, List.nil_append, show lof 22 = _ from hl27, hl] at hk)
    rw [hv] at hk ⊢
    clear HF hv hl hl27 f lof
    clear HK
    have HK := Lib.hid hk
    clear hk
    go_wp2_with fail
    exact bodyPost_ret (results_cell_tmp_row rfl _ _ p _ _ _ _ rfl (HK.out.at (.here _)) Try.underlying29 rfl (by kernel_rfl)) rfl ⟨a5, c5, rfl, HK.out.get (.next _ (.here _)), HK.out.grown⟩
end Go.Proofs.Ytmankjhopfilaaa
