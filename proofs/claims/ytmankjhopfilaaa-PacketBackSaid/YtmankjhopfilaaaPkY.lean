/- What bytes of version 4 are: the reference's PacketParse. -/
import Derived.Test.YtmankjhopfilaaaPkX
namespace Go.Proofs.Ytmankjhopfilaaa
set_option linter.unusedVariables false
set_option linter.unusedSimpArgs false
open Go.RowKit Go.Proofs.YtmankjhopfilaaaL

set_option maxHeartbeats 8000000 in
set_option maxRecDepth 100000 in
theorem rparse4_sum (x : Addr) (n c : Nat) (xs : List Int) (w : World) (hb : (⟨some x, n, c, xs⟩ : Bs).ok w) (hcn : n ≤ c) (hn : n ≤ 1400) (h20 : 20 ≤ n) (h69 : xs.getD 0 0 = 69) (hv : beV (sec xs 2 4) = n) (hs : csum (xs.take 20) ≠ 0) :
    Calls Try.prog 19 #[.slice (some x) n c] w fun e w' => (badR 22).ret w w' e := by
  have HB := Lib.hid (fun (w' : World) (g : w.grownBy w' none) => Bs.ok_keep hb g)
  have HL := Lib.hid (show xs.length = n from hb.1.1)
  have HO := Lib.hid (show okB 256 xs from hb.2.1)
  have hmax2 : ¬ (1400 : Int) < n := by omega
  obtain ⟨X, hX⟩ : ∃ X, X = xs.getD 0 0 := ⟨_, rfl⟩
  have HX := Lib.hid hX
  have hb6 : (X / 16 == 6) = false := by rw [hX, h69]; decide
  have hne : (X != 69) = false := by rw [hX, h69]; decide
  clear hX h69
  obtain ⟨V2, hV2⟩ : ∃ V, V = beV ((xs.drop 2).take 2) := ⟨_, rfl⟩
  obtain ⟨v20, v21⟩ : 0 ≤ V2 ∧ V2 < 65536 := by rw [hV2]; exact beV_two (by rw [List.length_take, List.length_drop, HL.out]; omega) (ok_take (ok_drop HO.out _) _)
  have HV2 := Lib.hid hV2
  have hnv : (V2 != (n : Int)) = false := by rw [hV2, ← hv, sec_eq]; simp
  obtain ⟨S, hS⟩ : ∃ S, S = csum (xs.take 20) := ⟨_, rfl⟩
  have HCS := Lib.hid hS
  have hs2 : (S != 0) = true := by rw [hS]; simp [hs]
  clear hV2 hv hb hS hs
  have hc2 : ¬ c = 2 := by omega
  have hc2' : (2 : Int) ≤ n := by omega
  have hc20 : (20 : Int) ≤ c := by omega
  have hn20 : ¬ (n : Int) < 20 := by omega
  have hcn2 : (n : Int) ≤ c := by omega
  have HK := Lib.hid (own_start w)
  by_cases h40 : (40 : Int) ≤ n
  all_goals
    show Calls Try.prog _ #[.slice (some x) n c] w fun e w' => ∃ a c, e = .returned (.tuple #[.agg #[.bool false, .int .u8 0, .int .u32 0, .int .u16 0, .int .u16 0, .int .u8 0, .int .u8 0, .bool false, .int .u64 0, .int .u64 0, .bool false, .int .u64 0, .int .u64 0, .slice a 0 c], .int .i64 22]) ∧ w'.ownsRow w.heap.size 5 1 (.slice a 0 c) 0 [] ∧ w.grownBy w' none
    go_enter Try.func19, Try.ntmps19
    go_upto_region 1 with fail
    have hk := own_alloc HK.out (Obj.cells #[Value.bool false, .int .u8 0, .int .u32 0, .int .u16 0, .int .u16 0, .int .u8 0, .int .u8 0, .bool false, .int .u64 0, .int .u64 0, .bool false, .int .u64 0, .int .u64 0, .slice none 0 0] 29 (0, 0))
    obtain ⟨p, hp⟩ : ∃ p, p = w.heap.size := ⟨_, rfl⟩
    rw [← hp] at hk ⊢
    clear hp
    clear HK
    have HK := Lib.hid hk
    clear hk
    generalize w.alloc (Obj.cells #[Value.bool false, .int .u8 0, .int .u32 0, .int .u16 0, .int .u16 0, .int .u8 0, .int .u8 0, .bool false, .int .u64 0, .int .u64 0, .bool false, .int .u64 0, .int .u64 0, .slice none 0 0] 29 (0, 0)) = w1 at HK ⊢
    have hr0 : Rd .u8 w1 (some x) n xs := (HB.out _ HK.out.grown).1
    have c0 := rdx_at hr0 0 (by omega)
    rw [← HX.out] at c0
    have c0' : w1.cell? x = some (.int .u8 X) := by rw [← c0]; rfl
    clear hr0
    go_wp2_with fail
    have hr := rd_drop' (show Rd .u8 w1 (some x) n xs from (HB.out _ HK.out.grown).1) 2 (by omega) hcn
    rw [subAt, if_neg hc2] at hr
    refine (readU_any _ (n - 2) 2 _ (xs.drop 2) w1 hr (ok_drop HO.out 2) (by decide) (by omega)).mono ?_
    clear hr
    rintro e w2 ⟨rfl, rfl⟩
    rw [← HV2.out]
    go_wp2_with fail
    refine (rsum_any (some x) 20 c (xs.take 20) w2 (rdfront (HB.out _ HK.out.grown).1 20 h20) (ok_take HO.out 20) (by decide)).mono ?_
    rintro e w3 ⟨rfl, rfl⟩
    rw [← HCS.out]
    go_wp2_with (refine wpList_put_blk rfl HK.out 29 _ _ rfl p #[.bool false, .int .u8 0, .int .u32 0, .int .u16 0, .int .u16 0, .int .u8 0, .int .u8 0, .bool false, .int .u64 0, .int .u64 0, .bool false, .int .u64 0, .int .u64 0, .slice none 0 0] rfl rfl _ _ (.here _) rfl (by kernel_rfl) (by simp [Value.oneCell']) ?_; (intro wn hkn; have HKN := Lib.hid hkn; clear hkn; clear HK; have HK := HKN; clear HKN))
    exact bodyPost_ret (results_cell_tmp_row rfl _ _ p _ _ _ _ rfl (HK.out.at (.here _)) Try.underlying29 rfl (by kernel_rfl)) rfl ⟨none, 0, rfl, own_nil_row _ _ _, HK.out.grown⟩
set_option maxHeartbeats 8000000 in
set_option maxRecDepth 100000 in
theorem rparse4_any (x : Addr) (n c : Nat) (xs : List Int) (w : World) (hb : (⟨some x, n, c, xs⟩ : Bs).ok w) (hcn : n ≤ c) (hn : n ≤ 1400) (h20 : 20 ≤ n) (h69 : xs.getD 0 0 = 69) (hv : beV (sec xs 2 4) = n) (hs : csum (xs.take 20) = 0) :
    Calls Try.prog 19 #[.slice (some x) n c] w fun e w' => (if sumdL xs = xs then ⟨0, pk4 xs, xs.drop 20⟩ else badR 22 : Rs).ret w w' e := by
  have HB := Lib.hid (fun (w' : World) (g : w.grownBy w' none) => Bs.ok_keep hb g)
  have HL := Lib.hid (show xs.length = n from hb.1.1)
  have HO := Lib.hid (show okB 256 xs from hb.2.1)
  have hmax2 : ¬ (1400 : Int) < n := by omega
  have HBD0 := fun (w' : World) (g : w.grownBy w' none) => back_ok (b := ⟨some x, n, c, xs⟩) (Bs.ok_keep hb g) 20 (show 20 ≤ n by omega) hcn
  obtain ⟨Z, hZ⟩ : ∃ Z, Z = sumdL xs := ⟨_, rfl⟩
  have hpk := pk4_ok xs (by rw [HL.out]; exact h20) HO.out
  have hput := put4_pk4 xs (by rw [HL.out]; exact h20) HO.out h69 (by rw [HL.out]; exact hv)
  have HZO := Lib.hid (show okB 256 Z by rw [hZ]; exact ok_app (ok_app (ok_take (ok_zerd HO.out) _) (ok_beB _ _)) (ok_drop (ok_zerd HO.out) _))
  rw [← hZ] at hput ⊢
  have hpe : putE (pk4 xs) (n - 20) = 0 := by rw [putE, if_neg (by rw [hpk.2]; decide), if_pos (by show 20 + (n - 20) ≤ 1400; omega)]
  have hpl : putL (pk4 xs) (xs.drop 20) = Z := by rw [putL, List.length_drop, HL.out, if_pos hpe]; exact hput
  have HPO := Lib.hid hpk.1
  clear hput hpk hZ
  obtain ⟨X, hX⟩ : ∃ X, X = xs.getD 0 0 := ⟨_, rfl⟩
  have HX := Lib.hid hX
  have hb6 : (X / 16 == 6) = false := by rw [hX, h69]; decide
  have hne : (X != 69) = false := by rw [hX, h69]; decide
  clear hX h69
  obtain ⟨V2, hV2⟩ : ∃ V, V = beV ((xs.drop 2).take 2) := ⟨_, rfl⟩
  obtain ⟨v20, v21⟩ : 0 ≤ V2 ∧ V2 < 65536 := by rw [hV2]; exact beV_two (by rw [List.length_take, List.length_drop, HL.out]; omega) (ok_take (ok_drop HO.out _) _)
  have HV2 := Lib.hid hV2
  have hnv : (V2 != (n : Int)) = false := by rw [hV2, ← hv, sec_eq]; simp
  obtain ⟨S, hS⟩ : ∃ S, S = csum (xs.take 20) := ⟨_, rfl⟩
  have HCS := Lib.hid hS
  have hs2 : (S != 0) = false := by rw [hS, hs]; decide
  clear hV2 hv hb hS hs
  have hc2 : ¬ c = 2 := by omega
  have hc2' : (2 : Int) ≤ n := by omega
  have hc20 : (20 : Int) ≤ c := by omega
  have hn20 : ¬ (n : Int) < 20 := by omega
  have hcn2 : (n : Int) ≤ c := by omega
  obtain ⟨b1, hb1⟩ : ∃ b, b = xs.getD 1 0 := ⟨_, rfl⟩
  obtain ⟨b8, hb8⟩ : ∃ b, b = xs.getD 8 0 := ⟨_, rfl⟩
  obtain ⟨b9, hb9⟩ : ∃ b, b = xs.getD 9 0 := ⟨_, rfl⟩
  obtain ⟨I4, hI4⟩ : ∃ b, b = beV (sec xs 4 6) := ⟨_, rfl⟩
  obtain ⟨I6, hI6⟩ : ∃ b, b = beV (sec xs 6 8) := ⟨_, rfl⟩
  obtain ⟨⟨v1, sh, sl⟩, hs1⟩ : ∃ b, b = ad4 (sec xs 12 16) := ⟨_, rfl⟩
  obtain ⟨⟨v2, dh, dl⟩, hs3⟩ : ∃ b, b = ad4 (sec xs 16 20) := ⟨_, rfl⟩
  obtain ⟨D, hD⟩ : ∃ b, b = xs.drop 20 := ⟨_, rfl⟩
  rw [pk4, ← hb1, ← hb8, ← hb9, ← hI4, ← hI6, ← hs1, ← hs3] at hpe hpl HPO
  rw [pk4, ← hb1, ← hb8, ← hb9, ← hI4, ← hI6, ← hs1, ← hs3, ← hD]
  rw [← hD] at hpl
  obtain rfl : v1 = false := congrArg Ad.v6 hs1
  obtain rfl : v2 = false := congrArg Ad.v6 hs3
  obtain ⟨m, hm⟩ : ∃ m, m = n - 20 := ⟨_, rfl⟩
  rw [← hm] at hpe
  have HPE := Lib.hid hpe
  have HPL := Lib.hid hpl
  have HDL := Lib.hid (show D.length = m by rw [hD, List.length_drop, HL.out, hm])
  have HDO := Lib.hid (show okB 256 D by rw [hD]; exact ok_drop HO.out _)
  obtain ⟨y, hy⟩ : ∃ y, some y = subAt (some x) 20 c := by unfold subAt; split; exact ⟨_, rfl⟩; exact ⟨_, rfl⟩
  have HBD := Lib.hid (show ∀ w', w.grownBy w' none → (⟨some y, m, c - 20, D⟩ : Bs).ok w' by rw [hy, hm, hD]; exact HBD0)
  obtain ⟨i40, i41⟩ : 0 ≤ I4 ∧ I4 < 65536 := by rw [hI4]; exact beV_two (length_sec _ _ _ (by rw [HL.out]; omega)) (ok_sec HO.out _ _)
  obtain ⟨i60, i61⟩ : 0 ≤ I6 ∧ I6 < 65536 := by rw [hI6]; exact beV_two (length_sec _ _ _ (by rw [HL.out]; omega)) (ok_sec HO.out _ _)
  have HB1 := Lib.hid hb1
  have HB8 := Lib.hid hb8
  have HB9 := Lib.hid hb9
  have HI4 := Lib.hid (show I4 = beV ((xs.drop 4).take 2) by rw [hI4, sec_eq])
  have HI6 := Lib.hid (show I6 = beV ((xs.drop 6).take 2) by rw [hI6, sec_eq])
  have HS1 := Lib.hid (hs1.trans (ad4_sec xs 12).symm)
  have HS2 := Lib.hid (hs3.trans (ad4_sec xs 16).symm)
  have HM := Lib.hid hm
  have HY := Lib.hid hy
  have HW4 := Lib.hid (show IntKind.u16.wrap I4 = I4 by rw [IntKind.wrap_u16]; omega)
  have HW6 := Lib.hid (show IntKind.u16.wrap I6 = I6 by rw [IntKind.wrap_u16]; omega)
  have hm9 : m ≤ 1400 := by omega
  clear hb1 hb8 hb9 hI4 hI6 hs1 hs3 hD hm hy hpe hpl HBD0
  obtain ⟨R, hR⟩ : ∃ R : Rs, R = if Z = xs then ⟨0, (⟨false, b1, 0, I4, I6, b8, b9, ⟨false, sh, sl⟩, ⟨false, dh, dl⟩⟩ : Pk), D⟩ else badR 22 := ⟨_, rfl⟩
  rw [← hR]
  have HR := Lib.hid hR
  clear hR
  have HK := Lib.hid (own_start w)
  by_cases h40 : (40 : Int) ≤ n
  all_goals
    skip
    go_enter Try.func19, Try.ntmps19
    go_upto_region 1 with fail
    have hk := own_alloc HK.out (Obj.cells #[Value.bool false, .int .u8 0, .int .u32 0, .int .u16 0, .int .u16 0, .int .u8 0, .int .u8 0, .bool false, .int .u64 0, .int .u64 0, .bool false, .int .u64 0, .int .u64 0, .slice none 0 0] 29 (0, 0))
    obtain ⟨p, hp⟩ : ∃ p, p = w.heap.size := ⟨_, rfl⟩
    rw [← hp] at hk ⊢
    clear hp
    clear HK
    have HK := Lib.hid hk
    clear hk
    generalize w.alloc (Obj.cells #[Value.bool false, .int .u8 0, .int .u32 0, .int .u16 0, .int .u16 0, .int .u8 0, .int .u8 0, .bool false, .int .u64 0, .int .u64 0, .bool false, .int .u64 0, .int .u64 0, .slice none 0 0] 29 (0, 0)) = w1 at HK ⊢
    have hr0 : Rd .u8 w1 (some x) n xs := (HB.out _ HK.out.grown).1
    have c0 := rdx_at hr0 0 (by omega)
    rw [← HX.out] at c0
    have c0' : w1.cell? x = some (.int .u8 X) := by rw [← c0]; rfl
    clear hr0
    go_wp2_with fail
    have hr := rd_drop' (show Rd .u8 w1 (some x) n xs from (HB.out _ HK.out.grown).1) 2 (by omega) hcn
    rw [subAt, if_neg hc2] at hr
    refine (readU_any _ (n - 2) 2 _ (xs.drop 2) w1 hr (ok_drop HO.out 2) (by decide) (by omega)).mono ?_
    clear hr
    rintro e w2 ⟨rfl, rfl⟩
    rw [← HV2.out]
    go_wp2_with fail
    refine (rsum_any (some x) 20 c (xs.take 20) w2 (rdfront (HB.out _ HK.out.grown).1 20 h20) (ok_take HO.out 20) (by decide)).mono ?_
    rintro e w3 ⟨rfl, rfl⟩
    rw [← HCS.out]
    clear c0 c0'
    go_upto_region 10 with fail
    have h4n : ¬ c = 4 := by omega
    have h6n : ¬ c = 6 := by omega
    have h12n : ¬ c = 12 := by omega
    have h16n : ¬ c = 16 := by omega
    have h4c : (4 : Int) ≤ n := by omega
    have h6c : (6 : Int) ≤ n := by omega
    have h12c : (12 : Int) ≤ n := by omega
    have h16c : (16 : Int) ≤ n := by omega
    have h1n : (1 : Int) < n := by omega
    have h8n : (8 : Int) < n := by omega
    have h9n : (9 : Int) < n := by omega
    clear hnv hne hs2 hb6
    refine wp_region_sep [] [.blk p (Obj.cells #[Value.bool false, .int .u8 0, .int .u32 0, .int .u16 0, .int .u16 0, .int .u8 0, .int .u8 0, .bool false, .int .u64 0, .int .u64 0, .bool false, .int .u64 0, .int .u64 0, .slice none 0 0] 29 (0, 0))] [(28, [], [27])] [28, 25] 29 (by kernel_rfl) (by kernel_rfl) (w0 := w) HK.out ?_
    (try simp only [Act.put, Act.eval, List.setIfInBounds_toArray, List.set_cons_zero, List.set_cons_succ, Array.getD_eq_getD_getElem?, List.getElem?_toArray, List.getElem?_cons_succ, List.getElem?_cons_zero, Option.getD_some, Nat.reduceAdd, List.nil_append, List.cons_append, En.get])
    (repeat (first | (refine fs_skip rfl (fun f => rfl) ?_; (try simp only [Act.put, Act.eval, List.setIfInBounds_toArray, List.set_cons_zero, List.set_cons_succ, Array.getD_eq_getD_getElem?, List.getElem?_toArray, List.getElem?_cons_succ, List.getElem?_cons_zero, Option.getD_some, Nat.reduceAdd, List.nil_append, List.cons_append, En.get])) | (refine fs_move _ rfl rfl (fun f => rfl) rfl ?_ ?_; ((first | exact fun _ _ _ => rfl | exact fun f f' hcg => hcg _ (by kernel_rfl) | (intro f f' hcg; rw [hcg]; kernel_rfl) | (intro f f' hcg; rw [hcg, hcg]; (kernel_rfl; kernel_rfl)) | exact trivial)); (try simp only [Act.put, Act.eval, List.setIfInBounds_toArray, List.set_cons_zero, List.set_cons_succ, Array.getD_eq_getD_getElem?, List.getElem?_toArray, List.getElem?_cons_succ, List.getElem?_cons_zero, Option.getD_some, Nat.reduceAdd, List.nil_append, List.cons_append, En.get])) | (refine fs_assign _ rfl rfl (fun f => rfl) rfl ?_ ?_; ((first | exact fun _ _ _ => rfl | exact fun f f' hcg => hcg _ (by kernel_rfl) | (intro f f' hcg; rw [hcg]; kernel_rfl) | (intro f f' hcg; rw [hcg, hcg]; (kernel_rfl; kernel_rfl)) | exact trivial)); (try simp only [Act.put, Act.eval, List.setIfInBounds_toArray, List.set_cons_zero, List.set_cons_succ, Array.getD_eq_getD_getElem?, List.getElem?_toArray, List.getElem?_cons_succ, List.getElem?_cons_zero, Option.getD_some, Nat.reduceAdd, List.nil_append, List.cons_append, En.get])) | (fail) | (refine fs_pure rfl (fun f => rfl) rfl ?_ ?_ ?_ ?_; (rotate_left; (intro f w1; (skip); go_simp; (first | done | with_reducible rfl)); ((first | exact fun _ _ _ => rfl | exact fun f f' hcg => hcg _ (by kernel_rfl) | (intro f f' hcg; rw [hcg]; kernel_rfl) | (intro f f' hcg; rw [hcg, hcg]; (kernel_rfl; kernel_rfl)) | exact trivial)); (try simp only [Act.put, Act.eval, List.setIfInBounds_toArray, List.set_cons_zero, List.set_cons_succ, Array.getD_eq_getD_getElem?, List.getElem?_toArray, List.getElem?_cons_succ, List.getElem?_cons_zero, Option.getD_some, Nat.reduceAdd, List.nil_append, List.cons_append, En.get])))))
    refine fs_read rfl (fun f => rfl) rfl (fun _ => .int .u8 b1) ?_ (fun _ _ _ => rfl) ?_
    · intro f lof w1 Lf HF HK1
      clear HF
      have hr0 : Rd .u8 w1 (some x) n xs := (HB.out _ HK1.grown).1
      have c0 := rdx_at hr0 1 (by omega)
      rw [← HB1.out] at c0
      rw [Addr.add, if_neg (by decide)] at c0
      clear hr0 HK1
      go_simp
    (try simp only [Act.put, Act.eval, List.setIfInBounds_toArray, List.set_cons_zero, List.set_cons_succ, Array.getD_eq_getD_getElem?, List.getElem?_toArray, List.getElem?_cons_succ, List.getElem?_cons_zero, Option.getD_some, Nat.reduceAdd, List.nil_append, List.cons_append, En.get])
    (repeat (first | (refine fs_skip rfl (fun f => rfl) ?_; (try simp only [Act.put, Act.eval, List.setIfInBounds_toArray, List.set_cons_zero, List.set_cons_succ, Array.getD_eq_getD_getElem?, List.getElem?_toArray, List.getElem?_cons_succ, List.getElem?_cons_zero, Option.getD_some, Nat.reduceAdd, List.nil_append, List.cons_append, En.get])) | (refine fs_move _ rfl rfl (fun f => rfl) rfl ?_ ?_; ((first | exact fun _ _ _ => rfl | exact fun f f' hcg => hcg _ (by kernel_rfl) | (intro f f' hcg; rw [hcg]; kernel_rfl) | (intro f f' hcg; rw [hcg, hcg]; (kernel_rfl; kernel_rfl)) | exact trivial)); (try simp only [Act.put, Act.eval, List.setIfInBounds_toArray, List.set_cons_zero, List.set_cons_succ, Array.getD_eq_getD_getElem?, List.getElem?_toArray, List.getElem?_cons_succ, List.getElem?_cons_zero, Option.getD_some, Nat.reduceAdd, List.nil_append, List.cons_append, En.get])) | (refine fs_assign _ rfl rfl (fun f => rfl) rfl ?_ ?_; ((first | exact fun _ _ _ => rfl | exact fun f f' hcg => hcg _ (by kernel_rfl) | (intro f f' hcg; rw [hcg]; kernel_rfl) | (intro f f' hcg; rw [hcg, hcg]; (kernel_rfl; kernel_rfl)) | exact trivial)); (try simp only [Act.put, Act.eval, List.setIfInBounds_toArray, List.set_cons_zero, List.set_cons_succ, Array.getD_eq_getD_getElem?, List.getElem?_toArray, List.getElem?_cons_succ, List.getElem?_cons_zero, Option.getD_some, Nat.reduceAdd, List.nil_append, List.cons_append, En.get])) | (fail) | (refine fs_pure rfl (fun f => rfl) rfl ?_ ?_ ?_ ?_; (rotate_left; (intro f w1; (skip); go_simp; (first | done | with_reducible rfl)); ((first | exact fun _ _ _ => rfl | exact fun f f' hcg => hcg _ (by kernel_rfl) | (intro f f' hcg; rw [hcg]; kernel_rfl) | (intro f f' hcg; rw [hcg, hcg]; (kernel_rfl; kernel_rfl)) | exact trivial)); (try simp only [Act.put, Act.eval, List.setIfInBounds_toArray, List.set_cons_zero, List.set_cons_succ, Array.getD_eq_getD_getElem?, List.getElem?_toArray, List.getElem?_cons_succ, List.getElem?_cons_zero, Option.getD_some, Nat.reduceAdd, List.nil_append, List.cons_append, En.get])))))
    refine fs_callv rfl (fun f => rfl) rfl 22 _ _ rfl (fun args w => by simp [callFunc, Try.func22]; rfl) (fun _ => .int .u64 I4) ?_ (fun _ _ _ => rfl) ?_
    · intro f lof w1 Lf HF HK1
      simp only [List.map_toArray, List.map_cons, List.map_nil, Act.eval, Array.getD_eq_getD_getElem?, List.getElem?_toArray, List.getElem?_cons_succ, List.getElem?_cons_zero, Option.getD_some, List.append_nil]
      clear HF
      have hr := rd_drop' (show Rd .u8 w1 (some x) n xs from (HB.out _ HK1.grown).1) 4 (by omega) hcn
      rw [subAt, if_neg h4n] at hr
      have q4 := readU_any _ (n - 4) 2 (c - 4) (xs.drop 4) w1 hr (ok_drop HO.out 4) (by decide) (by omega)
      rw [← HI4.out] at q4
      exact q4.mono fun e w2 h => ⟨h.1, by rw [h.2]; exact grown_refl _ _⟩
    (try simp only [Act.put, Act.eval, List.setIfInBounds_toArray, List.set_cons_zero, List.set_cons_succ, Array.getD_eq_getD_getElem?, List.getElem?_toArray, List.getElem?_cons_succ, List.getElem?_cons_zero, Option.getD_some, Nat.reduceAdd, List.nil_append, List.cons_append, En.get])
    (repeat (first | (refine fs_skip rfl (fun f => rfl) ?_; (try simp only [Act.put, Act.eval, List.setIfInBounds_toArray, List.set_cons_zero, List.set_cons_succ, Array.getD_eq_getD_getElem?, List.getElem?_toArray, List.getElem?_cons_succ, List.getElem?_cons_zero, Option.getD_some, Nat.reduceAdd, List.nil_append, List.cons_append, En.get])) | (refine fs_move _ rfl rfl (fun f => rfl) rfl ?_ ?_; ((first | exact fun _ _ _ => rfl | exact fun f f' hcg => hcg _ (by kernel_rfl) | (intro f f' hcg; rw [hcg]; kernel_rfl) | (intro f f' hcg; rw [hcg, hcg]; (kernel_rfl; kernel_rfl)) | exact trivial)); (try simp only [Act.put, Act.eval, List.setIfInBounds_toArray, List.set_cons_zero, List.set_cons_succ, Array.getD_eq_getD_getElem?, List.getElem?_toArray, List.getElem?_cons_succ, List.getElem?_cons_zero, Option.getD_some, Nat.reduceAdd, List.nil_append, List.cons_append, En.get])) | (refine fs_assign _ rfl rfl (fun f => rfl) rfl ?_ ?_; ((first | exact fun _ _ _ => rfl | exact fun f f' hcg => hcg _ (by kernel_rfl) | (intro f f' hcg; rw [hcg]; kernel_rfl) | (intro f f' hcg; rw [hcg, hcg]; (kernel_rfl; kernel_rfl)) | exact trivial)); (try simp only [Act.put, Act.eval, List.setIfInBounds_toArray, List.set_cons_zero, List.set_cons_succ, Array.getD_eq_getD_getElem?, List.getElem?_toArray, List.getElem?_cons_succ, List.getElem?_cons_zero, Option.getD_some, Nat.reduceAdd, List.nil_append, List.cons_append, En.get])) | (fail) | (refine fs_pure rfl (fun f => rfl) rfl ?_ ?_ ?_ ?_; (rotate_left; (intro f w1; ((have hw4 := HW4.out)); go_simp; (first | done | with_reducible rfl)); ((first | exact fun _ _ _ => rfl | exact fun f f' hcg => hcg _ (by kernel_rfl) | (intro f f' hcg; rw [hcg]; kernel_rfl) | (intro f f' hcg; rw [hcg, hcg]; (kernel_rfl; kernel_rfl)) | exact trivial)); (try simp only [Act.put, Act.eval, List.setIfInBounds_toArray, List.set_cons_zero, List.set_cons_succ, Array.getD_eq_getD_getElem?, List.getElem?_toArray, List.getElem?_cons_succ, List.getElem?_cons_zero, Option.getD_some, Nat.reduceAdd, List.nil_append, List.cons_append, En.get])))))
    refine fs_callv rfl (fun f => rfl) rfl 22 _ _ rfl (fun args w => by simp [callFunc, Try.func22]; rfl) (fun _ => .int .u64 I6) ?_ (fun _ _ _ => rfl) ?_
    · intro f lof w1 Lf HF HK1
      simp only [List.map_toArray, List.map_cons, List.map_nil, Act.eval, Array.getD_eq_getD_getElem?, List.getElem?_toArray, List.getElem?_cons_succ, List.getElem?_cons_zero, Option.getD_some, List.append_nil]
      clear HF
      have hr := rd_drop' (show Rd .u8 w1 (some x) n xs from (HB.out _ HK1.grown).1) 6 (by omega) hcn
      rw [subAt, if_neg h6n] at hr
      have q4 := readU_any _ (n - 6) 2 (c - 6) (xs.drop 6) w1 hr (ok_drop HO.out 6) (by decide) (by omega)
      rw [← HI6.out] at q4
      exact q4.mono fun e w2 h => ⟨h.1, by rw [h.2]; exact grown_refl _ _⟩
    (try simp only [Act.put, Act.eval, List.setIfInBounds_toArray, List.set_cons_zero, List.set_cons_succ, Array.getD_eq_getD_getElem?, List.getElem?_toArray, List.getElem?_cons_succ, List.getElem?_cons_zero, Option.getD_some, Nat.reduceAdd, List.nil_append, List.cons_append, En.get])
    (repeat (first | (refine fs_skip rfl (fun f => rfl) ?_; (try simp only [Act.put, Act.eval, List.setIfInBounds_toArray, List.set_cons_zero, List.set_cons_succ, Array.getD_eq_getD_getElem?, List.getElem?_toArray, List.getElem?_cons_succ, List.getElem?_cons_zero, Option.getD_some, Nat.reduceAdd, List.nil_append, List.cons_append, En.get])) | (refine fs_move _ rfl rfl (fun f => rfl) rfl ?_ ?_; ((first | exact fun _ _ _ => rfl | exact fun f f' hcg => hcg _ (by kernel_rfl) | (intro f f' hcg; rw [hcg]; kernel_rfl) | (intro f f' hcg; rw [hcg, hcg]; (kernel_rfl; kernel_rfl)) | exact trivial)); (try simp only [Act.put, Act.eval, List.setIfInBounds_toArray, List.set_cons_zero, List.set_cons_succ, Array.getD_eq_getD_getElem?, List.getElem?_toArray, List.getElem?_cons_succ, List.getElem?_cons_zero, Option.getD_some, Nat.reduceAdd, List.nil_append, List.cons_append, En.get])) | (refine fs_assign _ rfl rfl (fun f => rfl) rfl ?_ ?_; ((first | exact fun _ _ _ => rfl | exact fun f f' hcg => hcg _ (by kernel_rfl) | (intro f f' hcg; rw [hcg]; kernel_rfl) | (intro f f' hcg; rw [hcg, hcg]; (kernel_rfl; kernel_rfl)) | exact trivial)); (try simp only [Act.put, Act.eval, List.setIfInBounds_toArray, List.set_cons_zero, List.set_cons_succ, Array.getD_eq_getD_getElem?, List.getElem?_toArray, List.getElem?_cons_succ, List.getElem?_cons_zero, Option.getD_some, Nat.reduceAdd, List.nil_append, List.cons_append, En.get])) | (fail) | (refine fs_pure rfl (fun f => rfl) rfl ?_ ?_ ?_ ?_; (rotate_left; (intro f w1; ((have hw6 := HW6.out)); go_simp; (first | done | with_reducible rfl)); ((first | exact fun _ _ _ => rfl | exact fun f f' hcg => hcg _ (by kernel_rfl) | (intro f f' hcg; rw [hcg]; kernel_rfl) | (intro f f' hcg; rw [hcg, hcg]; (kernel_rfl; kernel_rfl)) | exact trivial)); (try simp only [Act.put, Act.eval, List.setIfInBounds_toArray, List.set_cons_zero, List.set_cons_succ, Array.getD_eq_getD_getElem?, List.getElem?_toArray, List.getElem?_cons_succ, List.getElem?_cons_zero, Option.getD_some, Nat.reduceAdd, List.nil_append, List.cons_append, En.get])))))
    refine fs_read rfl (fun f => rfl) rfl (fun _ => .int .u8 b8) ?_ (fun _ _ _ => rfl) ?_
    · intro f lof w1 Lf HF HK1
      clear HF
      have hr0 : Rd .u8 w1 (some x) n xs := (HB.out _ HK1.grown).1
      have c0 := rdx_at hr0 8 (by omega)
      rw [← HB8.out] at c0
      rw [Addr.add, if_neg (by decide)] at c0
      clear hr0 HK1
      go_simp
    (try simp only [Act.put, Act.eval, List.setIfInBounds_toArray, List.set_cons_zero, List.set_cons_succ, Array.getD_eq_getD_getElem?, List.getElem?_toArray, List.getElem?_cons_succ, List.getElem?_cons_zero, Option.getD_some, Nat.reduceAdd, List.nil_append, List.cons_append, En.get])
    (repeat (first | (refine fs_skip rfl (fun f => rfl) ?_; (try simp only [Act.put, Act.eval, List.setIfInBounds_toArray, List.set_cons_zero, List.set_cons_succ, Array.getD_eq_getD_getElem?, List.getElem?_toArray, List.getElem?_cons_succ, List.getElem?_cons_zero, Option.getD_some, Nat.reduceAdd, List.nil_append, List.cons_append, En.get])) | (refine fs_move _ rfl rfl (fun f => rfl) rfl ?_ ?_; ((first | exact fun _ _ _ => rfl | exact fun f f' hcg => hcg _ (by kernel_rfl) | (intro f f' hcg; rw [hcg]; kernel_rfl) | (intro f f' hcg; rw [hcg, hcg]; (kernel_rfl; kernel_rfl)) | exact trivial)); (try simp only [Act.put, Act.eval, List.setIfInBounds_toArray, List.set_cons_zero, List.set_cons_succ, Array.getD_eq_getD_getElem?, List.getElem?_toArray, List.getElem?_cons_succ, List.getElem?_cons_zero, Option.getD_some, Nat.reduceAdd, List.nil_append, List.cons_append, En.get])) | (refine fs_assign _ rfl rfl (fun f => rfl) rfl ?_ ?_; ((first | exact fun _ _ _ => rfl | exact fun f f' hcg => hcg _ (by kernel_rfl) | (intro f f' hcg; rw [hcg]; kernel_rfl) | (intro f f' hcg; rw [hcg, hcg]; (kernel_rfl; kernel_rfl)) | exact trivial)); (try simp only [Act.put, Act.eval, List.setIfInBounds_toArray, List.set_cons_zero, List.set_cons_succ, Array.getD_eq_getD_getElem?, List.getElem?_toArray, List.getElem?_cons_succ, List.getElem?_cons_zero, Option.getD_some, Nat.reduceAdd, List.nil_append, List.cons_append, En.get])) | (fail) | (refine fs_pure rfl (fun f => rfl) rfl ?_ ?_ ?_ ?_; (rotate_left; (intro f w1; (skip); go_simp; (first | done | with_reducible rfl)); ((first | exact fun _ _ _ => rfl | exact fun f f' hcg => hcg _ (by kernel_rfl) | (intro f f' hcg; rw [hcg]; kernel_rfl) | (intro f f' hcg; rw [hcg, hcg]; (kernel_rfl; kernel_rfl)) | exact trivial)); (try simp only [Act.put, Act.eval, List.setIfInBounds_toArray, List.set_cons_zero, List.set_cons_succ, Array.getD_eq_getD_getElem?, List.getElem?_toArray, List.getElem?_cons_succ, List.getElem?_cons_zero, Option.getD_some, Nat.reduceAdd, List.nil_append, List.cons_append, En.get])))))
    refine fs_read rfl (fun f => rfl) rfl (fun _ => .int .u8 b9) ?_ (fun _ _ _ => rfl) ?_
    · intro f lof w1 Lf HF HK1
      clear HF
      have hr0 : Rd .u8 w1 (some x) n xs := (HB.out _ HK1.grown).1
      have c0 := rdx_at hr0 9 (by omega)
      rw [← HB9.out] at c0
      rw [Addr.add, if_neg (by decide)] at c0
      clear hr0 HK1
      go_simp
    (try simp only [Act.put, Act.eval, List.setIfInBounds_toArray, List.set_cons_zero, List.set_cons_succ, Array.getD_eq_getD_getElem?, List.getElem?_toArray, List.getElem?_cons_succ, List.getElem?_cons_zero, Option.getD_some, Nat.reduceAdd, List.nil_append, List.cons_append, En.get])
    (repeat (first | (refine fs_skip rfl (fun f => rfl) ?_; (try simp only [Act.put, Act.eval, List.setIfInBounds_toArray, List.set_cons_zero, List.set_cons_succ, Array.getD_eq_getD_getElem?, List.getElem?_toArray, List.getElem?_cons_succ, List.getElem?_cons_zero, Option.getD_some, Nat.reduceAdd, List.nil_append, List.cons_append, En.get])) | (refine fs_move _ rfl rfl (fun f => rfl) rfl ?_ ?_; ((first | exact fun _ _ _ => rfl | exact fun f f' hcg => hcg _ (by kernel_rfl) | (intro f f' hcg; rw [hcg]; kernel_rfl) | (intro f f' hcg; rw [hcg, hcg]; (kernel_rfl; kernel_rfl)) | exact trivial)); (try simp only [Act.put, Act.eval, List.setIfInBounds_toArray, List.set_cons_zero, List.set_cons_succ, Array.getD_eq_getD_getElem?, List.getElem?_toArray, List.getElem?_cons_succ, List.getElem?_cons_zero, Option.getD_some, Nat.reduceAdd, List.nil_append, List.cons_append, En.get])) | (refine fs_assign _ rfl rfl (fun f => rfl) rfl ?_ ?_; ((first | exact fun _ _ _ => rfl | exact fun f f' hcg => hcg _ (by kernel_rfl) | (intro f f' hcg; rw [hcg]; kernel_rfl) | (intro f f' hcg; rw [hcg, hcg]; (kernel_rfl; kernel_rfl)) | exact trivial)); (try simp only [Act.put, Act.eval, List.setIfInBounds_toArray, List.set_cons_zero, List.set_cons_succ, Array.getD_eq_getD_getElem?, List.getElem?_toArray, List.getElem?_cons_succ, List.getElem?_cons_zero, Option.getD_some, Nat.reduceAdd, List.nil_append, List.cons_append, En.get])) | (fail) | (refine fs_pure rfl (fun f => rfl) rfl ?_ ?_ ?_ ?_; (rotate_left; (intro f w1; (skip); go_simp; (first | done | with_reducible rfl)); ((first | exact fun _ _ _ => rfl | exact fun f f' hcg => hcg _ (by kernel_rfl) | (intro f f' hcg; rw [hcg]; kernel_rfl) | (intro f f' hcg; rw [hcg, hcg]; (kernel_rfl; kernel_rfl)) | exact trivial)); (try simp only [Act.put, Act.eval, List.setIfInBounds_toArray, List.set_cons_zero, List.set_cons_succ, Array.getD_eq_getD_getElem?, List.getElem?_toArray, List.getElem?_cons_succ, List.getElem?_cons_zero, Option.getD_some, Nat.reduceAdd, List.nil_append, List.cons_append, En.get])))))
    refine fs_callv rfl (fun f => rfl) rfl 35 _ _ rfl (fun args w => by simp [callFunc, Try.func35]; rfl) (fun _ => .agg #[.bool false, .int .u64 sh, .int .u64 sl]) ?_ (fun _ _ _ => rfl) ?_
    · intro f lof w1 Lf HF HK1
      simp only [List.map_toArray, List.map_cons, List.map_nil, Act.eval, Array.getD_eq_getD_getElem?, List.getElem?_toArray, List.getElem?_cons_succ, List.getElem?_cons_zero, Option.getD_some, List.append_nil]
      clear HF
      have hr := rd_drop' (show Rd .u8 w1 (some x) n xs from (HB.out _ HK1.grown).1) 12 (by omega) hcn
      rw [subAt, if_neg h12n] at hr
      have q4 := readA4_any _ (n - 12) (c - 12) (xs.drop 12) w1 hr (ok_drop HO.out 12) (by omega)
      rw [← HS1.out] at q4
      exact q4
    (try simp only [Act.put, Act.eval, List.setIfInBounds_toArray, List.set_cons_zero, List.set_cons_succ, Array.getD_eq_getD_getElem?, List.getElem?_toArray, List.getElem?_cons_succ, List.getElem?_cons_zero, Option.getD_some, Nat.reduceAdd, List.nil_append, List.cons_append, En.get])
    (repeat (first | (refine fs_skip rfl (fun f => rfl) ?_; (try simp only [Act.put, Act.eval, List.setIfInBounds_toArray, List.set_cons_zero, List.set_cons_succ, Array.getD_eq_getD_getElem?, List.getElem?_toArray, List.getElem?_cons_succ, List.getElem?_cons_zero, Option.getD_some, Nat.reduceAdd, List.nil_append, List.cons_append, En.get])) | (refine fs_move _ rfl rfl (fun f => rfl) rfl ?_ ?_; ((first | exact fun _ _ _ => rfl | exact fun f f' hcg => hcg _ (by kernel_rfl) | (intro f f' hcg; rw [hcg]; kernel_rfl) | (intro f f' hcg; rw [hcg, hcg]; (kernel_rfl; kernel_rfl)) | exact trivial)); (try simp only [Act.put, Act.eval, List.setIfInBounds_toArray, List.set_cons_zero, List.set_cons_succ, Array.getD_eq_getD_getElem?, List.getElem?_toArray, List.getElem?_cons_succ, List.getElem?_cons_zero, Option.getD_some, Nat.reduceAdd, List.nil_append, List.cons_append, En.get])) | (refine fs_assign _ rfl rfl (fun f => rfl) rfl ?_ ?_; ((first | exact fun _ _ _ => rfl | exact fun f f' hcg => hcg _ (by kernel_rfl) | (intro f f' hcg; rw [hcg]; kernel_rfl) | (intro f f' hcg; rw [hcg, hcg]; (kernel_rfl; kernel_rfl)) | exact trivial)); (try simp only [Act.put, Act.eval, List.setIfInBounds_toArray, List.set_cons_zero, List.set_cons_succ, Array.getD_eq_getD_getElem?, List.getElem?_toArray, List.getElem?_cons_succ, List.getElem?_cons_zero, Option.getD_some, Nat.reduceAdd, List.nil_append, List.cons_append, En.get])) | (fail) | (refine fs_pure rfl (fun f => rfl) rfl ?_ ?_ ?_ ?_; (rotate_left; (intro f w1; (skip); go_simp; (first | done | with_reducible rfl)); ((first | exact fun _ _ _ => rfl | exact fun f f' hcg => hcg _ (by kernel_rfl) | (intro f f' hcg; rw [hcg]; kernel_rfl) | (intro f f' hcg; rw [hcg, hcg]; (kernel_rfl; kernel_rfl)) | exact trivial)); (try simp only [Act.put, Act.eval, List.setIfInBounds_toArray, List.set_cons_zero, List.set_cons_succ, Array.getD_eq_getD_getElem?, List.getElem?_toArray, List.getElem?_cons_succ, List.getElem?_cons_zero, Option.getD_some, Nat.reduceAdd, List.nil_append, List.cons_append, En.get])))))
    refine fs_callv rfl (fun f => rfl) rfl 35 _ _ rfl (fun args w => by simp [callFunc, Try.func35]; rfl) (fun _ => .agg #[.bool false, .int .u64 dh, .int .u64 dl]) ?_ (fun _ _ _ => rfl) ?_
    · intro f lof w1 Lf HF HK1
      simp only [List.map_toArray, List.map_cons, List.map_nil, Act.eval, Array.getD_eq_getD_getElem?, List.getElem?_toArray, List.getElem?_cons_succ, List.getElem?_cons_zero, Option.getD_some, List.append_nil]
      clear HF
      have hr := rd_drop' (show Rd .u8 w1 (some x) n xs from (HB.out _ HK1.grown).1) 16 (by omega) hcn
      rw [subAt, if_neg h16n] at hr
      have q4 := readA4_any _ (n - 16) (c - 16) (xs.drop 16) w1 hr (ok_drop HO.out 16) (by omega)
      rw [← HS2.out] at q4
      exact q4
    (try simp only [Act.put, Act.eval, List.setIfInBounds_toArray, List.set_cons_zero, List.set_cons_succ, Array.getD_eq_getD_getElem?, List.getElem?_toArray, List.getElem?_cons_succ, List.getElem?_cons_zero, Option.getD_some, Nat.reduceAdd, List.nil_append, List.cons_append, En.get])
    refine fs_move _ rfl rfl (fun f => rfl) rfl ?_ ?_; ((first | exact fun _ _ _ => rfl | exact fun f f' hcg => hcg _ (by kernel_rfl) | (intro f f' hcg; rw [hcg]; kernel_rfl) | (intro f f' hcg; rw [hcg, hcg]; (kernel_rfl; kernel_rfl)) | exact trivial)); (try simp only [Act.put, Act.eval, List.setIfInBounds_toArray, List.set_cons_zero, List.set_cons_succ, Array.getD_eq_getD_getElem?, List.getElem?_toArray, List.getElem?_cons_succ, List.getElem?_cons_zero, Option.getD_some, Nat.reduceAdd, List.nil_append, List.cons_append, En.get])
    refine fs_pure rfl (fun f => rfl) rfl (fun _ => .slice (some y) m (c - 20)) (fun f w1 => by rw [HY.out, HM.out]; exact run_sl rfl rfl rfl rfl (run_sub_l Try.underlying27 rfl 20 20 rfl (by omega) w1)) (fun _ _ _ => rfl) ?_
    (try simp only [Act.put, Act.eval, List.setIfInBounds_toArray, List.set_cons_zero, List.set_cons_succ, Array.getD_eq_getD_getElem?, List.getElem?_toArray, List.getElem?_cons_succ, List.getElem?_cons_zero, Option.getD_some, Nat.reduceAdd, List.nil_append, List.cons_append, En.get])
    refine fs_list rfl (fun f => rfl) (.res (fun _ v it => ∃ a c, v = .slice a m c ∧ it = [.sl 5 .u8 a m c D])) (fun f => ⟨_, rfl, Nat.le_of_ble_eq_true rfl⟩) ?_ (fun _ _ _ => rfl) ?_
    · intro f lof w1 Lf HF HK1 Q' hQ
      clear HF
      (try simp only [itms, itm, usesOf, readsOf, takesOf, List.find?, Nat.reduceBEq, List.flatMap_cons, List.flatMap_nil, Nat.reduceLT, if_true, if_false, Nat.reduceSub, List.getD_cons_zero, List.getD_cons_succ, List.append_nil, List.cons_append, List.nil_append, List.append_nil] at HK1)
      have hb := HBD.out w1 HK1.grown
      have hs := Bs.src hb
      refine wpList_app_own rfl (HK1.nil 5 .u8) _ _ 27 rfl 5 (.int .u8 0) 1 Try.underlying27 (by kernel_rfl) rfl .u8 _ _ _ _ rfl (.here _) _ m D rfl hb.1.1 hs (by unfold maxLen; omega) (by omega) ?_
      simp only [Nat.zero_add, List.nil_append]
      intro a' c' w' hk
      exact hQ _ _ ⟨_, ⟨a', c', rfl, rfl⟩, hk⟩
    (try simp only [Act.put, Act.eval, List.setIfInBounds_toArray, List.set_cons_zero, List.set_cons_succ, Array.getD_eq_getD_getElem?, List.getElem?_toArray, List.getElem?_cons_succ, List.getElem?_cons_zero, Option.getD_some, Nat.reduceAdd, List.nil_append, List.cons_append, En.get])
    refine fs_read rfl (fun f => rfl) rfl (fun f => .agg #[.bool false, .int .u8 b1, .int .u32 0, .int .u16 I4, .int .u16 I6, .int .u8 b8, .int .u8 b9, .bool false, .int .u64 sh, .int .u64 sl, .bool false, .int .u64 dh, .int .u64 dl, f 25]) ?_ (fun f f' h => by (try dsimp only); rw [h 25 (by kernel_rfl)]) ?_
    · intro f lof w1 Lf HF HK1
      obtain ⟨a, c', hv, hl⟩ := HF 25 (by kernel_rfl)
      rw [hv]
      clear HF HK1 hv hl
      go_simp; first | done | exact ⟨rfl, rfl⟩ | rfl
    (try simp only [Act.put, Act.eval, List.setIfInBounds_toArray, List.set_cons_zero, List.set_cons_succ, Array.getD_eq_getD_getElem?, List.getElem?_toArray, List.getElem?_cons_succ, List.getElem?_cons_zero, Option.getD_some, Nat.reduceAdd, List.nil_append, List.cons_append, En.get])
    refine fs_new rfl (fun f => rfl) rfl (.cells #[Value.bool false, .int .u8 0, .int .u32 0, .int .u16 0, .int .u16 0, .int .u8 0, .int .u8 0, .bool false, .int .u64 0, .int .u64 0, .bool false, .int .u64 0, .int .u64 0, .slice none 0 0] 29 (0, 0)) (fun f w1 => by go_simp; first | done | exact ⟨rfl, rfl⟩ | rfl) ?_
    (try simp only [Act.put, Act.eval, List.setIfInBounds_toArray, List.set_cons_zero, List.set_cons_succ, Array.getD_eq_getD_getElem?, List.getElem?_toArray, List.getElem?_cons_succ, List.getElem?_cons_zero, Option.getD_some, Nat.reduceAdd, List.nil_append, List.cons_append, En.get])
    refine fs_store rfl (fun f => rfl) (fun f it => ∃ q, f 27 = .pointer (some ⟨q, 0, none⟩) ∧ it = [.blk q (.cells #[.bool false, .int .u8 b1, .int .u32 0, .int .u16 I4, .int .u16 I6, .int .u8 b8, .int .u8 b9, .bool false, .int .u64 sh, .int .u64 sl, .bool false, .int .u64 dh, .int .u64 dl, f 25] 29 (0, 0))]) rfl ?_ (fun f f' h => by (try dsimp only); rw [h 25 (by kernel_rfl), h 27 (by kernel_rfl)]) ?_
    · intro f lof w1 Lf HF HK1 Q' hQ
      obtain ⟨a, c', hv, hl⟩ := HF 25 (by kernel_rfl)
      obtain ⟨q, hv27, hl27⟩ := HF 27 (by kernel_rfl)
      clear HF
      (try simp only [itms, itm, usesOf, readsOf, takesOf, List.find?, Nat.reduceBEq, List.flatMap_cons, List.flatMap_nil, Nat.reduceLT, if_true, if_false, Nat.reduceSub, List.getD_cons_zero, List.getD_cons_succ, List.append_nil, List.cons_append, List.nil_append, hl27] at HK1)
      refine wpList_put_blk rfl HK1 29 _ _ rfl q #[.bool false, .int .u8 b1, .int .u32 0, .int .u16 I4, .int .u16 I6, .int .u8 b8, .int .u8 b9, .bool false, .int .u64 sh, .int .u64 sl, .bool false, .int .u64 dh, .int .u64 dl, f 25] hv27 rfl _ _ (.here _) rfl (by kernel_rfl) (by rw [hv]; simp [Value.oneCell']) ?_
      intro w' hk
      exact hQ _ ⟨_, ⟨q, hv27, rfl⟩, hk⟩
    (try simp only [Act.put, Act.eval, List.setIfInBounds_toArray, List.set_cons_zero, List.set_cons_succ, Array.getD_eq_getD_getElem?, List.getElem?_toArray, List.getElem?_cons_succ, List.getElem?_cons_zero, Option.getD_some, Nat.reduceAdd, List.nil_append, List.cons_append, En.get])
    refine fs_end ?_
    intro f lof wn HF hk
    obtain ⟨a5, c5, hv, hl⟩ := HF 25 (by decide)
    obtain ⟨q, hv27, hl28⟩ := HF 28 (by decide)
    (try simp only [itms, itm, usesOf, readsOf, takesOf, List.find?, Nat.reduceBEq, List.flatMap_cons, List.flatMap_nil, Nat.reduceLT, if_true, if_false, Nat.reduceSub, List.getD_cons_zero, List.getD_cons_succ, List.append_nil, List.cons_append, List.nil_append, show lof 28 = _ from hl28, hl] at hk)
    rw [hv] at hk ⊢
    rw [hv27]
    clear HF hv hl hv27 hl28
    generalize f 28 = z28
    clear f lof
    clear HK
    have HK := Lib.hid hk
    clear hk
    go_wp2_with (refine wpList_run rfl (run_rowl rfl rfl (HK.out.at (.here _)) Try.underlying29 rfl (by kernel_rfl)) ?_)
    have q4 := rput_any (⟨false, b1, 0, I4, I6, b8, b9, ⟨false, sh, sl⟩, ⟨false, dh, dl⟩⟩ : Pk) ⟨a5, m, c5, D⟩ _ HPO.out (own_bs HK.out (.next _ (.here _)) HDO.out (by omega))
    rw [show putE (⟨false, b1, 0, I4, I6, b8, b9, ⟨false, sh, sl⟩, ⟨false, dh, dl⟩⟩ : Pk) (⟨a5, m, c5, D⟩ : Bs).len = 0 from HPE.out, show putL (⟨false, b1, 0, I4, I6, b8, b9, ⟨false, sh, sl⟩, ⟨false, dh, dl⟩⟩ : Pk) (⟨a5, m, c5, D⟩ : Bs).xs = Z from HPL.out] at q4
    refine q4.mono ?_
    clear q4
    rintro e w5 ⟨a6, m6, c6, rfl, ho, hg⟩
    have hk := own_back HK.out hg ho
    clear ho hg
    clear HK
    have HK := Lib.hid hk
    clear hk
    have hst := str8_eq (xs := Z) (ys := xs) HZO.out HO.out
    by_cases hq : Z = xs
    · have hs1 : ((str8 Z).toList == (str8 xs).toList) = true := by rw [hst]; exact beq_iff_eq.2 hq
      have hs2 : ((str8 Z).toList != (str8 xs).toList) = false := by rw [bne, hs1]; rfl
      have HQ := Lib.hid hq
      clear hq hst
      go_wp2_with (first | (refine wpList_run rfl (run_str rfl Try.underlying27 Try.underlying5 Try.underlying9 rfl (HK.out.rdsl (.here _))) ?_) | (refine wpList_run rfl (run_str rfl Try.underlying27 Try.underlying5 Try.underlying9 rfl (HB.out _ HK.out.grown).1) ?_) | (refine wpList_run rfl (run_rowl rfl rfl (HK.out.at (.next _ (.here _))) Try.underlying29 rfl (by kernel_rfl)) ?_) | (refine wpList_put_blk rfl HK.out 29 _ _ rfl p #[.bool false, .int .u8 b1, .int .u32 0, .int .u16 I4, .int .u16 I6, .int .u8 b8, .int .u8 b9, .bool false, .int .u64 sh, .int .u64 sl, .bool false, .int .u64 dh, .int .u64 dl, .slice a5 m c5] rfl rfl _ _ (by first | exact Upd.here _ | exact Upd.next _ (Upd.here _) | exact Upd.next _ (Upd.next _ (Upd.here _)) | exact Upd.next _ (Upd.next _ (Upd.next _ (Upd.here _))) | exact Upd.next _ (Upd.next _ (Upd.next _ (Upd.next _ (Upd.here _)))) | exact Upd.next _ (Upd.next _ (Upd.next _ (Upd.next _ (Upd.next _ (Upd.here _))))) | exact Upd.next _ (Upd.next _ (Upd.next _ (Upd.next _ (Upd.next _ (Upd.next _ (Upd.here _)))))) | exact Upd.next _ (Upd.next _ (Upd.next _ (Upd.next _ (Upd.next _ (Upd.next _ (Upd.next _ (Upd.here _))))))) | exact Upd.next _ (Upd.next _ (Upd.next _ (Upd.next _ (Upd.next _ (Upd.next _ (Upd.next _ (Upd.next _ (Upd.here _)))))))) | exact Upd.next _ (Upd.next _ (Upd.next _ (Upd.next _ (Upd.next _ (Upd.next _ (Upd.next _ (Upd.next _ (Upd.next _ (Upd.here _)))))))))) (by rfl) (by kernel_rfl) (by simp [Value.oneCell']) ?_; (intro wn hkn; have HKN := Lib.hid hkn; clear hkn; clear HK; have HK := HKN; clear HKN)))
      exact bodyPost_ret (results_cell_tmp_row rfl _ _ p _ _ _ _ rfl (HK.out.at (by first | exact Has.here _ | exact Has.next _ (Has.here _) | exact Has.next _ (Has.next _ (Has.here _)) | exact Has.next _ (Has.next _ (Has.next _ (Has.here _))) | exact Has.next _ (Has.next _ (Has.next _ (Has.next _ (Has.here _)))) | exact Has.next _ (Has.next _ (Has.next _ (Has.next _ (Has.next _ (Has.here _))))) | exact Has.next _ (Has.next _ (Has.next _ (Has.next _ (Has.next _ (Has.next _ (Has.here _)))))) | exact Has.next _ (Has.next _ (Has.next _ (Has.next _ (Has.next _ (Has.next _ (Has.next _ (Has.here _))))))) | exact Has.next _ (Has.next _ (Has.next _ (Has.next _ (Has.next _ (Has.next _ (Has.next _ (Has.next _ (Has.here _)))))))) | exact Has.next _ (Has.next _ (Has.next _ (Has.next _ (Has.next _ (Has.next _ (Has.next _ (Has.next _ (Has.next _ (Has.here _))))))))))) Try.underlying29 rfl (by kernel_rfl)) rfl (by rw [HR.out, if_pos HQ.out]; exact ⟨a5, c5, by rw [HDL.out]; rfl, by rw [HDL.out]; exact HK.out.get (.next _ (.next _ (.here _))), HK.out.grown⟩)
    · have hs1 : ((str8 Z).toList == (str8 xs).toList) = false := by rw [hst]; exact beq_eq_false_iff_ne.2 hq
      have hs2 : ((str8 Z).toList != (str8 xs).toList) = true := by rw [bne, hs1]; rfl
      have HQ := Lib.hid hq
      clear hq hst
      go_wp2_with (first | (refine wpList_run rfl (run_str rfl Try.underlying27 Try.underlying5 Try.underlying9 rfl (HK.out.rdsl (.here _))) ?_) | (refine wpList_run rfl (run_str rfl Try.underlying27 Try.underlying5 Try.underlying9 rfl (HB.out _ HK.out.grown).1) ?_) | (refine wpList_put_blk rfl HK.out 29 _ _ rfl p #[.bool false, .int .u8 0, .int .u32 0, .int .u16 0, .int .u16 0, .int .u8 0, .int .u8 0, .bool false, .int .u64 0, .int .u64 0, .bool false, .int .u64 0, .int .u64 0, .slice none 0 0] rfl rfl _ _ (by first | exact Upd.here _ | exact Upd.next _ (Upd.here _) | exact Upd.next _ (Upd.next _ (Upd.here _)) | exact Upd.next _ (Upd.next _ (Upd.next _ (Upd.here _))) | exact Upd.next _ (Upd.next _ (Upd.next _ (Upd.next _ (Upd.here _)))) | exact Upd.next _ (Upd.next _ (Upd.next _ (Upd.next _ (Upd.next _ (Upd.here _))))) | exact Upd.next _ (Upd.next _ (Upd.next _ (Upd.next _ (Upd.next _ (Upd.next _ (Upd.here _)))))) | exact Upd.next _ (Upd.next _ (Upd.next _ (Upd.next _ (Upd.next _ (Upd.next _ (Upd.next _ (Upd.here _))))))) | exact Upd.next _ (Upd.next _ (Upd.next _ (Upd.next _ (Upd.next _ (Upd.next _ (Upd.next _ (Upd.next _ (Upd.here _)))))))) | exact Upd.next _ (Upd.next _ (Upd.next _ (Upd.next _ (Upd.next _ (Upd.next _ (Upd.next _ (Upd.next _ (Upd.next _ (Upd.here _)))))))))) (by rfl) (by kernel_rfl) (by simp [Value.oneCell']) ?_; (intro wn hkn; have HKN := Lib.hid hkn; clear hkn; clear HK; have HK := HKN; clear HKN)))
      exact bodyPost_ret (results_cell_tmp_row rfl _ _ p _ _ _ _ rfl (HK.out.at (by first | exact Has.here _ | exact Has.next _ (Has.here _) | exact Has.next _ (Has.next _ (Has.here _)) | exact Has.next _ (Has.next _ (Has.next _ (Has.here _))) | exact Has.next _ (Has.next _ (Has.next _ (Has.next _ (Has.here _)))) | exact Has.next _ (Has.next _ (Has.next _ (Has.next _ (Has.next _ (Has.here _))))) | exact Has.next _ (Has.next _ (Has.next _ (Has.next _ (Has.next _ (Has.next _ (Has.here _)))))) | exact Has.next _ (Has.next _ (Has.next _ (Has.next _ (Has.next _ (Has.next _ (Has.next _ (Has.here _))))))) | exact Has.next _ (Has.next _ (Has.next _ (Has.next _ (Has.next _ (Has.next _ (Has.next _ (Has.next _ (Has.here _)))))))) | exact Has.next _ (Has.next _ (Has.next _ (Has.next _ (Has.next _ (Has.next _ (Has.next _ (Has.next _ (Has.next _ (Has.here _))))))))))) Try.underlying29 rfl (by kernel_rfl)) rfl (by rw [HR.out, if_neg HQ.out]; exact ⟨none, 0, rfl, own_nil_row _ _ _, HK.out.grown⟩)
end Go.Proofs.Ytmankjhopfilaaa
