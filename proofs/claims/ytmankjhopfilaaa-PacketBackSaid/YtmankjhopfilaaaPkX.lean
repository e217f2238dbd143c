/- What bytes of version 6 are: the reference's PacketParse. -/
import Derived.Test.YtmankjhopfilaaaPkW
import Derived.Test.YtmankjhopfilaaaPkQ
namespace Go.Proofs.Ytmankjhopfilaaa
set_option linter.unusedVariables false
set_option linter.unusedSimpArgs false
open Go.RowKit Go.Proofs.YtmankjhopfilaaaL

theorem u32_and20 (x : Int) (h0 : 0 ≤ x) (h1 : x < 4294967296) : bits .and .u32 x 1048575 = x % 1048576 := by
  obtain ⟨X, rfl⟩ := Int.eq_ofNat_of_zero_le h0
  rw [show (1048575 : Int) = ((2 ^ 20 - 1 : Nat) : Int) from rfl, u32_and_nat X _ (by omega) (by decide), Nat.and_two_pow_sub_one_eq_mod]
  rfl
set_option maxHeartbeats 8000000 in
set_option maxRecDepth 100000 in
theorem rparse6_any (x : Addr) (n c : Nat) (xs : List Int) (w : World) (hb : (⟨some x, n, c, xs⟩ : Bs).ok w) (hcn : n ≤ c) (hn : n ≤ 1400) (h40 : 40 ≤ n) (h6 : xs.getD 0 0 / 16 = 6) (hv : beV (sec xs 4 6) = n - 40) :
    Calls Try.prog 19 #[.slice (some x) n c] w fun e w' => (⟨0, pk6 xs, xs.drop 40⟩ : Rs).ret w w' e := by
  have HB := Lib.hid (fun (w' : World) (g : w.grownBy w' none) => Bs.ok_keep hb g)
  have HL := Lib.hid (show xs.length = n from hb.1.1)
  have HO := Lib.hid (show okB 256 xs from hb.2.1)
  have hmax2 : ¬ (1400 : Int) < n := by omega
  have HBD0 := fun (w' : World) (g : w.grownBy w' none) => back_ok (b := ⟨some x, n, c, xs⟩) (Bs.ok_keep hb g) 40 (show 40 ≤ n by omega) hcn
  obtain ⟨X, hX⟩ : ∃ X, X = xs.getD 0 0 := ⟨_, rfl⟩
  have HX := Lib.hid hX
  have hb6 : (X / 16 == 6) = true := beq_iff_eq.2 (by rw [hX]; exact h6)
  clear hX h6
  obtain ⟨V4, hV4⟩ : ∃ V, V = beV ((xs.drop 4).take 2) := ⟨_, rfl⟩
  obtain ⟨v40, v41⟩ : 0 ≤ V4 ∧ V4 < 65536 := by rw [hV4]; exact beV_two (by rw [List.length_take, List.length_drop, HL.out]; omega) (ok_take (ok_drop HO.out _) _)
  have HV4 := Lib.hid hV4
  have hnv : (V4 == (n : Int) - 40) = true := beq_iff_eq.2 (by rw [hV4, ← hv, sec_eq])
  clear hV4 hv hb
  have hc4 : ¬ c = 4 := by omega
  have hc4' : (4 : Int) ≤ c := by omega
  have hcn2 : (n : Int) ≤ c := by omega
  have hn40 : (40 : Int) ≤ n := by omega
  obtain ⟨b6, hb6'⟩ : ∃ b, b = xs.getD 6 0 := ⟨_, rfl⟩
  obtain ⟨b7, hb7⟩ : ∃ b, b = xs.getD 7 0 := ⟨_, rfl⟩
  obtain ⟨W, hW⟩ : ∃ b, b = beV (xs.take 4) := ⟨_, rfl⟩
  obtain ⟨C, hC⟩ : ∃ b, b = W / 1048576 % 256 := ⟨_, rfl⟩
  obtain ⟨F, hF⟩ : ∃ b, b = W % 1048576 := ⟨_, rfl⟩
  obtain ⟨⟨v1, sh, sl⟩, hs1⟩ : ∃ b, b = ad6 (sec xs 8 24) := ⟨_, rfl⟩
  obtain ⟨⟨v2, dh, dl⟩, hs2⟩ : ∃ b, b = ad6 (sec xs 24 40) := ⟨_, rfl⟩
  obtain ⟨D, hD⟩ : ∃ b, b = xs.drop 40 := ⟨_, rfl⟩
  rw [pk6, ← hb6', ← hb7, ← hW, ← hC, ← hF, ← hs1, ← hs2, ← hD]
  obtain rfl : v1 = true := congrArg Ad.v6 hs1
  obtain rfl : v2 = true := congrArg Ad.v6 hs2
  obtain ⟨m, hm⟩ : ∃ m, m = n - 40 := ⟨_, rfl⟩
  have hDl : D.length = m := by rw [hD, List.length_drop, HL.out, hm]
  obtain ⟨y, hy⟩ : ∃ y, some y = subAt (some x) 40 c := by unfold subAt; split; exact ⟨_, rfl⟩; exact ⟨_, rfl⟩
  have HBD := Lib.hid (show ∀ w', w.grownBy w' none → (⟨some y, m, c - 40, D⟩ : Bs).ok w' by rw [hy, hm, hD]; exact HBD0)
  have hWr : 0 ≤ W ∧ W < 4294967296 := by rw [hW]; exact beV_range 4 _ (by rw [List.length_take, HL.out]; omega) (ok_take HO.out _)
  have HB6 := Lib.hid hb6'
  have HB7 := Lib.hid hb7
  have HWW := Lib.hid hW
  have HS1 := Lib.hid (hs1.trans (ad6_sec xs 8).symm)
  have HS2 := Lib.hid (hs2.trans (ad6_sec xs 24).symm)
  have HM := Lib.hid hm
  have HY := Lib.hid hy
  have HWC := Lib.hid (show IntKind.u8.wrap (W / 1048576) = C by rw [hC]; rw [IntKind.wrap_u8])
  have HWG := Lib.hid (show IntKind.u32.wrap W = W by rw [IntKind.wrap_u32]; omega)
  have HWF := Lib.hid (show bits .and .u32 W 1048575 = F by rw [hF]; exact u32_and20 W hWr.1 hWr.2)
  have HDL := Lib.hid hDl
  obtain ⟨hW0, hW1⟩ := hWr
  have hm9 : m ≤ 1400 := by omega
  clear hb6' hb7 hW hC hF hs1 hs2 hD hm hDl hy HBD0
  have HK := Lib.hid (own_start w)
  show Calls Try.prog _ #[.slice (some x) n c] w fun e w' => ∃ a c, e = .returned (.tuple #[.agg #[.bool true, .int .u8 C, .int .u32 F, .int .u16 0, .int .u16 0, .int .u8 b7, .int .u8 b6, .bool true, .int .u64 sh, .int .u64 sl, .bool true, .int .u64 dh, .int .u64 dl, .slice a D.length c], .int .i64 0]) ∧ w'.ownsRow w.heap.size 5 1 (.slice a D.length c) D.length (D.map (Value.int .u8)) ∧ w.grownBy w' none
  rw [HDL.out]
  show Calls Try.prog _ #[.slice (some x) n c] w fun e w' => ∃ a c, e = .returned (.tuple #[.agg #[.bool true, .int .u8 C, .int .u32 F, .int .u16 0, .int .u16 0, .int .u8 b7, .int .u8 b6, .bool true, .int .u64 sh, .int .u64 sl, .bool true, .int .u64 dh, .int .u64 dl, .slice a m c], .int .i64 0]) ∧ w'.ownsRow w.heap.size 5 1 (.slice a m c) m (D.map (Value.int .u8)) ∧ w.grownBy w' none
  go_enter Try.func19, Try.ntmps19
  go_upto_region 1 with fail
  have hk := own_alloc HK.out (Obj.cells #[Value.bool false, .int .u8 0, .int .u32 0, .int .u16 0, .int .u16 0, .int .u8 0, .int .u8 0, .bool false, .int .u64 0, .int .u64 0, .bool false, .int .u64 0, .int .u64 0, .slice none 0 0] 29 (0, 0))
  obtain ⟨p, hp⟩ : ∃ p, p = w.heap.size := ⟨_, rfl⟩
  rw [← hp] at hk ⊢
  clear hp
  clear HK
  have HK := Lib.hid hk
  clear hk
  generalize w.alloc (Obj.cells #[Value.bool false, .int .u8 0, .int .u32 0, .int .u16 0, .int .u16 0, .int .u8 0, .int .u8 0, .bool false, .int .u64 0, .int .u64 0, .bool false, .int .u64 0, .int .u64 0, .slice none 0 0] 29 (0, 0)) = w1 at HK ⊢
  have hr0 : Rd .u8 w1 (some x) n xs := (HB.out _ HK.out.grown).1
  have c0 := rdx_at hr0 0 (by omega)
  rw [← HX.out] at c0
  have c0' : w1.cell? x = some (.int .u8 X) := by rw [← c0]; rfl
  clear hr0
  go_wp2_with fail
  have hr := rd_drop' (show Rd .u8 w1 (some x) n xs from (HB.out _ HK.out.grown).1) 4 (by omega) hcn
  rw [subAt, if_neg hc4] at hr
  refine (readU_any _ (n - 4) 2 _ (xs.drop 4) w1 hr (ok_drop HO.out 4) (by decide) (by omega)).mono ?_
  clear hr
  rintro e w2 ⟨rfl, rfl⟩
  rw [← HV4.out]
  go_wp2_with fail
  refine (readU_any (some x) n 4 c xs w2 (HB.out _ HK.out.grown).1 HO.out (by decide) (by omega)).mono ?_
  rintro e w3 ⟨rfl, rfl⟩
  rw [← HWW.out]
  clear c0 c0'
  go_upto_region 5 with fail
  have h8n : ¬ c = 8 := by omega
  have h24n : ¬ c = 24 := by omega
  have h8c : (8 : Int) ≤ n := by omega
  have h24c : (24 : Int) ≤ n := by omega
  have h6n : (6 : Int) < n := by omega
  have h7n : (7 : Int) < n := by omega
  clear hnv
  refine wp_region_sep [[.blk p (Obj.cells #[Value.bool false, .int .u8 0, .int .u32 0, .int .u16 0, .int .u16 0, .int .u8 0, .int .u8 0, .bool false, .int .u64 0, .int .u64 0, .bool false, .int .u64 0, .int .u64 0, .slice none 0 0] 29 (0, 0))]] [] [(22, [], [24])] [22, 20] 24 (by kernel_rfl) (by kernel_rfl) (w0 := w) HK.out ?_
  (try simp only [Act.put, Act.eval, List.setIfInBounds_toArray, List.set_cons_zero, List.set_cons_succ, Array.getD_eq_getD_getElem?, List.getElem?_toArray, List.getElem?_cons_succ, List.getElem?_cons_zero, Option.getD_some, Nat.reduceAdd, List.nil_append, List.cons_append, En.get])
  (repeat (first | (refine fs_skip rfl (fun f => rfl) ?_; (try simp only [Act.put, Act.eval, List.setIfInBounds_toArray, List.set_cons_zero, List.set_cons_succ, Array.getD_eq_getD_getElem?, List.getElem?_toArray, List.getElem?_cons_succ, List.getElem?_cons_zero, Option.getD_some, Nat.reduceAdd, List.nil_append, List.cons_append, En.get])) | (refine fs_move _ rfl rfl (fun f => rfl) rfl ?_ ?_; ((first | exact fun _ _ _ => rfl | exact fun f f' hcg => hcg _ (by kernel_rfl) | (intro f f' hcg; rw [hcg]; kernel_rfl) | (intro f f' hcg; rw [hcg, hcg]; (kernel_rfl; kernel_rfl)) | exact trivial)); (try simp only [Act.put, Act.eval, List.setIfInBounds_toArray, List.set_cons_zero, List.set_cons_succ, Array.getD_eq_getD_getElem?, List.getElem?_toArray, List.getElem?_cons_succ, List.getElem?_cons_zero, Option.getD_some, Nat.reduceAdd, List.nil_append, List.cons_append, En.get])) | (refine fs_assign _ rfl rfl (fun f => rfl) rfl ?_ ?_; ((first | exact fun _ _ _ => rfl | exact fun f f' hcg => hcg _ (by kernel_rfl) | (intro f f' hcg; rw [hcg]; kernel_rfl) | (intro f f' hcg; rw [hcg, hcg]; (kernel_rfl; kernel_rfl)) | exact trivial)); (try simp only [Act.put, Act.eval, List.setIfInBounds_toArray, List.set_cons_zero, List.set_cons_succ, Array.getD_eq_getD_getElem?, List.getElem?_toArray, List.getElem?_cons_succ, List.getElem?_cons_zero, Option.getD_some, Nat.reduceAdd, List.nil_append, List.cons_append, En.get])) | (fail) | (refine fs_pure rfl (fun f => rfl) rfl ?_ ?_ ?_ ?_; (rotate_left; (intro f w1; ((have hwc := HWC.out; have hwg := HWG.out; have hwf := HWF.out)); go_simp; (first | done | with_reducible rfl)); ((first | exact fun _ _ _ => rfl | exact fun f f' hcg => hcg _ (by kernel_rfl) | (intro f f' hcg; rw [hcg]; kernel_rfl) | (intro f f' hcg; rw [hcg, hcg]; (kernel_rfl; kernel_rfl)) | exact trivial)); (try simp only [Act.put, Act.eval, List.setIfInBounds_toArray, List.set_cons_zero, List.set_cons_succ, Array.getD_eq_getD_getElem?, List.getElem?_toArray, List.getElem?_cons_succ, List.getElem?_cons_zero, Option.getD_some, Nat.reduceAdd, List.nil_append, List.cons_append, En.get])))))
  refine fs_read rfl (fun f => rfl) rfl (fun _ => .int .u8 b6) ?_ (fun _ _ _ => rfl) ?_
  · intro f lof w1 Lf HF HK1
    clear HF
    have hr0 : Rd .u8 w1 (some x) n xs := (HB.out _ HK1.grown).1
    have c0 := rdx_at hr0 6 (by omega)
    rw [← HB6.out] at c0
    rw [Addr.add, if_neg (by decide)] at c0
    clear hr0 HK1
    go_simp
  (try simp only [Act.put, Act.eval, List.setIfInBounds_toArray, List.set_cons_zero, List.set_cons_succ, Array.getD_eq_getD_getElem?, List.getElem?_toArray, List.getElem?_cons_succ, List.getElem?_cons_zero, Option.getD_some, Nat.reduceAdd, List.nil_append, List.cons_append, En.get])
  (repeat (first | (refine fs_skip rfl (fun f => rfl) ?_; (try simp only [Act.put, Act.eval, List.setIfInBounds_toArray, List.set_cons_zero, List.set_cons_succ, Array.getD_eq_getD_getElem?, List.getElem?_toArray, List.getElem?_cons_succ, List.getElem?_cons_zero, Option.getD_some, Nat.reduceAdd, List.nil_append, List.cons_append, En.get])) | (refine fs_move _ rfl rfl (fun f => rfl) rfl ?_ ?_; ((first | exact fun _ _ _ => rfl | exact fun f f' hcg => hcg _ (by kernel_rfl) | (intro f f' hcg; rw [hcg]; kernel_rfl) | (intro f f' hcg; rw [hcg, hcg]; (kernel_rfl; kernel_rfl)) | exact trivial)); (try simp only [Act.put, Act.eval, List.setIfInBounds_toArray, List.set_cons_zero, List.set_cons_succ, Array.getD_eq_getD_getElem?, List.getElem?_toArray, List.getElem?_cons_succ, List.getElem?_cons_zero, Option.getD_some, Nat.reduceAdd, List.nil_append, List.cons_append, En.get])) | (refine fs_assign _ rfl rfl (fun f => rfl) rfl ?_ ?_; ((first | exact fun _ _ _ => rfl | exact fun f f' hcg => hcg _ (by kernel_rfl) | (intro f f' hcg; rw [hcg]; kernel_rfl) | (intro f f' hcg; rw [hcg, hcg]; (kernel_rfl; kernel_rfl)) | exact trivial)); (try simp only [Act.put, Act.eval, List.setIfInBounds_toArray, List.set_cons_zero, List.set_cons_succ, Array.getD_eq_getD_getElem?, List.getElem?_toArray, List.getElem?_cons_succ, List.getElem?_cons_zero, Option.getD_some, Nat.reduceAdd, List.nil_append, List.cons_append, En.get])) | (fail) | (refine fs_pure rfl (fun f => rfl) rfl ?_ ?_ ?_ ?_; (rotate_left; (intro f w1; (skip); go_simp; (first | done | with_reducible rfl)); ((first | exact fun _ _ _ => rfl | exact fun f f' hcg => hcg _ (by kernel_rfl) | (intro f f' hcg; rw [hcg]; kernel_rfl) | (intro f f' hcg; rw [hcg, hcg]; (kernel_rfl; kernel_rfl)) | exact trivial)); (try simp only [Act.put, Act.eval, List.setIfInBounds_toArray, List.set_cons_zero, List.set_cons_succ, Array.getD_eq_getD_getElem?, List.getElem?_toArray, List.getElem?_cons_succ, List.getElem?_cons_zero, Option.getD_some, Nat.reduceAdd, List.nil_append, List.cons_append, En.get])))))
  refine fs_read rfl (fun f => rfl) rfl (fun _ => .int .u8 b7) ?_ (fun _ _ _ => rfl) ?_
  · intro f lof w1 Lf HF HK1
    clear HF
    have hr0 : Rd .u8 w1 (some x) n xs := (HB.out _ HK1.grown).1
    have c0 := rdx_at hr0 7 (by omega)
    rw [← HB7.out] at c0
    rw [Addr.add, if_neg (by decide)] at c0
    clear hr0 HK1
    go_simp
  (try simp only [Act.put, Act.eval, List.setIfInBounds_toArray, List.set_cons_zero, List.set_cons_succ, Array.getD_eq_getD_getElem?, List.getElem?_toArray, List.getElem?_cons_succ, List.getElem?_cons_zero, Option.getD_some, Nat.reduceAdd, List.nil_append, List.cons_append, En.get])
  (repeat (first | (refine fs_skip rfl (fun f => rfl) ?_; (try simp only [Act.put, Act.eval, List.setIfInBounds_toArray, List.set_cons_zero, List.set_cons_succ, Array.getD_eq_getD_getElem?, List.getElem?_toArray, List.getElem?_cons_succ, List.getElem?_cons_zero, Option.getD_some, Nat.reduceAdd, List.nil_append, List.cons_append, En.get])) | (refine fs_move _ rfl rfl (fun f => rfl) rfl ?_ ?_; ((first | exact fun _ _ _ => rfl | exact fun f f' hcg => hcg _ (by kernel_rfl) | (intro f f' hcg; rw [hcg]; kernel_rfl) | (intro f f' hcg; rw [hcg, hcg]; (kernel_rfl; kernel_rfl)) | exact trivial)); (try simp only [Act.put, Act.eval, List.setIfInBounds_toArray, List.set_cons_zero, List.set_cons_succ, Array.getD_eq_getD_getElem?, List.getElem?_toArray, List.getElem?_cons_succ, List.getElem?_cons_zero, Option.getD_some, Nat.reduceAdd, List.nil_append, List.cons_append, En.get])) | (refine fs_assign _ rfl rfl (fun f => rfl) rfl ?_ ?_; ((first | exact fun _ _ _ => rfl | exact fun f f' hcg => hcg _ (by kernel_rfl) | (intro f f' hcg; rw [hcg]; kernel_rfl) | (intro f f' hcg; rw [hcg, hcg]; (kernel_rfl; kernel_rfl)) | exact trivial)); (try simp only [Act.put, Act.eval, List.setIfInBounds_toArray, List.set_cons_zero, List.set_cons_succ, Array.getD_eq_getD_getElem?, List.getElem?_toArray, List.getElem?_cons_succ, List.getElem?_cons_zero, Option.getD_some, Nat.reduceAdd, List.nil_append, List.cons_append, En.get])) | (fail) | (refine fs_pure rfl (fun f => rfl) rfl ?_ ?_ ?_ ?_; (rotate_left; (intro f w1; (skip); go_simp; (first | done | with_reducible rfl)); ((first | exact fun _ _ _ => rfl | exact fun f f' hcg => hcg _ (by kernel_rfl) | (intro f f' hcg; rw [hcg]; kernel_rfl) | (intro f f' hcg; rw [hcg, hcg]; (kernel_rfl; kernel_rfl)) | exact trivial)); (try simp only [Act.put, Act.eval, List.setIfInBounds_toArray, List.set_cons_zero, List.set_cons_succ, Array.getD_eq_getD_getElem?, List.getElem?_toArray, List.getElem?_cons_succ, List.getElem?_cons_zero, Option.getD_some, Nat.reduceAdd, List.nil_append, List.cons_append, En.get])))))
  refine fs_callv rfl (fun f => rfl) rfl 35 _ _ rfl (fun args w => by simp [callFunc, Try.func35]; rfl) (fun _ => .agg #[.bool true, .int .u64 sh, .int .u64 sl]) ?_ (fun _ _ _ => rfl) ?_
  · intro f lof w1 Lf HF HK1
    simp only [List.map_toArray, List.map_cons, List.map_nil, Act.eval, Array.getD_eq_getD_getElem?, List.getElem?_toArray, List.getElem?_cons_succ, List.getElem?_cons_zero, Option.getD_some, List.append_nil]
    clear HF
    have hr := rd_drop' (show Rd .u8 w1 (some x) n xs from (HB.out _ HK1.grown).1) 8 (by omega) hcn
    rw [subAt, if_neg h8n] at hr
    have q4 := readA6_any (x.add (8 * 1)) (n - 8) (c - 8) (xs.drop 8) w1 hr (ok_drop HO.out 8) (by omega) (by omega)
    rw [← HS1.out] at q4
    exact q4
  (try simp only [Act.put, Act.eval, List.setIfInBounds_toArray, List.set_cons_zero, List.set_cons_succ, Array.getD_eq_getD_getElem?, List.getElem?_toArray, List.getElem?_cons_succ, List.getElem?_cons_zero, Option.getD_some, Nat.reduceAdd, List.nil_append, List.cons_append, En.get])
  (repeat (first | (refine fs_skip rfl (fun f => rfl) ?_; (try simp only [Act.put, Act.eval, List.setIfInBounds_toArray, List.set_cons_zero, List.set_cons_succ, Array.getD_eq_getD_getElem?, List.getElem?_toArray, List.getElem?_cons_succ, List.getElem?_cons_zero, Option.getD_some, Nat.reduceAdd, List.nil_append, List.cons_append, En.get])) | (refine fs_move _ rfl rfl (fun f => rfl) rfl ?_ ?_; ((first | exact fun _ _ _ => rfl | exact fun f f' hcg => hcg _ (by kernel_rfl) | (intro f f' hcg; rw [hcg]; kernel_rfl) | (intro f f' hcg; rw [hcg, hcg]; (kernel_rfl; kernel_rfl)) | exact trivial)); (try simp only [Act.put, Act.eval, List.setIfInBounds_toArray, List.set_cons_zero, List.set_cons_succ, Array.getD_eq_getD_getElem?, List.getElem?_toArray, List.getElem?_cons_succ, List.getElem?_cons_zero, Option.getD_some, Nat.reduceAdd, List.nil_append, List.cons_append, En.get])) | (refine fs_assign _ rfl rfl (fun f => rfl) rfl ?_ ?_; ((first | exact fun _ _ _ => rfl | exact fun f f' hcg => hcg _ (by kernel_rfl) | (intro f f' hcg; rw [hcg]; kernel_rfl) | (intro f f' hcg; rw [hcg, hcg]; (kernel_rfl; kernel_rfl)) | exact trivial)); (try simp only [Act.put, Act.eval, List.setIfInBounds_toArray, List.set_cons_zero, List.set_cons_succ, Array.getD_eq_getD_getElem?, List.getElem?_toArray, List.getElem?_cons_succ, List.getElem?_cons_zero, Option.getD_some, Nat.reduceAdd, List.nil_append, List.cons_append, En.get])) | (fail) | (refine fs_pure rfl (fun f => rfl) rfl ?_ ?_ ?_ ?_; (rotate_left; (intro f w1; (skip); go_simp; (first | done | with_reducible rfl)); ((first | exact fun _ _ _ => rfl | exact fun f f' hcg => hcg _ (by kernel_rfl) | (intro f f' hcg; rw [hcg]; kernel_rfl) | (intro f f' hcg; rw [hcg, hcg]; (kernel_rfl; kernel_rfl)) | exact trivial)); (try simp only [Act.put, Act.eval, List.setIfInBounds_toArray, List.set_cons_zero, List.set_cons_succ, Array.getD_eq_getD_getElem?, List.getElem?_toArray, List.getElem?_cons_succ, List.getElem?_cons_zero, Option.getD_some, Nat.reduceAdd, List.nil_append, List.cons_append, En.get])))))
  refine fs_callv rfl (fun f => rfl) rfl 35 _ _ rfl (fun args w => by simp [callFunc, Try.func35]; rfl) (fun _ => .agg #[.bool true, .int .u64 dh, .int .u64 dl]) ?_ (fun _ _ _ => rfl) ?_
  · intro f lof w1 Lf HF HK1
    simp only [List.map_toArray, List.map_cons, List.map_nil, Act.eval, Array.getD_eq_getD_getElem?, List.getElem?_toArray, List.getElem?_cons_succ, List.getElem?_cons_zero, Option.getD_some, List.append_nil]
    clear HF
    have hr := rd_drop' (show Rd .u8 w1 (some x) n xs from (HB.out _ HK1.grown).1) 24 (by omega) hcn
    rw [subAt, if_neg h24n] at hr
    have q4 := readA6_any (x.add (24 * 1)) (n - 24) (c - 24) (xs.drop 24) w1 hr (ok_drop HO.out 24) (by omega) (by omega)
    rw [← HS2.out] at q4
    exact q4
  (try simp only [Act.put, Act.eval, List.setIfInBounds_toArray, List.set_cons_zero, List.set_cons_succ, Array.getD_eq_getD_getElem?, List.getElem?_toArray, List.getElem?_cons_succ, List.getElem?_cons_zero, Option.getD_some, Nat.reduceAdd, List.nil_append, List.cons_append, En.get])
  refine fs_move _ rfl rfl (fun f => rfl) rfl ?_ ?_; ((first | exact fun _ _ _ => rfl | exact fun f f' hcg => hcg _ (by kernel_rfl) | (intro f f' hcg; rw [hcg]; kernel_rfl) | (intro f f' hcg; rw [hcg, hcg]; (kernel_rfl; kernel_rfl)) | exact trivial)); (try simp only [Act.put, Act.eval, List.setIfInBounds_toArray, List.set_cons_zero, List.set_cons_succ, Array.getD_eq_getD_getElem?, List.getElem?_toArray, List.getElem?_cons_succ, List.getElem?_cons_zero, Option.getD_some, Nat.reduceAdd, List.nil_append, List.cons_append, En.get])
  refine fs_pure rfl (fun f => rfl) rfl (fun _ => .slice (some y) m (c - 40)) (fun f w1 => by rw [HY.out, HM.out]; exact run_sl rfl rfl rfl rfl (run_sub_l Try.underlying27 rfl 40 40 rfl (by omega) w1)) (fun _ _ _ => rfl) ?_
  (try simp only [Act.put, Act.eval, List.setIfInBounds_toArray, List.set_cons_zero, List.set_cons_succ, Array.getD_eq_getD_getElem?, List.getElem?_toArray, List.getElem?_cons_succ, List.getElem?_cons_zero, Option.getD_some, Nat.reduceAdd, List.nil_append, List.cons_append, En.get])
  refine fs_list rfl (fun f => rfl) (.res (fun _ v it => ∃ a c, v = .slice a m c ∧ it = [.sl 5 .u8 a m c D])) (fun f => ⟨_, rfl, Nat.le_of_ble_eq_true rfl⟩) ?_ (fun _ _ _ => rfl) ?_
  · intro f lof w1 Lf HF HK1 Q' hQ
    clear HF
    (try simp only [itms, itm, usesOf, readsOf, takesOf, List.find?, Nat.reduceBEq, List.flatMap_cons, List.flatMap_nil, Nat.reduceLT, if_true, if_false, Nat.reduceSub, List.getD_cons_zero, List.getD_cons_succ, List.append_nil, List.cons_append, List.nil_append, List.append_nil] at HK1)
    have hb := HBD.out w1 HK1.grown
    have hs := Bs.src hb
    refine wpList_app_own rfl (HK1.nil 5 .u8) _ _ 27 rfl 5 (.int .u8 0) 1 Try.underlying27 (by kernel_rfl) rfl .u8 _ _ _ _ rfl (.here _) _ m D rfl hb.1.1 hs (by unfold maxLen; omega) (by omega) ?_
    simp only [Nat.zero_add, List.nil_append]
    intro a' c' w' hk
    exact hQ _ _ ⟨_, ⟨a', c', rfl, rfl⟩, hk⟩
  (try simp only [Act.put, Act.eval, List.setIfInBounds_toArray, List.set_cons_zero, List.set_cons_succ, Array.getD_eq_getD_getElem?, List.getElem?_toArray, List.getElem?_cons_succ, List.getElem?_cons_zero, Option.getD_some, Nat.reduceAdd, List.nil_append, List.cons_append, En.get])
  refine fs_read rfl (fun f => rfl) rfl (fun f => .agg #[.bool true, .int .u8 C, .int .u32 F, .int .u16 0, .int .u16 0, .int .u8 b7, .int .u8 b6, .bool true, .int .u64 sh, .int .u64 sl, .bool true, .int .u64 dh, .int .u64 dl, f 20]) ?_ (fun f f' h => by (try dsimp only); rw [h 20 (by kernel_rfl)]) ?_
  · intro f lof w1 Lf HF HK1
    obtain ⟨a, c', hv, hl⟩ := HF 20 (by kernel_rfl)
    rw [hv]
    clear HF HK1 hv hl
    go_simp; first | done | exact ⟨rfl, rfl⟩ | rfl
  (try simp only [Act.put, Act.eval, List.setIfInBounds_toArray, List.set_cons_zero, List.set_cons_succ, Array.getD_eq_getD_getElem?, List.getElem?_toArray, List.getElem?_cons_succ, List.getElem?_cons_zero, Option.getD_some, Nat.reduceAdd, List.nil_append, List.cons_append, En.get])
  refine fs_store rfl (fun f => rfl) (fun f it => it = [.blk p (.cells #[.bool true, .int .u8 C, .int .u32 F, .int .u16 0, .int .u16 0, .int .u8 b7, .int .u8 b6, .bool true, .int .u64 sh, .int .u64 sl, .bool true, .int .u64 dh, .int .u64 dl, f 20] 29 (0, 0))]) rfl ?_ (fun f f' h => by (try dsimp only); rw [h 20 (by kernel_rfl)]) ?_
  · intro f lof w1 Lf HF HK1 Q' hQ
    obtain ⟨a, c', hv, hl⟩ := HF 20 (by kernel_rfl)
    clear HF
    (try simp only [itms, itm, usesOf, readsOf, takesOf, List.find?, Nat.reduceBEq, List.flatMap_cons, List.flatMap_nil, Nat.reduceLT, if_true, if_false, Nat.reduceSub, List.getD_cons_zero, List.getD_cons_succ, List.append_nil, List.cons_append, List.nil_append, List.append_nil] at HK1)
    refine wpList_put_blk rfl HK1 29 _ _ rfl p #[.bool true, .int .u8 C, .int .u32 F, .int .u16 0, .int .u16 0, .int .u8 b7, .int .u8 b6, .bool true, .int .u64 sh, .int .u64 sl, .bool true, .int .u64 dh, .int .u64 dl, f 20] rfl rfl _ _ (.here _) rfl (by kernel_rfl) (by rw [hv]; simp [Value.oneCell']) ?_
    intro w' hk
    exact hQ _ ⟨_, rfl, hk⟩
  (try simp only [Act.put, Act.eval, List.setIfInBounds_toArray, List.set_cons_zero, List.set_cons_succ, Array.getD_eq_getD_getElem?, List.getElem?_toArray, List.getElem?_cons_succ, List.getElem?_cons_zero, Option.getD_some, Nat.reduceAdd, List.nil_append, List.cons_append, En.get])
  (repeat (first | (refine fs_skip rfl (fun f => rfl) ?_; (try simp only [Act.put, Act.eval, List.setIfInBounds_toArray, List.set_cons_zero, List.set_cons_succ, Array.getD_eq_getD_getElem?, List.getElem?_toArray, List.getElem?_cons_succ, List.getElem?_cons_zero, Option.getD_some, Nat.reduceAdd, List.nil_append, List.cons_append, En.get])) | (refine fs_move _ rfl rfl (fun f => rfl) rfl ?_ ?_; ((first | exact fun _ _ _ => rfl | exact fun f f' hcg => hcg _ (by kernel_rfl) | (intro f f' hcg; rw [hcg]; kernel_rfl) | (intro f f' hcg; rw [hcg, hcg]; (kernel_rfl; kernel_rfl)) | exact trivial)); (try simp only [Act.put, Act.eval, List.setIfInBounds_toArray, List.set_cons_zero, List.set_cons_succ, Array.getD_eq_getD_getElem?, List.getElem?_toArray, List.getElem?_cons_succ, List.getElem?_cons_zero, Option.getD_some, Nat.reduceAdd, List.nil_append, List.cons_append, En.get])) | (refine fs_assign _ rfl rfl (fun f => rfl) rfl ?_ ?_; ((first | exact fun _ _ _ => rfl | exact fun f f' hcg => hcg _ (by kernel_rfl) | (intro f f' hcg; rw [hcg]; kernel_rfl) | (intro f f' hcg; rw [hcg, hcg]; (kernel_rfl; kernel_rfl)) | exact trivial)); (try simp only [Act.put, Act.eval, List.setIfInBounds_toArray, List.set_cons_zero, List.set_cons_succ, Array.getD_eq_getD_getElem?, List.getElem?_toArray, List.getElem?_cons_succ, List.getElem?_cons_zero, Option.getD_some, Nat.reduceAdd, List.nil_append, List.cons_append, En.get])) | (fail) | (refine fs_pure rfl (fun f => rfl) rfl ?_ ?_ ?_ ?_; (rotate_left; (intro f w1; (skip); go_simp; (first | done | with_reducible rfl)); ((first | exact fun _ _ _ => rfl | exact fun f f' hcg => hcg _ (by kernel_rfl) | (intro f f' hcg; rw [hcg]; kernel_rfl) | (intro f f' hcg; rw [hcg, hcg]; (kernel_rfl; kernel_rfl)) | exact trivial)); (try simp only [Act.put, Act.eval, List.setIfInBounds_toArray, List.set_cons_zero, List.set_cons_succ, Array.getD_eq_getD_getElem?, List.getElem?_toArray, List.getElem?_cons_succ, List.getElem?_cons_zero, Option.getD_some, Nat.reduceAdd, List.nil_append, List.cons_append, En.get])))))
  refine fs_end ?_
  intro f lof wn HF hk
  obtain ⟨a5, c5, hv, hl⟩ := HF 20 (by decide)
  have hl27 := HF 22 (by decide)
  (try simp only [itms, itm, usesOf, readsOf, takesOf, List.find?, Nat.reduceBEq, List.flatMap_cons, List.flatMap_nil, Nat.reduceLT, if_true, if_false, Nat.reduceSub, List.getD_cons_zero, List.getD_cons_succ, List.append_nil, List.cons_append, List.nil_append, show lof 22 = _ from hl27, hl] at hk)
  rw [hv] at hk ⊢
  clear HF hv hl hl27 f lof
  clear HK
  have HK := Lib.hid hk
  clear hk
  go_wp2_with fail
  exact bodyPost_ret (results_cell_tmp_row rfl _ _ p _ _ _ _ rfl (HK.out.at (.here _)) Try.underlying29 rfl (by kernel_rfl)) rfl ⟨a5, c5, rfl, HK.out.get (.next _ (.here _)), HK.out.grown⟩
end Go.Proofs.Ytmankjhopfilaaa
