/- What bytes are: the reference's PacketParse. -/
import Derived.Test.YtmankjhopfilaaaPkV
import Derived.Test.YtmankjhopfilaaaPkU
namespace Go.Proofs.YtmankjhopfilaaaL
set_option linter.unusedVariables false
open Go.RowKit
section
variable {P : Program} {ops : Array Oper} {Q : Exit → Act → World → Prop} {o : Oper} {i n N : Nat} {w0 : World} {inits : List (List It)} {Lro : List It} {rt : Rt} {hk : List Nat} {E : List En} {A : (Nat → Value) → Act}
/-- A box made (a struct's cell). -/
theorem fs_new (ho : nthO ops.toList i = some o) (hw : ∀ f, Region.wanted o (yielded ops (A f).tmps) = true) (hu : usesOf rt i = []) (b : Obj)
    (hr : ∀ f w1, (execOp (A f).eval o).run P w1 = .ok (.value (.pointer (some ⟨w1.heap.size, 0, none⟩))) (w1.alloc b))
    (h : fs P ops N Q w0 inits Lro rt hk n (i + 1) (E ++ [.res (fun _ v l => ∃ p, v = .pointer (some ⟨p, 0, none⟩) ∧ l = [.blk p b])]) (fun f => (A f).put o.dst (f i))) : fs P ops N Q w0 inits Lro rt hk (n + 1) i E A :=
  fs_do ho hw (.res _) (fun f lof w1 Lf hf hk => by
    have hu2 : readsOf rt i = [] := by unfold usesOf at hu; exact (List.append_eq_nil_iff.1 hu).1
    rw [hu] at hk
    rw [hu2]
    unfold Runs
    rw [hr]
    exact ⟨_, ⟨w1.heap.size, rfl, rfl⟩, hk.blk _ rfl⟩) (fun _ _ _ => rfl) h
end
end Go.Proofs.YtmankjhopfilaaaL
namespace Go.Proofs.Ytmankjhopfilaaa
set_option linter.unusedVariables false
set_option linter.unusedSimpArgs false
open Go.RowKit Go.Proofs.YtmankjhopfilaaaL

set_option maxHeartbeats 8000000 in
set_option maxRecDepth 100000 in
theorem rparse_bad (ad : Option Addr) (n c : Nat) (xs : List Int) (w : World) (hb : (⟨ad, n, c, xs⟩ : Bs).ok w) (hcn : n ≤ c) (he : (par xs).err = 20 ∨ (par xs).err = 23) :
    Calls Try.prog 19 #[.slice ad n c] w fun e w' => (par xs).ret w w' e := by
  have HB := Lib.hid (fun (w' : World) (g : w.grownBy w' none) => Bs.ok_keep hb g)
  have HL := Lib.hid (show xs.length = n from hb.1.1)
  have HO := Lib.hid (show okB 256 xs from hb.2.1)
  have hn3 : (n : Int) ≤ 3000 := by have h : n ≤ 3000 := hb.2.2.2; omega
  obtain ⟨R, hR⟩ : ∃ R, R = par xs := ⟨_, rfl⟩
  rw [← hR] at he ⊢
  have HR := Lib.hid hR
  clear hb hR
  have HK := Lib.hid (own_start w)
  by_cases hmax : 1400 < n
  · have hR2 : R = badR 23 := by rw [HR.out, par, if_pos (by rw [HL.out]; exact hmax)]
    rw [hR2]
    clear hR2 HR he
    have hn40 : (1400 : Int) < n := by omega
    clear hmax
    show Calls Try.prog _ #[.slice ad n c] w fun e w' => ∃ a c, e = .returned (.tuple #[.agg #[.bool false, .int .u8 0, .int .u32 0, .int .u16 0, .int .u16 0, .int .u8 0, .int .u8 0, .bool false, .int .u64 0, .int .u64 0, .bool false, .int .u64 0, .int .u64 0, .slice a 0 c], .int .i64 23]) ∧ w'.ownsRow w.heap.size 5 1 (.slice a 0 c) 0 [] ∧ w.grownBy w' none
    go_enter Try.func19, Try.ntmps19
    go_upto_region 1 with fail
    have hk := own_alloc HK.out (Obj.cells #[Value.bool false, .int .u8 0, .int .u32 0, .int .u16 0, .int .u16 0, .int .u8 0, .int .u8 0, .bool false, .int .u64 0, .int .u64 0, .bool false, .int .u64 0, .int .u64 0, .slice none 0 0] 29 (0, 0))
    obtain ⟨p, hp⟩ : ∃ p, p = w.heap.size := ⟨_, rfl⟩
    rw [← hp] at hk ⊢
    clear hp
    clear HK
    have HK := Lib.hid hk
    clear hk
    generalize w.alloc (Obj.cells #[Value.bool false, .int .u8 0, .int .u32 0, .int .u16 0, .int .u16 0, .int .u8 0, .int .u8 0, .bool false, .int .u64 0, .int .u64 0, .bool false, .int .u64 0, .int .u64 0, .slice none 0 0] 29 (0, 0)) = w1 at HK ⊢
    go_wp2_with (refine wpList_put_blk rfl HK.out 29 _ _ rfl p #[.bool false, .int .u8 0, .int .u32 0, .int .u16 0, .int .u16 0, .int .u8 0, .int .u8 0, .bool false, .int .u64 0, .int .u64 0, .bool false, .int .u64 0, .int .u64 0, .slice none 0 0] rfl rfl _ _ (.here _) rfl (by kernel_rfl) (by simp [Value.oneCell']) ?_; (intro wn hkn; have HKN := Lib.hid hkn; clear hkn; clear HK; have HK := HKN; clear HKN))
    exact bodyPost_ret (results_cell_tmp_row rfl _ _ p _ _ _ _ rfl (HK.out.at (.here _)) Try.underlying29 rfl (by kernel_rfl)) rfl ⟨none, 0, rfl, own_nil_row _ _ _, HK.out.grown⟩
  have hmax2 : ¬ (1400 : Int) < n := by omega
  have hm : ¬ 1400 < xs.length := by rw [HL.out]; exact hmax
  clear hmax
  by_cases h20 : n < 20
  · have hR2 : R = badR 20 := by
      rw [HR.out, par, if_neg hm]
      split
      · rw [par6, if_pos (.inl (by rw [HL.out]; omega))]
      · rw [par4, if_pos (.inl (by rw [HL.out]; omega))]
    rw [hR2]
    clear hR2 HR he
    have hn20 : (n : Int) < 20 := by omega
    have hn40 : ¬ (40 : Int) ≤ n := by omega
    clear h20 hm
    show Calls Try.prog _ #[.slice ad n c] w fun e w' => ∃ a c, e = .returned (.tuple #[.agg #[.bool false, .int .u8 0, .int .u32 0, .int .u16 0, .int .u16 0, .int .u8 0, .int .u8 0, .bool false, .int .u64 0, .int .u64 0, .bool false, .int .u64 0, .int .u64 0, .slice a 0 c], .int .i64 20]) ∧ w'.ownsRow w.heap.size 5 1 (.slice a 0 c) 0 [] ∧ w.grownBy w' none
    go_enter Try.func19, Try.ntmps19
    go_upto_region 1 with fail
    have hk := own_alloc HK.out (Obj.cells #[Value.bool false, .int .u8 0, .int .u32 0, .int .u16 0, .int .u16 0, .int .u8 0, .int .u8 0, .bool false, .int .u64 0, .int .u64 0, .bool false, .int .u64 0, .int .u64 0, .slice none 0 0] 29 (0, 0))
    obtain ⟨p, hp⟩ : ∃ p, p = w.heap.size := ⟨_, rfl⟩
    rw [← hp] at hk ⊢
    clear hp
    clear HK
    have HK := Lib.hid hk
    clear hk
    generalize w.alloc (Obj.cells #[Value.bool false, .int .u8 0, .int .u32 0, .int .u16 0, .int .u16 0, .int .u8 0, .int .u8 0, .bool false, .int .u64 0, .int .u64 0, .bool false, .int .u64 0, .int .u64 0, .slice none 0 0] 29 (0, 0)) = w1 at HK ⊢
    go_wp2_with (refine wpList_put_blk rfl HK.out 29 _ _ rfl p #[.bool false, .int .u8 0, .int .u32 0, .int .u16 0, .int .u16 0, .int .u8 0, .int .u8 0, .bool false, .int .u64 0, .int .u64 0, .bool false, .int .u64 0, .int .u64 0, .slice none 0 0] rfl rfl _ _ (.here _) rfl (by kernel_rfl) (by simp [Value.oneCell']) ?_; (intro wn hkn; have HKN := Lib.hid hkn; clear hkn; clear HK; have HK := HKN; clear HKN))
    exact bodyPost_ret (results_cell_tmp_row rfl _ _ p _ _ _ _ rfl (HK.out.at (.here _)) Try.underlying29 rfl (by kernel_rfl)) rfl ⟨none, 0, rfl, own_nil_row _ _ _, HK.out.grown⟩
  have hn20 : ¬ (n : Int) < 20 := by omega
  have h20' : 20 ≤ n := by omega
  clear h20
  obtain ⟨x, rfl⟩ : ∃ x, ad = some x := by
    obtain ⟨x, hx, -⟩ := (HB.out w (grown_refl _ _)).1.2 0 (show 0 < n by omega)
    exact ⟨x, hx⟩
  obtain ⟨X, hX⟩ : ∃ X, X = xs.getD 0 0 := ⟨_, rfl⟩
  have HX := Lib.hid hX
  clear hX
  obtain ⟨V2, hV2⟩ : ∃ V, V = beV ((xs.drop 2).take 2) := ⟨_, rfl⟩
  obtain ⟨v20, v21⟩ : 0 ≤ V2 ∧ V2 < 65536 := by rw [hV2]; exact beV_two (by rw [List.length_take, List.length_drop, HL.out]; omega) (ok_take (ok_drop HO.out _) _)
  have HV2 := Lib.hid hV2
  clear hV2
  obtain ⟨V4, hV4⟩ : ∃ V, V = beV ((xs.drop 4).take 2) := ⟨_, rfl⟩
  obtain ⟨v40, v41⟩ : 0 ≤ V4 ∧ V4 < 65536 := by rw [hV4]; exact beV_two (by rw [List.length_take, List.length_drop, HL.out]; omega) (ok_take (ok_drop HO.out _) _)
  have HV4 := Lib.hid hV4
  clear hV4
  have hc2 : ¬ c = 2 := by omega
  have hc4 : ¬ c = 4 := by omega
  have hc4' : (4 : Int) ≤ c := by omega
  have hcn2 : (n : Int) ≤ c := by omega
  by_cases hx69 : X = 69
  · have hne : (X != 69) = false := by simp [hx69]
    have hb6 : (X / 16 == 6) = false := by rw [hx69]; decide
    have hv : ¬ V2 = n := by
      intro hv
      have hp : par xs = par4 xs := by rw [par, if_neg hm, if_neg (by rw [← HX.out, hx69]; exact fun h => absurd h.2 (by decide))]
      rw [HR.out, hp, par4, if_neg (by rw [← HX.out, HL.out, show beV (sec xs 2 4) = V2 by rw [sec_eq]; exact HV2.out.symm]; rintro (h | h | h); omega; exact h hx69; exact h hv)] at he
      split at he
      · rcases he with h | h <;> exact absurd h (by decide)
      · rcases he with h | h <;> exact absurd h (by show ¬ (0 : Int) = _; decide)
    have hR2 : R = badR 20 := by rw [HR.out, par, if_neg hm, if_neg (by rw [← HX.out, hx69]; exact fun h => absurd h.2 (by decide)), par4, if_pos (.inr (.inr (by rw [HL.out, show beV (sec xs 2 4) = V2 by rw [sec_eq]; exact HV2.out.symm]; exact hv)))]
    rw [hR2]
    clear hR2 HR he hm
    have hnv : (V2 != (n : Int)) = true := by simp [hv]
    clear hv hx69
    by_cases h40 : (40 : Int) ≤ n
    · skip
      show Calls Try.prog _ #[.slice (some x) n c] w fun e w' => ∃ a c, e = .returned (.tuple #[.agg #[.bool false, .int .u8 0, .int .u32 0, .int .u16 0, .int .u16 0, .int .u8 0, .int .u8 0, .bool false, .int .u64 0, .int .u64 0, .bool false, .int .u64 0, .int .u64 0, .slice a 0 c], .int .i64 20]) ∧ w'.ownsRow w.heap.size 5 1 (.slice a 0 c) 0 [] ∧ w.grownBy w' none
      go_enter Try.func19, Try.ntmps19
      go_upto_region 1 with fail
      have hk := own_alloc HK.out (Obj.cells #[Value.bool false, .int .u8 0, .int .u32 0, .int .u16 0, .int .u16 0, .int .u8 0, .int .u8 0, .bool false, .int .u64 0, .int .u64 0, .bool false, .int .u64 0, .int .u64 0, .slice none 0 0] 29 (0, 0))
      obtain ⟨p, hp⟩ : ∃ p, p = w.heap.size := ⟨_, rfl⟩
      rw [← hp] at hk ⊢
      clear hp
      clear HK
      have HK := Lib.hid hk
      clear hk
      generalize w.alloc (Obj.cells #[Value.bool false, .int .u8 0, .int .u32 0, .int .u16 0, .int .u16 0, .int .u8 0, .int .u8 0, .bool false, .int .u64 0, .int .u64 0, .bool false, .int .u64 0, .int .u64 0, .slice none 0 0] 29 (0, 0)) = w1 at HK ⊢
      have hr0 : Rd .u8 w1 (some x) n xs := (HB.out _ HK.out.grown).1
      have c0 := rdx_at hr0 0 (by omega)
      rw [← HX.out] at c0
      have c0' : w1.cell? x = some (.int .u8 X) := by rw [← c0]; rfl
      clear hr0
      go_wp2_with fail
      have hr := rd_drop' (show Rd .u8 w1 (some x) n xs from (HB.out _ HK.out.grown).1) 2 (by omega) hcn
      rw [subAt, if_neg hc2] at hr
      refine (readU_any _ (n - 2) 2 _ (xs.drop 2) w1 hr (ok_drop HO.out 2) (by decide) (by omega)).mono ?_
      clear hr
      rintro e w2 ⟨rfl, rfl⟩
      rw [← HV2.out]
      go_wp2_with (refine wpList_put_blk rfl HK.out 29 _ _ rfl p #[.bool false, .int .u8 0, .int .u32 0, .int .u16 0, .int .u16 0, .int .u8 0, .int .u8 0, .bool false, .int .u64 0, .int .u64 0, .bool false, .int .u64 0, .int .u64 0, .slice none 0 0] rfl rfl _ _ (.here _) rfl (by kernel_rfl) (by simp [Value.oneCell']) ?_; (intro wn hkn; have HKN := Lib.hid hkn; clear hkn; clear HK; have HK := HKN; clear HKN))
      exact bodyPost_ret (results_cell_tmp_row rfl _ _ p _ _ _ _ rfl (HK.out.at (.here _)) Try.underlying29 rfl (by kernel_rfl)) rfl ⟨none, 0, rfl, own_nil_row _ _ _, HK.out.grown⟩
    · skip
      show Calls Try.prog _ #[.slice (some x) n c] w fun e w' => ∃ a c, e = .returned (.tuple #[.agg #[.bool false, .int .u8 0, .int .u32 0, .int .u16 0, .int .u16 0, .int .u8 0, .int .u8 0, .bool false, .int .u64 0, .int .u64 0, .bool false, .int .u64 0, .int .u64 0, .slice a 0 c], .int .i64 20]) ∧ w'.ownsRow w.heap.size 5 1 (.slice a 0 c) 0 [] ∧ w.grownBy w' none
      go_enter Try.func19, Try.ntmps19
      go_upto_region 1 with fail
      have hk := own_alloc HK.out (Obj.cells #[Value.bool false, .int .u8 0, .int .u32 0, .int .u16 0, .int .u16 0, .int .u8 0, .int .u8 0, .bool false, .int .u64 0, .int .u64 0, .bool false, .int .u64 0, .int .u64 0, .slice none 0 0] 29 (0, 0))
      obtain ⟨p, hp⟩ : ∃ p, p = w.heap.size := ⟨_, rfl⟩
      rw [← hp] at hk ⊢
      clear hp
      clear HK
      have HK := Lib.hid hk
      clear hk
      generalize w.alloc (Obj.cells #[Value.bool false, .int .u8 0, .int .u32 0, .int .u16 0, .int .u16 0, .int .u8 0, .int .u8 0, .bool false, .int .u64 0, .int .u64 0, .bool false, .int .u64 0, .int .u64 0, .slice none 0 0] 29 (0, 0)) = w1 at HK ⊢
      have hr0 : Rd .u8 w1 (some x) n xs := (HB.out _ HK.out.grown).1
      have c0 := rdx_at hr0 0 (by omega)
      rw [← HX.out] at c0
      have c0' : w1.cell? x = some (.int .u8 X) := by rw [← c0]; rfl
      clear hr0
      go_wp2_with fail
      have hr := rd_drop' (show Rd .u8 w1 (some x) n xs from (HB.out _ HK.out.grown).1) 2 (by omega) hcn
      rw [subAt, if_neg hc2] at hr
      refine (readU_any _ (n - 2) 2 _ (xs.drop 2) w1 hr (ok_drop HO.out 2) (by decide) (by omega)).mono ?_
      clear hr
      rintro e w2 ⟨rfl, rfl⟩
      rw [← HV2.out]
      go_wp2_with (refine wpList_put_blk rfl HK.out 29 _ _ rfl p #[.bool false, .int .u8 0, .int .u32 0, .int .u16 0, .int .u16 0, .int .u8 0, .int .u8 0, .bool false, .int .u64 0, .int .u64 0, .bool false, .int .u64 0, .int .u64 0, .slice none 0 0] rfl rfl _ _ (.here _) rfl (by kernel_rfl) (by simp [Value.oneCell']) ?_; (intro wn hkn; have HKN := Lib.hid hkn; clear hkn; clear HK; have HK := HKN; clear HKN))
      exact bodyPost_ret (results_cell_tmp_row rfl _ _ p _ _ _ _ rfl (HK.out.at (.here _)) Try.underlying29 rfl (by kernel_rfl)) rfl ⟨none, 0, rfl, own_nil_row _ _ _, HK.out.grown⟩
  have hne : (X != 69) = true := by simp [hx69]
  by_cases h6 : X / 16 = 6
  · have hb6 : (X / 16 == 6) = true := beq_iff_eq.2 h6
    have hp : par xs = par6 xs := by rw [par, if_neg hm, if_pos ⟨by rw [HL.out]; omega, by rw [← HX.out]; exact h6⟩]
    by_cases h40 : (40 : Int) ≤ n
    · have hv : ¬ V4 = n - 40 := by
        intro hv
        rw [HR.out, hp, par6, if_neg (by rw [HL.out, show beV (sec xs 4 6) = V4 by rw [sec_eq]; exact HV4.out.symm]; rintro (h | h); omega; exact h hv)] at he
        rcases he with h | h <;> exact absurd h (by show ¬ (0 : Int) = _; decide)
      have hR2 : R = badR 20 := by rw [HR.out, hp, par6, if_pos (.inr (by rw [HL.out, show beV (sec xs 4 6) = V4 by rw [sec_eq]; exact HV4.out.symm]; exact hv))]
      rw [hR2]
      have hnv : (V4 == (n : Int) - 40) = false := beq_eq_false_iff_ne.2 hv
      clear hR2 HR he hm hp h6 hx69 hv
      · skip
        show Calls Try.prog _ #[.slice (some x) n c] w fun e w' => ∃ a c, e = .returned (.tuple #[.agg #[.bool false, .int .u8 0, .int .u32 0, .int .u16 0, .int .u16 0, .int .u8 0, .int .u8 0, .bool false, .int .u64 0, .int .u64 0, .bool false, .int .u64 0, .int .u64 0, .slice a 0 c], .int .i64 20]) ∧ w'.ownsRow w.heap.size 5 1 (.slice a 0 c) 0 [] ∧ w.grownBy w' none
        go_enter Try.func19, Try.ntmps19
        go_upto_region 1 with fail
        have hk := own_alloc HK.out (Obj.cells #[Value.bool false, .int .u8 0, .int .u32 0, .int .u16 0, .int .u16 0, .int .u8 0, .int .u8 0, .bool false, .int .u64 0, .int .u64 0, .bool false, .int .u64 0, .int .u64 0, .slice none 0 0] 29 (0, 0))
        obtain ⟨p, hp⟩ : ∃ p, p = w.heap.size := ⟨_, rfl⟩
        rw [← hp] at hk ⊢
        clear hp
        clear HK
        have HK := Lib.hid hk
        clear hk
        generalize w.alloc (Obj.cells #[Value.bool false, .int .u8 0, .int .u32 0, .int .u16 0, .int .u16 0, .int .u8 0, .int .u8 0, .bool false, .int .u64 0, .int .u64 0, .bool false, .int .u64 0, .int .u64 0, .slice none 0 0] 29 (0, 0)) = w1 at HK ⊢
        have hr0 : Rd .u8 w1 (some x) n xs := (HB.out _ HK.out.grown).1
        have c0 := rdx_at hr0 0 (by omega)
        rw [← HX.out] at c0
        have c0' : w1.cell? x = some (.int .u8 X) := by rw [← c0]; rfl
        clear hr0
        go_wp2_with fail
        have hr := rd_drop' (show Rd .u8 w1 (some x) n xs from (HB.out _ HK.out.grown).1) 4 (by omega) hcn
        rw [subAt, if_neg hc4] at hr
        refine (readU_any _ (n - 4) 2 _ (xs.drop 4) w1 hr (ok_drop HO.out 4) (by decide) (by omega)).mono ?_
        clear hr
        rintro e w2 ⟨rfl, rfl⟩
        rw [← HV4.out]
        go_wp2_with (refine wpList_put_blk rfl HK.out 29 _ _ rfl p #[.bool false, .int .u8 0, .int .u32 0, .int .u16 0, .int .u16 0, .int .u8 0, .int .u8 0, .bool false, .int .u64 0, .int .u64 0, .bool false, .int .u64 0, .int .u64 0, .slice none 0 0] rfl rfl _ _ (.here _) rfl (by kernel_rfl) (by simp [Value.oneCell']) ?_; (intro wn hkn; have HKN := Lib.hid hkn; clear hkn; clear HK; have HK := HKN; clear HKN))
        exact bodyPost_ret (results_cell_tmp_row rfl _ _ p _ _ _ _ rfl (HK.out.at (.here _)) Try.underlying29 rfl (by kernel_rfl)) rfl ⟨none, 0, rfl, own_nil_row _ _ _, HK.out.grown⟩
    · have hR2 : R = badR 20 := by rw [HR.out, hp, par6, if_pos (.inl (by rw [HL.out]; omega))]
      rw [hR2]
      clear hR2 HR he hm hp h6 hx69
      · skip
        show Calls Try.prog _ #[.slice (some x) n c] w fun e w' => ∃ a c, e = .returned (.tuple #[.agg #[.bool false, .int .u8 0, .int .u32 0, .int .u16 0, .int .u16 0, .int .u8 0, .int .u8 0, .bool false, .int .u64 0, .int .u64 0, .bool false, .int .u64 0, .int .u64 0, .slice a 0 c], .int .i64 20]) ∧ w'.ownsRow w.heap.size 5 1 (.slice a 0 c) 0 [] ∧ w.grownBy w' none
        go_enter Try.func19, Try.ntmps19
        go_upto_region 1 with fail
        have hk := own_alloc HK.out (Obj.cells #[Value.bool false, .int .u8 0, .int .u32 0, .int .u16 0, .int .u16 0, .int .u8 0, .int .u8 0, .bool false, .int .u64 0, .int .u64 0, .bool false, .int .u64 0, .int .u64 0, .slice none 0 0] 29 (0, 0))
        obtain ⟨p, hp⟩ : ∃ p, p = w.heap.size := ⟨_, rfl⟩
        rw [← hp] at hk ⊢
        clear hp
        clear HK
        have HK := Lib.hid hk
        clear hk
        generalize w.alloc (Obj.cells #[Value.bool false, .int .u8 0, .int .u32 0, .int .u16 0, .int .u16 0, .int .u8 0, .int .u8 0, .bool false, .int .u64 0, .int .u64 0, .bool false, .int .u64 0, .int .u64 0, .slice none 0 0] 29 (0, 0)) = w1 at HK ⊢
        have hr0 : Rd .u8 w1 (some x) n xs := (HB.out _ HK.out.grown).1
        have c0 := rdx_at hr0 0 (by omega)
        rw [← HX.out] at c0
        have c0' : w1.cell? x = some (.int .u8 X) := by rw [← c0]; rfl
        clear hr0
        go_wp2_with (refine wpList_put_blk rfl HK.out 29 _ _ rfl p #[.bool false, .int .u8 0, .int .u32 0, .int .u16 0, .int .u16 0, .int .u8 0, .int .u8 0, .bool false, .int .u64 0, .int .u64 0, .bool false, .int .u64 0, .int .u64 0, .slice none 0 0] rfl rfl _ _ (.here _) rfl (by kernel_rfl) (by simp [Value.oneCell']) ?_; (intro wn hkn; have HKN := Lib.hid hkn; clear hkn; clear HK; have HK := HKN; clear HKN))
        exact bodyPost_ret (results_cell_tmp_row rfl _ _ p _ _ _ _ rfl (HK.out.at (.here _)) Try.underlying29 rfl (by kernel_rfl)) rfl ⟨none, 0, rfl, own_nil_row _ _ _, HK.out.grown⟩
  · have hb6 : (X / 16 == 6) = false := beq_eq_false_iff_ne.2 h6
    have hR2 : R = badR 20 := by rw [HR.out, par, if_neg hm, if_neg (by rw [← HX.out]; exact fun h => h6 h.2), par4, if_pos (.inr (.inl (by rw [← HX.out]; exact hx69)))]
    rw [hR2]
    clear hR2 HR he hm h6 hx69
    by_cases h40 : (40 : Int) ≤ n
    · skip
      show Calls Try.prog _ #[.slice (some x) n c] w fun e w' => ∃ a c, e = .returned (.tuple #[.agg #[.bool false, .int .u8 0, .int .u32 0, .int .u16 0, .int .u16 0, .int .u8 0, .int .u8 0, .bool false, .int .u64 0, .int .u64 0, .bool false, .int .u64 0, .int .u64 0, .slice a 0 c], .int .i64 20]) ∧ w'.ownsRow w.heap.size 5 1 (.slice a 0 c) 0 [] ∧ w.grownBy w' none
      go_enter Try.func19, Try.ntmps19
      go_upto_region 1 with fail
      have hk := own_alloc HK.out (Obj.cells #[Value.bool false, .int .u8 0, .int .u32 0, .int .u16 0, .int .u16 0, .int .u8 0, .int .u8 0, .bool false, .int .u64 0, .int .u64 0, .bool false, .int .u64 0, .int .u64 0, .slice none 0 0] 29 (0, 0))
      obtain ⟨p, hp⟩ : ∃ p, p = w.heap.size := ⟨_, rfl⟩
      rw [← hp] at hk ⊢
      clear hp
      clear HK
      have HK := Lib.hid hk
      clear hk
      generalize w.alloc (Obj.cells #[Value.bool false, .int .u8 0, .int .u32 0, .int .u16 0, .int .u16 0, .int .u8 0, .int .u8 0, .bool false, .int .u64 0, .int .u64 0, .bool false, .int .u64 0, .int .u64 0, .slice none 0 0] 29 (0, 0)) = w1 at HK ⊢
      have hr0 : Rd .u8 w1 (some x) n xs := (HB.out _ HK.out.grown).1
      have c0 := rdx_at hr0 0 (by omega)
      rw [← HX.out] at c0
      have c0' : w1.cell? x = some (.int .u8 X) := by rw [← c0]; rfl
      clear hr0
      go_wp2_with (refine wpList_put_blk rfl HK.out 29 _ _ rfl p #[.bool false, .int .u8 0, .int .u32 0, .int .u16 0, .int .u16 0, .int .u8 0, .int .u8 0, .bool false, .int .u64 0, .int .u64 0, .bool false, .int .u64 0, .int .u64 0, .slice none 0 0] rfl rfl _ _ (.here _) rfl (by kernel_rfl) (by simp [Value.oneCell']) ?_; (intro wn hkn; have HKN := Lib.hid hkn; clear hkn; clear HK; have HK := HKN; clear HKN))
      exact bodyPost_ret (results_cell_tmp_row rfl _ _ p _ _ _ _ rfl (HK.out.at (.here _)) Try.underlying29 rfl (by kernel_rfl)) rfl ⟨none, 0, rfl, own_nil_row _ _ _, HK.out.grown⟩
    · skip
      show Calls Try.prog _ #[.slice (some x) n c] w fun e w' => ∃ a c, e = .returned (.tuple #[.agg #[.bool false, .int .u8 0, .int .u32 0, .int .u16 0, .int .u16 0, .int .u8 0, .int .u8 0, .bool false, .int .u64 0, .int .u64 0, .bool false, .int .u64 0, .int .u64 0, .slice a 0 c], .int .i64 20]) ∧ w'.ownsRow w.heap.size 5 1 (.slice a 0 c) 0 [] ∧ w.grownBy w' none
      go_enter Try.func19, Try.ntmps19
      go_upto_region 1 with fail
      have hk := own_alloc HK.out (Obj.cells #[Value.bool false, .int .u8 0, .int .u32 0, .int .u16 0, .int .u16 0, .int .u8 0, .int .u8 0, .bool false, .int .u64 0, .int .u64 0, .bool false, .int .u64 0, .int .u64 0, .slice none 0 0] 29 (0, 0))
      obtain ⟨p, hp⟩ : ∃ p, p = w.heap.size := ⟨_, rfl⟩
      rw [← hp] at hk ⊢
      clear hp
      clear HK
      have HK := Lib.hid hk
      clear hk
      generalize w.alloc (Obj.cells #[Value.bool false, .int .u8 0, .int .u32 0, .int .u16 0, .int .u16 0, .int .u8 0, .int .u8 0, .bool false, .int .u64 0, .int .u64 0, .bool false, .int .u64 0, .int .u64 0, .slice none 0 0] 29 (0, 0)) = w1 at HK ⊢
      have hr0 : Rd .u8 w1 (some x) n xs := (HB.out _ HK.out.grown).1
      have c0 := rdx_at hr0 0 (by omega)
      rw [← HX.out] at c0
      have c0' : w1.cell? x = some (.int .u8 X) := by rw [← c0]; rfl
      clear hr0
      go_wp2_with (refine wpList_put_blk rfl HK.out 29 _ _ rfl p #[.bool false, .int .u8 0, .int .u32 0, .int .u16 0, .int .u16 0, .int .u8 0, .int .u8 0, .bool false, .int .u64 0, .int .u64 0, .bool false, .int .u64 0, .int .u64 0, .slice none 0 0] rfl rfl _ _ (.here _) rfl (by kernel_rfl) (by simp [Value.oneCell']) ?_; (intro wn hkn; have HKN := Lib.hid hkn; clear hkn; clear HK; have HK := HKN; clear HKN))
      exact bodyPost_ret (results_cell_tmp_row rfl _ _ p _ _ _ _ rfl (HK.out.at (.here _)) Try.underlying29 rfl (by kernel_rfl)) rfl ⟨none, 0, rfl, own_nil_row _ _ _, HK.out.grown⟩
end Go.Proofs.Ytmankjhopfilaaa
