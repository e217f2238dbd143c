/- What bytes are: the program's Parse. -/
import Derived.Test.YtmankjhopfilaaaPkM
namespace Go.Proofs.Ytmankjhopfilaaa
set_option linter.unusedVariables false
set_option linter.unusedSimpArgs false
open Go.RowKit Go.Proofs.YtmankjhopfilaaaL

def par (xs : List Int) : Rs := if 1400 < xs.length then badR 23 else if 0 < xs.length ∧ xs.getD 0 0 / 16 = 6 then par6 xs else par4 xs

set_option maxHeartbeats 8000000 in
set_option maxRecDepth 100000 in
theorem parse_any (ad : Option Addr) (n c : Nat) (xs : List Int) (w : World) (hb : (⟨ad, n, c, xs⟩ : Bs).ok w) (hcn : n ≤ c) :
    Calls Try.prog 14 #[.slice ad n c] w fun e w' => (par xs).ret w w' e := by
  have HB := Lib.hid (fun (w' : World) (g : w.grownBy w' none) => Bs.ok_keep hb g)
  have HL := Lib.hid (show xs.length = n from hb.1.1)
  have HO := Lib.hid (show okB 256 xs from hb.2.1)
  have hn3 : (n : Int) ≤ 3000 := by have h : n ≤ 3000 := hb.2.2.2; omega
  obtain ⟨R, hR⟩ : ∃ R, R = par xs := ⟨_, rfl⟩
  rw [← hR]
  have HR := Lib.hid hR
  clear hb hR
  have HK := Lib.hid (own_start w)
  by_cases hmax : 1400 < n
  · have hR2 : R = badR 23 := by rw [HR.out, par, if_pos (by rw [HL.out]; exact hmax)]
    rw [hR2]
    show Calls Try.prog _ #[.slice ad n c] w fun e w' => ∃ a c, e = .returned (.tuple #[.agg #[.bool false, .int .u8 0, .int .u32 0, .int .u16 0, .int .u16 0, .int .u8 0, .int .u8 0, .bool false, .int .u64 0, .int .u64 0, .bool false, .int .u64 0, .int .u64 0, .slice a 0 c], .int .i64 23]) ∧ w'.ownsRow w.heap.size 5 1 (.slice a 0 c) 0 [] ∧ w.grownBy w' none
    clear hR2 HR
    have hn40 : (1400 : Int) < n := by omega
    clear hmax
    go_enter Try.func14, Try.ntmps14
    go_upto_region 1 with fail
    have hk := own_alloc HK.out (Obj.cells #[Value.bool false, .int .u8 0, .int .u32 0, .int .u16 0, .int .u16 0, .int .u8 0, .int .u8 0, .bool false, .int .u64 0, .int .u64 0, .bool false, .int .u64 0, .int .u64 0, .slice none 0 0] 29 (0, 0))
    obtain ⟨p, hp⟩ : ∃ p, p = w.heap.size := ⟨_, rfl⟩
    rw [← hp] at hk ⊢
    clear hp
    clear HK
    have HK := Lib.hid hk
    clear hk
    generalize w.alloc (Obj.cells #[Value.bool false, .int .u8 0, .int .u32 0, .int .u16 0, .int .u16 0, .int .u8 0, .int .u8 0, .bool false, .int .u64 0, .int .u64 0, .bool false, .int .u64 0, .int .u64 0, .slice none 0 0] 29 (0, 0)) = w1 at HK ⊢
    go_wp2_with (refine wpList_put_blk rfl HK.out 29 _ _ rfl p #[.bool false, .int .u8 0, .int .u32 0, .int .u16 0, .int .u16 0, .int .u8 0, .int .u8 0, .bool false, .int .u64 0, .int .u64 0, .bool false, .int .u64 0, .int .u64 0, .slice none 0 0] rfl rfl _ _ (.here _) rfl (by kernel_rfl) (by simp [Value.oneCell']) ?_; (intro wn hkn; have HKN := Lib.hid hkn; clear hkn; clear HK; have HK := HKN; clear HKN))
    exact bodyPost_ret (results_cell_tmp_row rfl _ _ p _ _ _ _ rfl (HK.out.at (.here _)) Try.underlying29 rfl (by kernel_rfl)) rfl ⟨none, 0, rfl, own_nil_row _ _ _, HK.out.grown⟩
  have hmax2 : ¬ (1400 : Int) < n := by omega
  clear hmax
  by_cases h0 : n = 0
  · have hRR : R = par4 xs := by
      rw [HR.out, par, if_neg (by rw [HL.out]; omega), if_neg (by rw [HL.out]; omega)]
    have hn0 : ¬ (0 : Int) < n := by omega
    clear h0
    have HP := Lib.hid (fun (w' : World) (g : w.grownBy w' none) => parse4_any ad n c xs w' (HB.out _ g) hcn)
    obtain ⟨⟨err, ⟨v6, cls, flow, id, frag, ttl, proto, ⟨s6, sh, sl⟩, ⟨d6, dh, dl⟩⟩, B⟩, hR2⟩ : ∃ R, R = par4 xs := ⟨_, rfl⟩
    rw [← hR2] at HP hRR
    rw [hRR]
    clear hRR hR2 HR
    show Calls Try.prog _ #[.slice ad n c] w fun e w' => ∃ a1 c1, e = .returned (.tuple #[.agg #[.bool v6, .int .u8 cls, .int .u32 flow, .int .u16 id, .int .u16 frag, .int .u8 ttl, .int .u8 proto, .bool s6, .int .u64 sh, .int .u64 sl, .bool d6, .int .u64 dh, .int .u64 dl, .slice a1 B.length c1], .int .i64 err]) ∧ w'.ownsRow w.heap.size 5 1 (.slice a1 B.length c1) B.length (B.map (Value.int .u8)) ∧ w.grownBy w' none
    go_enter Try.func14, Try.ntmps14
    go_upto_region 1 with fail
    have hk := own_alloc HK.out (Obj.cells #[Value.bool false, .int .u8 0, .int .u32 0, .int .u16 0, .int .u16 0, .int .u8 0, .int .u8 0, .bool false, .int .u64 0, .int .u64 0, .bool false, .int .u64 0, .int .u64 0, .slice none 0 0] 29 (0, 0))
    obtain ⟨p, hp⟩ : ∃ p, p = w.heap.size := ⟨_, rfl⟩
    rw [← hp] at hk ⊢
    clear hp
    clear HK
    have HK := Lib.hid hk
    clear hk
    generalize w.alloc (Obj.cells #[Value.bool false, .int .u8 0, .int .u32 0, .int .u16 0, .int .u16 0, .int .u8 0, .int .u8 0, .bool false, .int .u64 0, .int .u64 0, .bool false, .int .u64 0, .int .u64 0, .slice none 0 0] 29 (0, 0)) = w1 at HK ⊢
    go_wp2_with fail
    refine (HP.out _ HK.out.grown).mono ?_
    rintro e w2 ⟨a1, c1, rfl, ho, hg⟩
    have hk := own_back HK.out hg ho
    clear ho hg
    have hk := hk.front (.next _ (.here _))
    clear HK
    have HK := Lib.hid hk
    clear hk
    have q4 : ∀ v, (⟨v6, cls, flow, id, frag, ttl, proto, ⟨s6, sh, sl⟩, ⟨d6, dh, dl⟩⟩ : Pk).val v = .agg #[.bool v6, .int .u8 cls, .int .u32 flow, .int .u16 id, .int .u16 frag, .int .u8 ttl, .int .u8 proto, .bool s6, .int .u64 sh, .int .u64 sl, .bool d6, .int .u64 dh, .int .u64 dl, v] := fun v => rfl
    rw [q4]
    clear q4
    go_wp2_with (refine wpList_put_blk rfl HK.out 29 _ _ rfl p #[.bool v6, .int .u8 cls, .int .u32 flow, .int .u16 id, .int .u16 frag, .int .u8 ttl, .int .u8 proto, .bool s6, .int .u64 sh, .int .u64 sl, .bool d6, .int .u64 dh, .int .u64 dl, .slice a1 B.length c1] rfl rfl _ _ (.here _) rfl (by kernel_rfl) (by simp [Value.oneCell']) ?_; (intro wn hkn; have HKN := Lib.hid hkn; clear hkn; clear HK; have HK := HKN; clear HKN))
    exact bodyPost_ret (results_cell_tmp_row rfl _ _ p _ _ _ _ rfl (HK.out.at (.here _)) Try.underlying29 rfl (by kernel_rfl)) rfl ⟨a1, c1, rfl, HK.out.get (.next _ (.here _)), HK.out.grown⟩
  have hn0 : (0 : Int) < n := by omega
  obtain ⟨x, rfl⟩ : ∃ x, ad = some x := by
    obtain ⟨x, hx, -⟩ := (HB.out w (grown_refl _ _)).1.2 0 (show 0 < n by omega)
    exact ⟨x, hx⟩
  obtain ⟨X, hX⟩ : ∃ X, X = xs.getD 0 0 := ⟨_, rfl⟩
  have HX := Lib.hid hX
  clear hX
  by_cases h6 : X / 16 = 6
  · have hRR : R = par6 xs := by
      rw [HR.out, par, if_neg (by rw [HL.out]; omega), if_pos (by rw [HL.out, ← HX.out]; exact ⟨by omega, h6⟩)]
    have hb6 : (X / 16 == 6) = true := beq_iff_eq.2 h6
    clear h6 h0
    have HP := Lib.hid (fun (w' : World) (g : w.grownBy w' none) => parse6_any (some x) n c xs w' (HB.out _ g) hcn)
    obtain ⟨⟨err, ⟨v6, cls, flow, id, frag, ttl, proto, ⟨s6, sh, sl⟩, ⟨d6, dh, dl⟩⟩, B⟩, hR2⟩ : ∃ R, R = par6 xs := ⟨_, rfl⟩
    rw [← hR2] at HP hRR
    rw [hRR]
    clear hRR hR2 HR
    show Calls Try.prog _ #[.slice (some x) n c] w fun e w' => ∃ a1 c1, e = .returned (.tuple #[.agg #[.bool v6, .int .u8 cls, .int .u32 flow, .int .u16 id, .int .u16 frag, .int .u8 ttl, .int .u8 proto, .bool s6, .int .u64 sh, .int .u64 sl, .bool d6, .int .u64 dh, .int .u64 dl, .slice a1 B.length c1], .int .i64 err]) ∧ w'.ownsRow w.heap.size 5 1 (.slice a1 B.length c1) B.length (B.map (Value.int .u8)) ∧ w.grownBy w' none
    go_enter Try.func14, Try.ntmps14
    go_upto_region 1 with fail
    have hk := own_alloc HK.out (Obj.cells #[Value.bool false, .int .u8 0, .int .u32 0, .int .u16 0, .int .u16 0, .int .u8 0, .int .u8 0, .bool false, .int .u64 0, .int .u64 0, .bool false, .int .u64 0, .int .u64 0, .slice none 0 0] 29 (0, 0))
    obtain ⟨p, hp⟩ : ∃ p, p = w.heap.size := ⟨_, rfl⟩
    rw [← hp] at hk ⊢
    clear hp
    clear HK
    have HK := Lib.hid hk
    clear hk
    generalize w.alloc (Obj.cells #[Value.bool false, .int .u8 0, .int .u32 0, .int .u16 0, .int .u16 0, .int .u8 0, .int .u8 0, .bool false, .int .u64 0, .int .u64 0, .bool false, .int .u64 0, .int .u64 0, .slice none 0 0] 29 (0, 0)) = w1 at HK ⊢
    have c0 := rdx_at (show Rd .u8 w1 (some x) n xs from (HB.out _ HK.out.grown).1) 0 (by omega)
    rw [← HX.out] at c0
    have c0' : w1.cell? x = some (.int .u8 X) := by rw [← c0]; rfl
    go_wp2_with fail
    refine (HP.out _ HK.out.grown).mono ?_
    rintro e w2 ⟨a1, c1, rfl, ho, hg⟩
    have hk := own_back HK.out hg ho
    clear ho hg
    have hk := hk.front (.next _ (.here _))
    clear HK
    have HK := Lib.hid hk
    clear hk
    have q4 : ∀ v, (⟨v6, cls, flow, id, frag, ttl, proto, ⟨s6, sh, sl⟩, ⟨d6, dh, dl⟩⟩ : Pk).val v = .agg #[.bool v6, .int .u8 cls, .int .u32 flow, .int .u16 id, .int .u16 frag, .int .u8 ttl, .int .u8 proto, .bool s6, .int .u64 sh, .int .u64 sl, .bool d6, .int .u64 dh, .int .u64 dl, v] := fun v => rfl
    rw [q4]
    clear q4
    go_wp2_with (refine wpList_put_blk rfl HK.out 29 _ _ rfl p #[.bool v6, .int .u8 cls, .int .u32 flow, .int .u16 id, .int .u16 frag, .int .u8 ttl, .int .u8 proto, .bool s6, .int .u64 sh, .int .u64 sl, .bool d6, .int .u64 dh, .int .u64 dl, .slice a1 B.length c1] rfl rfl _ _ (.here _) rfl (by kernel_rfl) (by simp [Value.oneCell']) ?_; (intro wn hkn; have HKN := Lib.hid hkn; clear hkn; clear HK; have HK := HKN; clear HKN))
    exact bodyPost_ret (results_cell_tmp_row rfl _ _ p _ _ _ _ rfl (HK.out.at (.here _)) Try.underlying29 rfl (by kernel_rfl)) rfl ⟨a1, c1, rfl, HK.out.get (.next _ (.here _)), HK.out.grown⟩
  · have hRR : R = par4 xs := by
      rw [HR.out, par, if_neg (by rw [HL.out]; omega), if_neg (by rw [HL.out, ← HX.out]; exact fun h => h6 h.2)]
    have hb6 : (X / 16 == 6) = false := beq_eq_false_iff_ne.2 h6
    clear h6 h0
    have HP := Lib.hid (fun (w' : World) (g : w.grownBy w' none) => parse4_any (some x) n c xs w' (HB.out _ g) hcn)
    obtain ⟨⟨err, ⟨v6, cls, flow, id, frag, ttl, proto, ⟨s6, sh, sl⟩, ⟨d6, dh, dl⟩⟩, B⟩, hR2⟩ : ∃ R, R = par4 xs := ⟨_, rfl⟩
    rw [← hR2] at HP hRR
    rw [hRR]
    clear hRR hR2 HR
    show Calls Try.prog _ #[.slice (some x) n c] w fun e w' => ∃ a1 c1, e = .returned (.tuple #[.agg #[.bool v6, .int .u8 cls, .int .u32 flow, .int .u16 id, .int .u16 frag, .int .u8 ttl, .int .u8 proto, .bool s6, .int .u64 sh, .int .u64 sl, .bool d6, .int .u64 dh, .int .u64 dl, .slice a1 B.length c1], .int .i64 err]) ∧ w'.ownsRow w.heap.size 5 1 (.slice a1 B.length c1) B.length (B.map (Value.int .u8)) ∧ w.grownBy w' none
    go_enter Try.func14, Try.ntmps14
    go_upto_region 1 with fail
    have hk := own_alloc HK.out (Obj.cells #[Value.bool false, .int .u8 0, .int .u32 0, .int .u16 0, .int .u16 0, .int .u8 0, .int .u8 0, .bool false, .int .u64 0, .int .u64 0, .bool false, .int .u64 0, .int .u64 0, .slice none 0 0] 29 (0, 0))
    obtain ⟨p, hp⟩ : ∃ p, p = w.heap.size := ⟨_, rfl⟩
    rw [← hp] at hk ⊢
    clear hp
    clear HK
    have HK := Lib.hid hk
    clear hk
    generalize w.alloc (Obj.cells #[Value.bool false, .int .u8 0, .int .u32 0, .int .u16 0, .int .u16 0, .int .u8 0, .int .u8 0, .bool false, .int .u64 0, .int .u64 0, .bool false, .int .u64 0, .int .u64 0, .slice none 0 0] 29 (0, 0)) = w1 at HK ⊢
    have c0 := rdx_at (show Rd .u8 w1 (some x) n xs from (HB.out _ HK.out.grown).1) 0 (by omega)
    rw [← HX.out] at c0
    have c0' : w1.cell? x = some (.int .u8 X) := by rw [← c0]; rfl
    go_wp2_with fail
    refine (HP.out _ HK.out.grown).mono ?_
    rintro e w2 ⟨a1, c1, rfl, ho, hg⟩
    have hk := own_back HK.out hg ho
    clear ho hg
    have hk := hk.front (.next _ (.here _))
    clear HK
    have HK := Lib.hid hk
    clear hk
    have q4 : ∀ v, (⟨v6, cls, flow, id, frag, ttl, proto, ⟨s6, sh, sl⟩, ⟨d6, dh, dl⟩⟩ : Pk).val v = .agg #[.bool v6, .int .u8 cls, .int .u32 flow, .int .u16 id, .int .u16 frag, .int .u8 ttl, .int .u8 proto, .bool s6, .int .u64 sh, .int .u64 sl, .bool d6, .int .u64 dh, .int .u64 dl, v] := fun v => rfl
    rw [q4]
    clear q4
    go_wp2_with (refine wpList_put_blk rfl HK.out 29 _ _ rfl p #[.bool v6, .int .u8 cls, .int .u32 flow, .int .u16 id, .int .u16 frag, .int .u8 ttl, .int .u8 proto, .bool s6, .int .u64 sh, .int .u64 sl, .bool d6, .int .u64 dh, .int .u64 dl, .slice a1 B.length c1] rfl rfl _ _ (.here _) rfl (by kernel_rfl) (by simp [Value.oneCell']) ?_; (intro wn hkn; have HKN := Lib.hid hkn; clear hkn; clear HK; have HK := HKN; clear HKN))
    exact bodyPost_ret (results_cell_tmp_row rfl _ _ p _ _ _ _ rfl (HK.out.at (.here _)) Try.underlying29 rfl (by kernel_rfl)) rfl ⟨a1, c1, rfl, HK.out.get (.next _ (.here _)), HK.out.grown⟩
end Go.Proofs.Ytmankjhopfilaaa
