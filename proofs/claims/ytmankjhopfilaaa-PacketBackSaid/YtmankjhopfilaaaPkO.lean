/- A packet one hop further: the program's Hop. -/
import Derived.Test.YtmankjhopfilaaaPkN
namespace Go.Proofs.Ytmankjhopfilaaa
set_option linter.unusedVariables false
set_option linter.unusedSimpArgs false
open Go.RowKit Go.Proofs.YtmankjhopfilaaaL

def hop (xs : List Int) : Option (List Int) :=
  if (par xs).err ≠ 0 ∨ (par xs).p.ttl ≤ 1 then none else if (par xs).p.v6 then some (xs.set 7 (xs.getD 7 0 - 1)) else some (sumdL (xs.set 8 (xs.getD 8 0 - 1)))
theorem par4_ok {xs : List Int} (h : (par4 xs).err = 0) : 20 ≤ xs.length ∧ xs.getD 0 0 = 69 ∧ beV (sec xs 2 4) = xs.length ∧ sumdL xs = xs ∧ par4 xs = ⟨0, pk4 xs, xs.drop 20⟩ := by
  unfold par4 at h ⊢
  split at h
  · cases h
  · rename_i h1
    split at h
    · cases h
    · rename_i h2
      rw [if_neg h1, if_neg h2]
      exact ⟨by omega, Decidable.byContradiction fun e => h1 (.inr (.inl e)), Decidable.byContradiction fun e => h1 (.inr (.inr e)), Decidable.byContradiction h2, rfl⟩
theorem par6_ok {xs : List Int} (h : (par6 xs).err = 0) : 40 ≤ xs.length ∧ beV (sec xs 4 6) = xs.length - 40 ∧ par6 xs = ⟨0, pk6 xs, xs.drop 40⟩ := by
  unfold par6 at h ⊢
  split at h
  · cases h
  · rename_i h1
    rw [if_neg h1]
    exact ⟨by omega, Decidable.byContradiction fun e => h1 (.inr e), rfl⟩
/-- What a packet's bytes are like. -/
theorem par_ok {xs : List Int} (h : (par xs).err = 0) : xs.length ≤ 1400 ∧ ((xs.getD 0 0 / 16 = 6 ∧ 40 ≤ xs.length ∧ beV (sec xs 4 6) = xs.length - 40 ∧ par xs = ⟨0, pk6 xs, xs.drop 40⟩) ∨ (20 ≤ xs.length ∧ xs.getD 0 0 = 69 ∧ beV (sec xs 2 4) = xs.length ∧ sumdL xs = xs ∧ par xs = ⟨0, pk4 xs, xs.drop 20⟩)) := by
  unfold par at h ⊢
  split at h
  · cases h
  · rename_i h1
    rw [if_neg h1]
    refine ⟨by omega, ?_⟩
    split at h
    · rename_i h2
      rw [if_pos h2]
      exact .inl ⟨h2.2, par6_ok h⟩
    · rename_i h2
      rw [if_neg h2]
      exact .inr (par4_ok h)

set_option maxHeartbeats 8000000 in
set_option maxRecDepth 100000 in
theorem hop_any (ad : Option Addr) (n c : Nat) (xs : List Int) (w : World) (hb : (⟨ad, n, c, xs⟩ : Bs).ok w) (hcn : n ≤ c) :
    Calls Try.prog 15 #[.slice ad n c] w fun e w' => ∃ a m c, e = .returned (.tuple #[.slice a m c, .bool (hop xs).isSome]) ∧ w'.ownsRow w.heap.size 5 1 (.slice a m c) m (((hop xs).getD []).map (Value.int .u8)) ∧ w.grownBy w' none := by
  have HB := Lib.hid (fun (w' : World) (g : w.grownBy w' none) => Bs.ok_keep hb g)
  have HL := Lib.hid (show xs.length = n from hb.1.1)
  have HO := Lib.hid (show okB 256 xs from hb.2.1)
  have HP := Lib.hid (parse_any ad n c xs w hb hcn)
  have hn3 : (n : Int) ≤ 3000 := by have h : n ≤ 3000 := hb.2.2.2; omega
  have HOK := Lib.hid (fun h => par_ok (xs := xs) h)
  obtain ⟨H, hH⟩ : ∃ R, R = hop xs := ⟨_, rfl⟩
  rw [← hH]
  have HH := Lib.hid hH
  unfold hop at hH
  obtain ⟨⟨err, ⟨v6, cls, flow, id, frag, ttl, proto, ⟨s6, sh, sl⟩, ⟨d6, dh, dl⟩⟩, B⟩, hR⟩ : ∃ R, R = par xs := ⟨_, rfl⟩
  rw [← hR] at HP HOK hH
  have hH : H = if err ≠ 0 ∨ ttl ≤ 1 then none else if v6 then some (xs.set 7 (xs.getD 7 0 - 1)) else some (sumdL (xs.set 8 (xs.getD 8 0 - 1))) := hH
  clear hb hR HH
  have HK := Lib.hid (own_start w)
  by_cases he : err = 0
  case neg =>
    have hR : H = none := by rw [hH, if_pos (.inl he)]
    rw [hR]
    have hne : (err != 0) = true := by simp [he]
    clear hR hH he HOK
    show Calls Try.prog _ #[.slice ad n c] w fun e w' => ∃ a m c, e = .returned (.tuple #[.slice a m c, .bool false]) ∧ w'.ownsRow w.heap.size 5 1 (.slice a m c) m (([] : List Int).map (Value.int .u8)) ∧ w.grownBy w' none
    go_enter Try.func15, Try.ntmps15
    go_wp2_with fail
    refine HP.out.mono ?_
    rintro e w2 ⟨a1, c1, rfl, ho, hg⟩
    have hk := own_back HK.out hg ho
    clear ho hg HP
    clear HK
    have HK := Lib.hid hk
    clear hk
    have q4 : ∀ v, (⟨v6, cls, flow, id, frag, ttl, proto, ⟨s6, sh, sl⟩, ⟨d6, dh, dl⟩⟩ : Pk).val v = .agg #[.bool v6, .int .u8 cls, .int .u32 flow, .int .u16 id, .int .u16 frag, .int .u8 ttl, .int .u8 proto, .bool s6, .int .u64 sh, .int .u64 sl, .bool d6, .int .u64 dh, .int .u64 dl, v] := fun v => rfl
    rw [q4]
    clear q4
    have HKZ := Lib.hid (own_alloc HK.out (Obj.cells #[Value.bool false, .int .u8 0, .int .u32 0, .int .u16 0, .int .u16 0, .int .u8 0, .int .u8 0, .bool false, .int .u64 0, .int .u64 0, .bool false, .int .u64 0, .int .u64 0, .slice none 0 0] 29 (0, 0)))
    go_upto_region 2 with (refine wpList_put_blk rfl HKZ.out 29 _ _ rfl w2.heap.size #[.bool v6, .int .u8 cls, .int .u32 flow, .int .u16 id, .int .u16 frag, .int .u8 ttl, .int .u8 proto, .bool s6, .int .u64 sh, .int .u64 sl, .bool d6, .int .u64 dh, .int .u64 dl, .slice a1 B.length c1] rfl rfl _ _ (.here _) rfl (by kernel_rfl) (by simp [Value.oneCell']) ?_; (intro wn hkn; have HKN := Lib.hid hkn; clear hkn HKZ; clear HK; have HK := HKN; clear HKN))
    obtain ⟨p, hp⟩ : ∃ p, p = w2.heap.size := ⟨_, rfl⟩
    rw [← hp] at HK ⊢
    clear hp
    have hb := HK.out.at (.here _)
    have c0 : _ = some (Value.bool v6) := cell_blk hb 0
    have c5 : _ = some (Value.int .u8 ttl) := cell_blk hb 5
    clear hb
    go_wp2_with fail
    exact bodyPost_ret (results_tmp2 rfl _ _ _) rfl ⟨none, 0, 0, rfl, own_nil_row _ _ _, HK.out.grown⟩
  have HE := Lib.hid he
  have hne : (err != 0) = false := by simp [he]
  by_cases ht : ttl ≤ 1
  case pos =>
    have hR : H = none := by rw [hH, if_pos (.inr ht)]
    rw [hR]
    clear hR hH he HOK HE
    show Calls Try.prog _ #[.slice ad n c] w fun e w' => ∃ a m c, e = .returned (.tuple #[.slice a m c, .bool false]) ∧ w'.ownsRow w.heap.size 5 1 (.slice a m c) m (([] : List Int).map (Value.int .u8)) ∧ w.grownBy w' none
    go_enter Try.func15, Try.ntmps15
    go_wp2_with fail
    refine HP.out.mono ?_
    rintro e w2 ⟨a1, c1, rfl, ho, hg⟩
    have hk := own_back HK.out hg ho
    clear ho hg HP
    clear HK
    have HK := Lib.hid hk
    clear hk
    have q4 : ∀ v, (⟨v6, cls, flow, id, frag, ttl, proto, ⟨s6, sh, sl⟩, ⟨d6, dh, dl⟩⟩ : Pk).val v = .agg #[.bool v6, .int .u8 cls, .int .u32 flow, .int .u16 id, .int .u16 frag, .int .u8 ttl, .int .u8 proto, .bool s6, .int .u64 sh, .int .u64 sl, .bool d6, .int .u64 dh, .int .u64 dl, v] := fun v => rfl
    rw [q4]
    clear q4
    have HKZ := Lib.hid (own_alloc HK.out (Obj.cells #[Value.bool false, .int .u8 0, .int .u32 0, .int .u16 0, .int .u16 0, .int .u8 0, .int .u8 0, .bool false, .int .u64 0, .int .u64 0, .bool false, .int .u64 0, .int .u64 0, .slice none 0 0] 29 (0, 0)))
    go_upto_region 2 with (refine wpList_put_blk rfl HKZ.out 29 _ _ rfl w2.heap.size #[.bool v6, .int .u8 cls, .int .u32 flow, .int .u16 id, .int .u16 frag, .int .u8 ttl, .int .u8 proto, .bool s6, .int .u64 sh, .int .u64 sl, .bool d6, .int .u64 dh, .int .u64 dl, .slice a1 B.length c1] rfl rfl _ _ (.here _) rfl (by kernel_rfl) (by simp [Value.oneCell']) ?_; (intro wn hkn; have HKN := Lib.hid hkn; clear hkn HKZ; clear HK; have HK := HKN; clear HKN))
    obtain ⟨p, hp⟩ : ∃ p, p = w2.heap.size := ⟨_, rfl⟩
    rw [← hp] at HK ⊢
    clear hp
    have hb := HK.out.at (.here _)
    have c0 : _ = some (Value.bool v6) := cell_blk hb 0
    have c5 : _ = some (Value.int .u8 ttl) := cell_blk hb 5
    clear hb
    go_wp2_with fail
    exact bodyPost_ret (results_tmp2 rfl _ _ _) rfl ⟨none, 0, 0, rfl, own_nil_row _ _ _, HK.out.grown⟩
  have hx := HOK.out he
  clear HOK he
  have hH : H = if v6 then some (xs.set 7 (xs.getD 7 0 - 1)) else some (sumdL (xs.set 8 (xs.getD 8 0 - 1))) := by rw [hH, if_neg (by rw [HE.out]; omega)]
  have ht2 : 1 < ttl := by omega
  clear ht HE
  obtain ⟨-, ⟨h1, h2, h3, h4⟩ | ⟨h1, h2, h3, h4, h5⟩⟩ := hx
  · have e1 : v6 = true := congrArg (fun r => r.p.v6) h4
    have e2 : ttl = xs.getD 7 0 := congrArg (fun r => r.p.ttl) h4
    have e3 : H = some (xs.set 7 (ttl - 1)) := by rw [hH, e1, e2]; rfl
    have HT := Lib.hid e2
    have hr : ttl < 256 := by rw [e2]; exact (ok_getD (B := 256) (by decide) HO.out 7).2
    rw [e3]
    subst e1
    have hn40 : 40 ≤ n := by rw [← HL.out]; exact h2
    have hn41 : (7 : Int) < n := by omega
    clear h1 h2 h3 h4 hH e2 e3
    obtain ⟨x, rfl⟩ : ∃ x, ad = some x := by
      obtain ⟨x, hx, -⟩ := (HB.out w (grown_refl _ _)).1.2 0 (show 0 < n by omega)
      exact ⟨x, hx⟩
    show Calls Try.prog _ #[.slice (some x) n c] w fun e w' => ∃ a m c, e = .returned (.tuple #[.slice a m c, .bool true]) ∧ w'.ownsRow w.heap.size 5 1 (.slice a m c) m ((xs.set 7 (ttl - 1)).map (Value.int .u8)) ∧ w.grownBy w' none
    go_enter Try.func15, Try.ntmps15
    go_wp2_with fail
    refine HP.out.mono ?_
    rintro e w2 ⟨a1, c1, rfl, ho, hg⟩
    have hk := own_back HK.out hg ho
    clear ho hg HP
    clear HK
    have HK := Lib.hid hk
    clear hk
    have q4 : ∀ v, (⟨true, cls, flow, id, frag, ttl, proto, ⟨s6, sh, sl⟩, ⟨d6, dh, dl⟩⟩ : Pk).val v = .agg #[.bool true, .int .u8 cls, .int .u32 flow, .int .u16 id, .int .u16 frag, .int .u8 ttl, .int .u8 proto, .bool s6, .int .u64 sh, .int .u64 sl, .bool d6, .int .u64 dh, .int .u64 dl, v] := fun v => rfl
    rw [q4]
    clear q4
    have HKZ := Lib.hid (own_alloc HK.out (Obj.cells #[Value.bool false, .int .u8 0, .int .u32 0, .int .u16 0, .int .u16 0, .int .u8 0, .int .u8 0, .bool false, .int .u64 0, .int .u64 0, .bool false, .int .u64 0, .int .u64 0, .slice none 0 0] 29 (0, 0)))
    go_upto_region 2 with (refine wpList_put_blk rfl HKZ.out 29 _ _ rfl w2.heap.size #[.bool true, .int .u8 cls, .int .u32 flow, .int .u16 id, .int .u16 frag, .int .u8 ttl, .int .u8 proto, .bool s6, .int .u64 sh, .int .u64 sl, .bool d6, .int .u64 dh, .int .u64 dl, .slice a1 B.length c1] rfl rfl _ _ (.here _) rfl (by kernel_rfl) (by simp [Value.oneCell']) ?_; (intro wn hkn; have HKN := Lib.hid hkn; clear hkn HKZ; clear HK; have HK := HKN; clear HKN))
    obtain ⟨p, hp⟩ : ∃ p, p = w2.heap.size := ⟨_, rfl⟩
    rw [← hp] at HK ⊢
    clear hp
    have hb := HK.out.at (.here _)
    have c0 : _ = some (Value.bool true) := cell_blk hb 0
    have c5 : _ = some (Value.int .u8 ttl) := cell_blk hb 5
    clear hb
    go_upto_region 4 with fail
    clear c5
    go_wp2_with fail
    refine (clone_any x n c xs _ (HB.out _ HK.out.grown).1 (by omega)).mono ?_
    rintro e w3 ⟨a3, c3, rfl, ho, hg⟩
    have hk := own_back HK.out hg ho
    clear ho hg c0
    obtain ⟨g3, rfl, hcb⟩ := hk.addr (.here _) (by omega)
    clear HK
    have HK := Lib.hid hk
    clear hk
    have hb := HK.out.at (.next _ (.here _))
    have c0 : _ = some (Value.bool true) := cell_blk hb 0
    have c7 := HK.out.cellsl (.here _) 7 (by omega)
    rw [← HT.out] at c7
    clear hb
    go_wp2_with (first | (refine wpList_put_sl rfl HK.out _ _ _ rfl _ _ _ _ rfl rfl _ _ _ _ (by first | exact Upd.here _ | exact Upd.next _ (Upd.here _) | exact Upd.next _ (Upd.next _ (Upd.here _)) | exact Upd.next _ (Upd.next _ (Upd.next _ (Upd.here _))) | exact Upd.next _ (Upd.next _ (Upd.next _ (Upd.next _ (Upd.here _)))) | exact Upd.next _ (Upd.next _ (Upd.next _ (Upd.next _ (Upd.next _ (Upd.here _))))) | exact Upd.next _ (Upd.next _ (Upd.next _ (Upd.next _ (Upd.next _ (Upd.next _ (Upd.here _)))))) | exact Upd.next _ (Upd.next _ (Upd.next _ (Upd.next _ (Upd.next _ (Upd.next _ (Upd.next _ (Upd.here _))))))) | exact Upd.next _ (Upd.next _ (Upd.next _ (Upd.next _ (Upd.next _ (Upd.next _ (Upd.next _ (Upd.next _ (Upd.here _)))))))) | exact Upd.next _ (Upd.next _ (Upd.next _ (Upd.next _ (Upd.next _ (Upd.next _ (Upd.next _ (Upd.next _ (Upd.next _ (Upd.here _)))))))))) (by omega) (by kernel_rfl) ?_; (intro wn hkn; have HKN := Lib.hid hkn; clear hkn; clear HK; have HK := HKN; clear HKN)))
    exact bodyPost_ret (results_tmp2 rfl _ _ _) rfl ⟨_, _, _, rfl, HK.out.get (.here _), HK.out.grown⟩
  · have e1 : v6 = false := congrArg (fun r => r.p.v6) h5
    have e2 : ttl = xs.getD 8 0 := congrArg (fun r => r.p.ttl) h5
    have e3 : H = some (sumdL (xs.set 8 (ttl - 1))) := by rw [hH, e1, e2]; rfl
    have HT := Lib.hid e2
    have hr : ttl < 256 := by rw [e2]; exact (ok_getD (B := 256) (by decide) HO.out 8).2
    rw [e3]
    subst e1
    have hn20 : 20 ≤ n := by rw [← HL.out]; exact h1
    have hn21 : (8 : Int) < n := by omega
    have HO2 := Lib.hid (show okB 256 (xs.set 8 (ttl - 1)) from ok_set HO.out _ _ (by omega) (by omega))
    clear h1 h2 h3 h4 h5 hH e2 e3
    obtain ⟨x, rfl⟩ : ∃ x, ad = some x := by
      obtain ⟨x, hx, -⟩ := (HB.out w (grown_refl _ _)).1.2 0 (show 0 < n by omega)
      exact ⟨x, hx⟩
    obtain ⟨Z, hZ⟩ : ∃ Z, Z = xs.set 8 (ttl - 1) := ⟨_, rfl⟩
    have HZ := Lib.hid hZ
    rw [← hZ] at HO2 ⊢
    clear hZ
    show Calls Try.prog _ #[.slice (some x) n c] w fun e w' => ∃ a m c, e = .returned (.tuple #[.slice a m c, .bool true]) ∧ w'.ownsRow w.heap.size 5 1 (.slice a m c) m ((sumdL Z).map (Value.int .u8)) ∧ w.grownBy w' none
    go_enter Try.func15, Try.ntmps15
    go_wp2_with fail
    refine HP.out.mono ?_
    rintro e w2 ⟨a1, c1, rfl, ho, hg⟩
    have hk := own_back HK.out hg ho
    clear ho hg HP
    clear HK
    have HK := Lib.hid hk
    clear hk
    have q4 : ∀ v, (⟨false, cls, flow, id, frag, ttl, proto, ⟨s6, sh, sl⟩, ⟨d6, dh, dl⟩⟩ : Pk).val v = .agg #[.bool false, .int .u8 cls, .int .u32 flow, .int .u16 id, .int .u16 frag, .int .u8 ttl, .int .u8 proto, .bool s6, .int .u64 sh, .int .u64 sl, .bool d6, .int .u64 dh, .int .u64 dl, v] := fun v => rfl
    rw [q4]
    clear q4
    have HKZ := Lib.hid (own_alloc HK.out (Obj.cells #[Value.bool false, .int .u8 0, .int .u32 0, .int .u16 0, .int .u16 0, .int .u8 0, .int .u8 0, .bool false, .int .u64 0, .int .u64 0, .bool false, .int .u64 0, .int .u64 0, .slice none 0 0] 29 (0, 0)))
    go_upto_region 2 with (refine wpList_put_blk rfl HKZ.out 29 _ _ rfl w2.heap.size #[.bool false, .int .u8 cls, .int .u32 flow, .int .u16 id, .int .u16 frag, .int .u8 ttl, .int .u8 proto, .bool s6, .int .u64 sh, .int .u64 sl, .bool d6, .int .u64 dh, .int .u64 dl, .slice a1 B.length c1] rfl rfl _ _ (.here _) rfl (by kernel_rfl) (by simp [Value.oneCell']) ?_; (intro wn hkn; have HKN := Lib.hid hkn; clear hkn HKZ; clear HK; have HK := HKN; clear HKN))
    obtain ⟨p, hp⟩ : ∃ p, p = w2.heap.size := ⟨_, rfl⟩
    rw [← hp] at HK ⊢
    clear hp
    have hb := HK.out.at (.here _)
    have c0 : _ = some (Value.bool false) := cell_blk hb 0
    have c5 : _ = some (Value.int .u8 ttl) := cell_blk hb 5
    clear hb
    go_upto_region 4 with fail
    clear c5
    go_wp2_with fail
    refine (clone_any x n c xs _ (HB.out _ HK.out.grown).1 (by omega)).mono ?_
    rintro e w3 ⟨a3, c3, rfl, ho, hg⟩
    have hk := own_back HK.out hg ho
    clear ho hg c0
    obtain ⟨g3, rfl, hcb⟩ := hk.addr (.here _) (by omega)
    clear HK
    have HK := Lib.hid hk
    clear hk
    have hb := HK.out.at (.next _ (.here _))
    have c0 : _ = some (Value.bool false) := cell_blk hb 0
    have c8 := HK.out.cellsl (.here _) 8 (by omega)
    rw [← HT.out] at c8
    clear hb
    go_wp2_with (first | (refine wpList_put_sl rfl HK.out _ _ _ rfl _ _ _ _ rfl rfl _ _ _ _ (by first | exact Upd.here _ | exact Upd.next _ (Upd.here _) | exact Upd.next _ (Upd.next _ (Upd.here _)) | exact Upd.next _ (Upd.next _ (Upd.next _ (Upd.here _))) | exact Upd.next _ (Upd.next _ (Upd.next _ (Upd.next _ (Upd.here _)))) | exact Upd.next _ (Upd.next _ (Upd.next _ (Upd.next _ (Upd.next _ (Upd.here _))))) | exact Upd.next _ (Upd.next _ (Upd.next _ (Upd.next _ (Upd.next _ (Upd.next _ (Upd.here _)))))) | exact Upd.next _ (Upd.next _ (Upd.next _ (Upd.next _ (Upd.next _ (Upd.next _ (Upd.next _ (Upd.here _))))))) | exact Upd.next _ (Upd.next _ (Upd.next _ (Upd.next _ (Upd.next _ (Upd.next _ (Upd.next _ (Upd.next _ (Upd.here _)))))))) | exact Upd.next _ (Upd.next _ (Upd.next _ (Upd.next _ (Upd.next _ (Upd.next _ (Upd.next _ (Upd.next _ (Upd.next _ (Upd.here _)))))))))) (by omega) (by kernel_rfl) ?_; (intro wn hkn; have HKN := Lib.hid hkn; clear hkn; clear HK; have HK := HKN; clear HKN)))
    have hk := HK.out
    rw [← HZ.out] at hk
    clear HK
    have HK := Lib.hid hk
    clear hk
    refine (summed_any _ n c3 Z _ (HK.out.rdsl (.here _)) HO2.out hn20 (by omega)).mono ?_
    rintro e w4 ⟨a4, c4, rfl, ho, hg⟩
    have hk := own_back HK.out hg ho
    clear ho hg
    clear HK
    have HK := Lib.hid hk
    clear hk
    go_wp2_with fail
    exact bodyPost_ret (results_tmp2 rfl _ _ _) rfl ⟨_, _, _, rfl, HK.out.get (.here _), HK.out.grown⟩
end Go.Proofs.Ytmankjhopfilaaa
