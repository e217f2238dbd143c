/- A packet one hop further: the reference's Hop. -/
import Derived.Test.YtmankjhopfilaaaPlA
namespace Go.Proofs.Ytmankjhopfilaaa
set_option linter.unusedVariables false
set_option linter.unusedSimpArgs false
open Go.RowKit Go.Proofs.YtmankjhopfilaaaL

set_option maxHeartbeats 8000000 in
set_option maxRecDepth 100000 in
theorem rhop_any (ad : Option Addr) (n c : Nat) (xs : List Int) (w : World) (hb : (⟨ad, n, c, xs⟩ : Bs).ok w) (hcn : n ≤ c) :
    Calls Try.prog 16 #[.slice ad n c] w fun e w' => ∃ a m c, e = .returned (.tuple #[.slice a m c, .bool (hop xs).isSome]) ∧ w'.ownsRow w.heap.size 5 1 (.slice a m c) m (((hop xs).getD []).map (Value.int .u8)) ∧ w.grownBy w' none := by
  have HP := Lib.hid (rparse_any ad n c xs w hb hcn)
  have hq := hop_put xs hb.2.1
  obtain ⟨H, hH⟩ : ∃ R, R = hop xs := ⟨_, rfl⟩
  rw [← hH] at hq ⊢
  unfold hop at hH
  obtain ⟨⟨err, ⟨v6, cls, flow, id, frag, ttl, proto, ⟨s6, sh, sl⟩, ⟨d6, dh, dl⟩⟩, B⟩, hR⟩ : ∃ R, R = par xs := ⟨_, rfl⟩
  rw [← hR] at HP hH hq
  have hH : H = if err ≠ 0 ∨ ttl ≤ 1 then none else if v6 then some (xs.set 7 (xs.getD 7 0 - 1)) else some (sumdL (xs.set 8 (xs.getD 8 0 - 1))) := hH
  have q5 : ∀ v, (⟨v6, cls, flow, id, frag, ttl, proto, ⟨s6, sh, sl⟩, ⟨d6, dh, dl⟩⟩ : Pk).val v = .agg #[.bool v6, .int .u8 cls, .int .u32 flow, .int .u16 id, .int .u16 frag, .int .u8 ttl, .int .u8 proto, .bool s6, .int .u64 sh, .int .u64 sl, .bool d6, .int .u64 dh, .int .u64 dl, v] := fun v => rfl
  clear hb hR
  have HK := Lib.hid (own_start w)
  by_cases he : err = 0
  case neg =>
    have hR : H = none := by rw [hH, if_pos (.inl he)]
    rw [hR]
    have hne : (err != 0) = true := by simp [he]
    clear hR hH he hq
    show Calls Try.prog _ #[.slice ad n c] w fun e w' => ∃ a m c, e = .returned (.tuple #[.slice a m c, .bool false]) ∧ w'.ownsRow w.heap.size 5 1 (.slice a m c) m (([] : List Int).map (Value.int .u8)) ∧ w.grownBy w' none
    go_enter Try.func16, Try.ntmps16
    go_wp2_with fail
    refine HP.out.mono ?_
    rintro e w2 ⟨a1, c1, rfl, ho, hg⟩
    have hk := own_back HK.out hg ho
    clear ho hg HP
    clear HK
    have HK := Lib.hid hk
    clear hk
    rw [q5]
    clear q5
    have HKZ := Lib.hid (own_alloc HK.out (Obj.cells #[Value.bool false, .int .u8 0, .int .u32 0, .int .u16 0, .int .u16 0, .int .u8 0, .int .u8 0, .bool false, .int .u64 0, .int .u64 0, .bool false, .int .u64 0, .int .u64 0, .slice none 0 0] 29 (0, 0)))
    go_upto_region 2 with (refine wpList_put_blk rfl HKZ.out 29 _ _ rfl w2.heap.size #[.bool v6, .int .u8 cls, .int .u32 flow, .int .u16 id, .int .u16 frag, .int .u8 ttl, .int .u8 proto, .bool s6, .int .u64 sh, .int .u64 sl, .bool d6, .int .u64 dh, .int .u64 dl, .slice a1 B.length c1] rfl rfl _ _ (.here _) rfl (by kernel_rfl) (by simp [Value.oneCell']) ?_; (intro wn hkn; have HKN := Lib.hid hkn; clear hkn HKZ; clear HK; have HK := HKN; clear HKN))
    obtain ⟨p, hp⟩ : ∃ p, p = w2.heap.size := ⟨_, rfl⟩
    rw [← hp] at HK ⊢
    clear hp
    have hb := HK.out.at (.here _)
    have c5 : _ = some (Value.int .u8 ttl) := cell_blk hb 5
    clear hb
    go_wp2_with fail
    exact bodyPost_ret (results_tmp2 rfl _ _ _) rfl ⟨none, 0, 0, rfl, own_nil_row _ _ _, HK.out.grown⟩
  have hne : (err != 0) = false := by simp [he]
  by_cases ht : ttl ≤ 1
  case pos =>
    have hR : H = none := by rw [hH, if_pos (.inr ht)]
    rw [hR]
    have ht2 : ttl < 2 := by omega
    clear hR hH he hq ht
    show Calls Try.prog _ #[.slice ad n c] w fun e w' => ∃ a m c, e = .returned (.tuple #[.slice a m c, .bool false]) ∧ w'.ownsRow w.heap.size 5 1 (.slice a m c) m (([] : List Int).map (Value.int .u8)) ∧ w.grownBy w' none
    go_enter Try.func16, Try.ntmps16
    go_wp2_with fail
    refine HP.out.mono ?_
    rintro e w2 ⟨a1, c1, rfl, ho, hg⟩
    have hk := own_back HK.out hg ho
    clear ho hg HP
    clear HK
    have HK := Lib.hid hk
    clear hk
    rw [q5]
    clear q5
    have HKZ := Lib.hid (own_alloc HK.out (Obj.cells #[Value.bool false, .int .u8 0, .int .u32 0, .int .u16 0, .int .u16 0, .int .u8 0, .int .u8 0, .bool false, .int .u64 0, .int .u64 0, .bool false, .int .u64 0, .int .u64 0, .slice none 0 0] 29 (0, 0)))
    go_upto_region 2 with (refine wpList_put_blk rfl HKZ.out 29 _ _ rfl w2.heap.size #[.bool v6, .int .u8 cls, .int .u32 flow, .int .u16 id, .int .u16 frag, .int .u8 ttl, .int .u8 proto, .bool s6, .int .u64 sh, .int .u64 sl, .bool d6, .int .u64 dh, .int .u64 dl, .slice a1 B.length c1] rfl rfl _ _ (.here _) rfl (by kernel_rfl) (by simp [Value.oneCell']) ?_; (intro wn hkn; have HKN := Lib.hid hkn; clear hkn HKZ; clear HK; have HK := HKN; clear HKN))
    obtain ⟨p, hp⟩ : ∃ p, p = w2.heap.size := ⟨_, rfl⟩
    rw [← hp] at HK ⊢
    clear hp
    have hb := HK.out.at (.here _)
    have c5 : _ = some (Value.int .u8 ttl) := cell_blk hb 5
    clear hb
    go_wp2_with fail
    exact bodyPost_ret (results_tmp2 rfl _ _ _) rfl ⟨none, 0, 0, rfl, own_nil_row _ _ _, HK.out.grown⟩
  obtain ⟨hpo, -, hbo, hl1, hl2, hq2⟩ := hq he
  obtain ⟨e1, e2⟩ := hq2 (by show 1 < ttl; omega)
  have ht3 : 1 < ttl := by omega
  have ht2 : ¬ ttl < 2 := by omega
  have ht4 : ttl < 256 := hpo.ttl.2
  have HDO := Lib.hid (dec_ok hpo ht3)
  have HE1 := Lib.hid e1
  have HBO := Lib.hid hbo
  have hbl : B.length ≤ 3000 := by have h : _ + B.length = _ := hl1; omega
  obtain ⟨Y, hY⟩ : ∃ Y, Y = putL (⟨v6, cls, flow, id, frag, ttl, proto, ⟨s6, sh, sl⟩, ⟨d6, dh, dl⟩⟩ : Pk).dec B := ⟨_, rfl⟩
  have HY := Lib.hid hY
  rw [show H = some Y by rw [hY]; exact e2]
  clear hH he hq2 e1 e2 hY hpo hbo hl1 hl2 ht
  · skip
    show Calls Try.prog _ #[.slice ad n c] w fun e w' => ∃ a m c, e = .returned (.tuple #[.slice a m c, .bool true]) ∧ w'.ownsRow w.heap.size 5 1 (.slice a m c) m (Y.map (Value.int .u8)) ∧ w.grownBy w' none
    go_enter Try.func16, Try.ntmps16
    go_wp2_with fail
    refine HP.out.mono ?_
    rintro e w2 ⟨a1, c1, rfl, ho, hg⟩
    have hk := own_back HK.out hg ho
    clear ho hg HP
    clear HK
    have HK := Lib.hid hk
    clear hk
    rw [q5]
    clear q5
    have HKZ := Lib.hid (own_alloc HK.out (Obj.cells #[Value.bool false, .int .u8 0, .int .u32 0, .int .u16 0, .int .u16 0, .int .u8 0, .int .u8 0, .bool false, .int .u64 0, .int .u64 0, .bool false, .int .u64 0, .int .u64 0, .slice none 0 0] 29 (0, 0)))
    go_upto_region 2 with (refine wpList_put_blk rfl HKZ.out 29 _ _ rfl w2.heap.size #[.bool v6, .int .u8 cls, .int .u32 flow, .int .u16 id, .int .u16 frag, .int .u8 ttl, .int .u8 proto, .bool s6, .int .u64 sh, .int .u64 sl, .bool d6, .int .u64 dh, .int .u64 dl, .slice a1 B.length c1] rfl rfl _ _ (.here _) rfl (by kernel_rfl) (by simp [Value.oneCell']) ?_; (intro wn hkn; have HKN := Lib.hid hkn; clear hkn HKZ; clear HK; have HK := HKN; clear HKN))
    obtain ⟨p, hp⟩ : ∃ p, p = w2.heap.size := ⟨_, rfl⟩
    rw [← hp] at HK ⊢
    clear hp
    have hb := HK.out.at (.here _)
    have c5 : _ = some (Value.int .u8 ttl) := cell_blk hb 5
    clear hb
    go_upto_region 5 with (refine wpList_put_cell rfl HK.out _ _ _ rfl p 5 (.int .u8 (ttl - 1)) rfl rfl 29 _ #[.bool v6, .int .u8 cls, .int .u32 flow, .int .u16 id, .int .u16 frag, .int .u8 (ttl - 1), .int .u8 proto, .bool s6, .int .u64 sh, .int .u64 sl, .bool d6, .int .u64 dh, .int .u64 dl, .slice a1 B.length c1] (.here _) (Nat.le_of_ble_eq_true rfl) rfl (by kernel_rfl) rfl rfl ?_; (intro wn hkn; have HKN := Lib.hid hkn; clear hkn; clear HK; have HK := HKN; clear HKN))
    go_wp2_with (refine wpList_run rfl (run_rowl rfl rfl (HK.out.at (.here _)) Try.underlying29 rfl (by kernel_rfl)) ?_)
    have q4 := rput_any (⟨v6, cls, flow, id, frag, ttl, proto, ⟨s6, sh, sl⟩, ⟨d6, dh, dl⟩⟩ : Pk).dec ⟨a1, B.length, c1, B⟩ _ HDO.out (own_bs HK.out (.next _ (.here _)) HBO.out hbl)
    rw [show putE (⟨v6, cls, flow, id, frag, ttl, proto, ⟨s6, sh, sl⟩, ⟨d6, dh, dl⟩⟩ : Pk).dec (⟨a1, B.length, c1, B⟩ : Bs).len = 0 from HE1.out, show putL (⟨v6, cls, flow, id, frag, ttl, proto, ⟨s6, sh, sl⟩, ⟨d6, dh, dl⟩⟩ : Pk).dec (⟨a1, B.length, c1, B⟩ : Bs).xs = Y from HY.out.symm] at q4
    refine q4.mono ?_
    clear q4
    rintro e w5 ⟨a6, m6, c6, rfl, ho, hg⟩
    have hk := own_back HK.out hg ho
    clear ho hg
    clear HK
    have HK := Lib.hid hk
    clear hk
    go_wp2_with fail
    exact bodyPost_ret (results_tmp2 rfl _ _ _) rfl ⟨_, _, _, rfl, HK.out.get (.here _), HK.out.grown⟩
end Go.Proofs.Ytmankjhopfilaaa
