/- PacketLong, walked. -/
import Derived.Test.YtmankjhopfilaaaPlE
import Derived.Test.YtmankjhopfilaaaPlF
import Derived.Test.YtmankjhopfilaaaPkP
namespace Go.Proofs.Ytmankjhopfilaaa
set_option linter.unusedVariables false
set_option linter.unusedSimpArgs false
open Go.RowKit Go.Proofs.YtmankjhopfilaaaL

def pkL (v6 : Bool) : Pk := ⟨v6, 0, 0, 0, 0, 9, 0, ⟨v6, 0, 0⟩, ⟨v6, 0, 0⟩⟩
theorem pkL_ok (v6 : Bool) : (pkL v6).ok ∧ (pkL v6).right = true := by
  refine ⟨⟨(by decide : (0 : Int) ≤ 0 ∧ (0 : Int) < 256), (by decide : (0 : Int) ≤ 0 ∧ (0 : Int) < 4294967296), (by decide : (0 : Int) ≤ 0 ∧ (0 : Int) < 65536), (by decide : (0 : Int) ≤ 0 ∧ (0 : Int) < 65536), (by decide : (0 : Int) ≤ 9 ∧ (9 : Int) < 256), (by decide : (0 : Int) ≤ 0 ∧ (0 : Int) < 256), ?_, ?_⟩, ?_⟩
  · exact ⟨(by decide : (0 : Int) ≤ 0), (by decide : (0 : Int) < 18446744073709551616), (by decide : (0 : Int) ≤ 0), (by decide : (0 : Int) < 18446744073709551616)⟩
  · exact ⟨(by decide : (0 : Int) ≤ 0), (by decide : (0 : Int) < 18446744073709551616), (by decide : (0 : Int) ≤ 0), (by decide : (0 : Int) < 18446744073709551616)⟩
  · cases v6 <;> rfl
theorem getD_zer (n : Nat) : (zer n).getD 0 0 = 0 := by
  rw [zer, List.getD_eq_getElem?_getD, List.getElem?_replicate]
  split <;> rfl
theorem par_zer (N : Nat) : par (zer N) = if 1400 < N then badR 23 else badR 20 := by
  rw [par, length_zer]
  split
  · rfl
  · rw [if_neg (by rw [getD_zer]; exact fun h => absurd h.2 (by decide)), par4, if_pos (.inr (.inl (by rw [getD_zer]; decide)))]
theorem badR_val (e : Int) (v : Value) : (badR e).p.val v = .agg #[.bool false, .int .u8 0, .int .u32 0, .int .u16 0, .int .u16 0, .int .u8 0, .int .u8 0, .bool false, .int .u64 0, .int .u64 0, .bool false, .int .u64 0, .int .u64 0, v] := rfl

set_option maxHeartbeats 8000000 in
set_option maxRecDepth 100000 in
theorem long_walk (n : Int) (v6 : Bool) (w : World) (hn0 : 0 ≤ n) (hn1 : n < 256) :
    Calls Try.prog 7 #[.int .u8 n, .bool v6] w fun e w' => e = .returned (.bool true) ∧ w.grownBy w' none := by
  obtain ⟨m, hm, hm4⟩ : ∃ m : Nat, n % 5 = m ∧ m ≤ 4 := ⟨(n % 5).toNat, by omega, by omega⟩
  have HM := Lib.hid hm
  clear hm
  have HK := Lib.hid (own_start w)
  cases v6
  case false =>
    by_cases hbig : 2 < m
    · skip
      obtain ⟨M, hM, hM'⟩ : ∃ M, M ≤ 1378 + m ∧ 1378 + m ≤ M := ⟨_, Nat.le_refl _, Nat.le_refl _⟩
      obtain ⟨N, hN, hN'⟩ : ∃ N, N ≤ 1398 + m ∧ 1398 + m ≤ N := ⟨_, Nat.le_refl _, Nat.le_refl _⟩
      have HPE := Lib.hid (show putE (pkL false) M = 23 by rw [putE, if_neg (by rw [(pkL_ok false).2]; decide), if_neg (by show ¬ 20 + M ≤ 1400; omega)])
      have HPZ := Lib.hid (show par (zer N) = badR 23 by rw [par_zer, if_pos (by omega)])
      go_enter Try.func7, Try.ntmps7
      go_wp2_with fail
      refine (known_any _).mono ?_
      rintro e wk ⟨rfl, hg⟩
      have hk := HK.out.grow hg
      clear hg
      clear HK
      have HK := Lib.hid hk
      clear hk
      have hm := HM.out
      go_wp2_with (refine Go.Proofs.YtmankjhopfilaaaL.wpList_make_ints rfl HK.out _ _ 27 rfl 5 .u8 1 Try.underlying27 (by kernel_rfl) M _ rfl rfl (by omega) (by omega) (by omega) ?_)
      intro w2 pb hk
      obtain ⟨Z, hZ⟩ : ∃ Z, Z = zer M := ⟨_, rfl⟩
      rw [← hZ] at hk
      have HZL := Lib.hid (show Z.length = M by rw [hZ]; exact length_zer _)
      have HZO := Lib.hid (show okB 256 Z by rw [hZ]; exact ok_zer (by decide) _)
      have HZ := Lib.hid hZ
      clear hZ
      clear HK
      have HK := Lib.hid hk
      clear hk
      have HKZ := Lib.hid (own_alloc HK.out (Obj.cells #[Value.bool false, .int .u8 0, .int .u32 0, .int .u16 0, .int .u16 0, .int .u8 0, .int .u8 0, .bool false, .int .u64 0, .int .u64 0, .bool false, .int .u64 0, .int .u64 0, .slice none 0 0] 29 (0, 0)))
      go_upto_region 8 with (refine wpList_put_blk rfl HKZ.out 29 _ _ rfl w2.heap.size #[.bool false, .int .u8 0, .int .u32 0, .int .u16 0, .int .u16 0, .int .u8 9, .int .u8 0, .bool false, .int .u64 0, .int .u64 0, .bool false, .int .u64 0, .int .u64 0, .slice (some ⟨pb, 0, none⟩) M M] rfl rfl _ _ (.here _) (by rfl) (by kernel_rfl) (by simp [Value.oneCell']) ?_; (intro wn hkn; have HKN := Lib.hid hkn; clear hkn HKZ; clear HK; have HK := HKN; clear HKN))
      obtain ⟨p, hp⟩ : ∃ p, p = w2.heap.size := ⟨_, rfl⟩
      rw [← hp] at HK ⊢
      clear hp
      go_wp2_with (refine wpList_run rfl (run_rowl rfl rfl (HK.out.at (.here _)) Try.underlying29 rfl (by kernel_rfl)) ?_)
      have q4 := put_any (pkL false) ⟨some ⟨pb, 0, none⟩, M, M, Z⟩ _ (pkL_ok false).1 (own_bsi HK.out (.next _ (.here _)) HZO.out (by omega))
      rw [show putE (pkL false) (⟨some ⟨pb, 0, none⟩, M, M, Z⟩ : Bs).len = 23 from HPE.out] at q4
      refine q4.mono ?_
      clear q4
      rintro e w3 ⟨a3, m3, c3, rfl, ho, hg⟩
      have hk := own_back HK.out hg ho
      clear ho hg
      obtain ⟨Y, hY⟩ : ∃ Y, Y = putL (pkL false) Z := ⟨_, rfl⟩
      rw [show putL (pkL false) (⟨some ⟨pb, 0, none⟩, M, M, Z⟩ : Bs).xs = Y from hY.symm] at hk
      have HY := Lib.hid hY
      clear hY
      clear HK
      have HK := Lib.hid hk
      clear hk
      go_wp2_with (refine Go.Proofs.YtmankjhopfilaaaL.wpList_make_ints rfl HK.out _ _ 27 rfl 5 .u8 1 Try.underlying27 (by kernel_rfl) N _ rfl rfl (by omega) (by omega) (by omega) ?_)
      intro w4 pc hk
      obtain ⟨X, hZ⟩ : ∃ Z, Z = zer N := ⟨_, rfl⟩
      rw [← hZ] at hk
      have HXL := Lib.hid (show X.length = N by rw [hZ]; exact length_zer _)
      have HXO := Lib.hid (show okB 256 X by rw [hZ]; exact ok_zer (by decide) _)
      have HX := Lib.hid hZ
      clear hZ
      clear HK
      have HK := Lib.hid hk
      clear hk
      go_wp2_with fail
      have q4 := parse_any (some ⟨pc, 0, none⟩) N N X w4 (own_bsi HK.out (.here _) HXO.out (by omega)) (Nat.le_refl _)
      rw [show par X = badR 23 by rw [HX.out]; exact HPZ.out] at q4
      refine q4.mono ?_
      clear q4
      rintro e w5 ⟨a5, c5, rfl, ho, hg⟩
      have hk := HK.out.grow hg
      clear ho hg
      clear HK
      have HK := Lib.hid hk
      clear hk
      rw [badR_val]
      simp only [badR, List.length_nil]
      have HKZ := Lib.hid (own_alloc HK.out (Obj.cells #[Value.bool false, .int .u8 0, .int .u32 0, .int .u16 0, .int .u16 0, .int .u8 0, .int .u8 0, .bool false, .int .u64 0, .int .u64 0, .bool false, .int .u64 0, .int .u64 0, .slice none 0 0] 29 (0, 0)))
      go_upto_region 10 with (refine wpList_put_blk rfl HKZ.out 29 _ _ rfl w5.heap.size #[.bool false, .int .u8 0, .int .u32 0, .int .u16 0, .int .u16 0, .int .u8 0, .int .u8 0, .bool false, .int .u64 0, .int .u64 0, .bool false, .int .u64 0, .int .u64 0, .slice a5 0 c5] rfl rfl _ _ (.here _) (by rfl) (by kernel_rfl) (by simp [Value.oneCell']) ?_; (intro wn hkn; have HKN := Lib.hid hkn; clear hkn HKZ; clear HK; have HK := HKN; clear HKN))
      have hd : (2 : Int) < m := by omega
      go_wp2_with fail
      exact bodyPost_ret (results_tmp rfl _ _ _) rfl ⟨rfl, HK.out.grown⟩
    · skip
      obtain ⟨M, hM, hM'⟩ : ∃ M, M ≤ 1378 + m ∧ 1378 + m ≤ M := ⟨_, Nat.le_refl _, Nat.le_refl _⟩
      obtain ⟨N, hN, hN'⟩ : ∃ N, N ≤ 1398 + m ∧ 1398 + m ≤ N := ⟨_, Nat.le_refl _, Nat.le_refl _⟩
      have HPE := Lib.hid (show putE (pkL false) M = 0 by rw [putE, if_neg (by rw [(pkL_ok false).2]; decide), if_pos (by show 20 + M ≤ 1400; omega)])
      have HPZ := Lib.hid (show par (zer N) = badR 20 by rw [par_zer, if_neg (by omega)])
      go_enter Try.func7, Try.ntmps7
      go_wp2_with fail
      refine (known_any _).mono ?_
      rintro e wk ⟨rfl, hg⟩
      have hk := HK.out.grow hg
      clear hg
      clear HK
      have HK := Lib.hid hk
      clear hk
      have hm := HM.out
      go_wp2_with (refine Go.Proofs.YtmankjhopfilaaaL.wpList_make_ints rfl HK.out _ _ 27 rfl 5 .u8 1 Try.underlying27 (by kernel_rfl) M _ rfl rfl (by omega) (by omega) (by omega) ?_)
      intro w2 pb hk
      obtain ⟨Z, hZ⟩ : ∃ Z, Z = zer M := ⟨_, rfl⟩
      rw [← hZ] at hk
      have HZL := Lib.hid (show Z.length = M by rw [hZ]; exact length_zer _)
      have HZO := Lib.hid (show okB 256 Z by rw [hZ]; exact ok_zer (by decide) _)
      have HZ := Lib.hid hZ
      clear hZ
      clear HK
      have HK := Lib.hid hk
      clear hk
      have HKZ := Lib.hid (own_alloc HK.out (Obj.cells #[Value.bool false, .int .u8 0, .int .u32 0, .int .u16 0, .int .u16 0, .int .u8 0, .int .u8 0, .bool false, .int .u64 0, .int .u64 0, .bool false, .int .u64 0, .int .u64 0, .slice none 0 0] 29 (0, 0)))
      go_upto_region 8 with (refine wpList_put_blk rfl HKZ.out 29 _ _ rfl w2.heap.size #[.bool false, .int .u8 0, .int .u32 0, .int .u16 0, .int .u16 0, .int .u8 9, .int .u8 0, .bool false, .int .u64 0, .int .u64 0, .bool false, .int .u64 0, .int .u64 0, .slice (some ⟨pb, 0, none⟩) M M] rfl rfl _ _ (.here _) (by rfl) (by kernel_rfl) (by simp [Value.oneCell']) ?_; (intro wn hkn; have HKN := Lib.hid hkn; clear hkn HKZ; clear HK; have HK := HKN; clear HKN))
      obtain ⟨p, hp⟩ : ∃ p, p = w2.heap.size := ⟨_, rfl⟩
      rw [← hp] at HK ⊢
      clear hp
      go_wp2_with (refine wpList_run rfl (run_rowl rfl rfl (HK.out.at (.here _)) Try.underlying29 rfl (by kernel_rfl)) ?_)
      have q4 := put_any (pkL false) ⟨some ⟨pb, 0, none⟩, M, M, Z⟩ _ (pkL_ok false).1 (own_bsi HK.out (.next _ (.here _)) HZO.out (by omega))
      rw [show putE (pkL false) (⟨some ⟨pb, 0, none⟩, M, M, Z⟩ : Bs).len = 0 from HPE.out] at q4
      refine q4.mono ?_
      clear q4
      rintro e w3 ⟨a3, m3, c3, rfl, ho, hg⟩
      have hk := own_back HK.out hg ho
      clear ho hg
      obtain ⟨Y, hY⟩ : ∃ Y, Y = putL (pkL false) Z := ⟨_, rfl⟩
      rw [show putL (pkL false) (⟨some ⟨pb, 0, none⟩, M, M, Z⟩ : Bs).xs = Y from hY.symm] at hk
      have HY := Lib.hid hY
      clear hY
      clear HK
      have HK := Lib.hid hk
      clear hk
      go_wp2_with (refine Go.Proofs.YtmankjhopfilaaaL.wpList_make_ints rfl HK.out _ _ 27 rfl 5 .u8 1 Try.underlying27 (by kernel_rfl) N _ rfl rfl (by omega) (by omega) (by omega) ?_)
      intro w4 pc hk
      obtain ⟨X, hZ⟩ : ∃ Z, Z = zer N := ⟨_, rfl⟩
      rw [← hZ] at hk
      have HXL := Lib.hid (show X.length = N by rw [hZ]; exact length_zer _)
      have HXO := Lib.hid (show okB 256 X by rw [hZ]; exact ok_zer (by decide) _)
      have HX := Lib.hid hZ
      clear hZ
      clear HK
      have HK := Lib.hid hk
      clear hk
      go_wp2_with fail
      have q4 := parse_any (some ⟨pc, 0, none⟩) N N X w4 (own_bsi HK.out (.here _) HXO.out (by omega)) (Nat.le_refl _)
      rw [show par X = badR 20 by rw [HX.out]; exact HPZ.out] at q4
      refine q4.mono ?_
      clear q4
      rintro e w5 ⟨a5, c5, rfl, ho, hg⟩
      have hk := HK.out.grow hg
      clear ho hg
      clear HK
      have HK := Lib.hid hk
      clear hk
      rw [badR_val]
      simp only [badR, List.length_nil]
      have HKZ := Lib.hid (own_alloc HK.out (Obj.cells #[Value.bool false, .int .u8 0, .int .u32 0, .int .u16 0, .int .u16 0, .int .u8 0, .int .u8 0, .bool false, .int .u64 0, .int .u64 0, .bool false, .int .u64 0, .int .u64 0, .slice none 0 0] 29 (0, 0)))
      go_upto_region 10 with (refine wpList_put_blk rfl HKZ.out 29 _ _ rfl w5.heap.size #[.bool false, .int .u8 0, .int .u32 0, .int .u16 0, .int .u16 0, .int .u8 0, .int .u8 0, .bool false, .int .u64 0, .int .u64 0, .bool false, .int .u64 0, .int .u64 0, .slice a5 0 c5] rfl rfl _ _ (.here _) (by rfl) (by kernel_rfl) (by simp [Value.oneCell']) ?_; (intro wn hkn; have HKN := Lib.hid hkn; clear hkn HKZ; clear HK; have HK := HKN; clear HKN))
      have hd : ¬ (2 : Int) < m := by omega
      have hd2 : ¬ (0 : Int) < m - 2 := by omega
      clear hm
      have hcap := (HK.out.cap (.next _ (.next _ (.here _)))).1
      have hb := read_back (pkL false) Z (pkL_ok false).1 HZO.out (by rw [HZL.out]; exact HPE.out)
      have hm3 := HK.out.lensl (.next _ (.next _ (.here _)))
      rw [← HY.out] at hb
      have HYP := Lib.hid hb.2.2.2
      have HYO := Lib.hid hb.1
      have hm9 : m3 ≤ 3000 := by rw [← hm3, hb.2.1]; exact Nat.le_trans hb.2.2.1 (by decide)
      clear hb hm3
      go_wp2_with fail
      have q4 := parse_any a3 m3 c3 Y _ (own_bs HK.out (.next _ (.next _ (.here _))) HYO.out hm9) hcap
      rw [HYP.out] at q4
      refine q4.mono ?_
      clear q4
      rintro e w6 ⟨a6, c6, rfl, ho, hg⟩
      have hk := HK.out.grow hg
      clear ho hg
      clear HK
      have HK := Lib.hid hk
      clear hk
      rw [Rs.val_eq]
      simp only [pkL, HZL.out]
      have HKZ := Lib.hid (own_alloc HK.out (Obj.cells #[Value.bool false, .int .u8 0, .int .u32 0, .int .u16 0, .int .u16 0, .int .u8 0, .int .u8 0, .bool false, .int .u64 0, .int .u64 0, .bool false, .int .u64 0, .int .u64 0, .slice none 0 0] 29 (0, 0)))
      go_upto_region 13 with (refine wpList_put_blk rfl HKZ.out 29 _ _ rfl w6.heap.size #[.bool false, .int .u8 0, .int .u32 0, .int .u16 0, .int .u16 0, .int .u8 9, .int .u8 0, .bool false, .int .u64 0, .int .u64 0, .bool false, .int .u64 0, .int .u64 0, .slice a6 M c6] rfl rfl _ _ (.here _) (by rfl) (by kernel_rfl) (by simp [Value.oneCell']) ?_; (intro wn hkn; have HKN := Lib.hid hkn; clear hkn HKZ; clear HK; have HK := HKN; clear HKN))
      obtain ⟨p6, hp⟩ : ∃ p, p = w6.heap.size := ⟨_, rfl⟩
      rw [← hp] at HK ⊢
      clear hp
      have hb := HK.out.at (.here _)
      have d13 : _ = some (Value.slice a6 M c6) := cell_blk hb 13
      clear hb
      have hb := HK.out.at (.next _ (.next _ (.next _ (.next _ (.here _)))))
      have c13 : _ = some (Value.slice (some ⟨pb, 0, none⟩) M M) := cell_blk hb 13
      clear hb
      go_wp2_with fail
      exact bodyPost_ret (results_tmp rfl _ _ _) rfl ⟨rfl, HK.out.grown⟩
  case true =>
    by_cases hbig : 2 < m
    · skip
      obtain ⟨M, hM, hM'⟩ : ∃ M, M ≤ 1358 + m ∧ 1358 + m ≤ M := ⟨_, Nat.le_refl _, Nat.le_refl _⟩
      obtain ⟨N, hN, hN'⟩ : ∃ N, N ≤ 1398 + m ∧ 1398 + m ≤ N := ⟨_, Nat.le_refl _, Nat.le_refl _⟩
      have HPE := Lib.hid (show putE (pkL true) M = 23 by rw [putE, if_neg (by rw [(pkL_ok true).2]; decide), if_neg (by show ¬ 40 + M ≤ 1400; omega)])
      have HPZ := Lib.hid (show par (zer N) = badR 23 by rw [par_zer, if_pos (by omega)])
      go_enter Try.func7, Try.ntmps7
      go_wp2_with fail
      refine (known_any _).mono ?_
      rintro e wk ⟨rfl, hg⟩
      have hk := HK.out.grow hg
      clear hg
      clear HK
      have HK := Lib.hid hk
      clear hk
      have hm := HM.out
      go_wp2_with (refine Go.Proofs.YtmankjhopfilaaaL.wpList_make_ints rfl HK.out _ _ 27 rfl 5 .u8 1 Try.underlying27 (by kernel_rfl) M _ rfl rfl (by omega) (by omega) (by omega) ?_)
      intro w2 pb hk
      obtain ⟨Z, hZ⟩ : ∃ Z, Z = zer M := ⟨_, rfl⟩
      rw [← hZ] at hk
      have HZL := Lib.hid (show Z.length = M by rw [hZ]; exact length_zer _)
      have HZO := Lib.hid (show okB 256 Z by rw [hZ]; exact ok_zer (by decide) _)
      have HZ := Lib.hid hZ
      clear hZ
      clear HK
      have HK := Lib.hid hk
      clear hk
      have HKZ := Lib.hid (own_alloc HK.out (Obj.cells #[Value.bool false, .int .u8 0, .int .u32 0, .int .u16 0, .int .u16 0, .int .u8 0, .int .u8 0, .bool false, .int .u64 0, .int .u64 0, .bool false, .int .u64 0, .int .u64 0, .slice none 0 0] 29 (0, 0)))
      go_upto_region 8 with (refine wpList_put_blk rfl HKZ.out 29 _ _ rfl w2.heap.size #[.bool true, .int .u8 0, .int .u32 0, .int .u16 0, .int .u16 0, .int .u8 9, .int .u8 0, .bool true, .int .u64 0, .int .u64 0, .bool true, .int .u64 0, .int .u64 0, .slice (some ⟨pb, 0, none⟩) M M] rfl rfl _ _ (.here _) (by rfl) (by kernel_rfl) (by simp [Value.oneCell']) ?_; (intro wn hkn; have HKN := Lib.hid hkn; clear hkn HKZ; clear HK; have HK := HKN; clear HKN))
      obtain ⟨p, hp⟩ : ∃ p, p = w2.heap.size := ⟨_, rfl⟩
      rw [← hp] at HK ⊢
      clear hp
      go_wp2_with (refine wpList_run rfl (run_rowl rfl rfl (HK.out.at (.here _)) Try.underlying29 rfl (by kernel_rfl)) ?_)
      have q4 := put_any (pkL true) ⟨some ⟨pb, 0, none⟩, M, M, Z⟩ _ (pkL_ok true).1 (own_bsi HK.out (.next _ (.here _)) HZO.out (by omega))
      rw [show putE (pkL true) (⟨some ⟨pb, 0, none⟩, M, M, Z⟩ : Bs).len = 23 from HPE.out] at q4
      refine q4.mono ?_
      clear q4
      rintro e w3 ⟨a3, m3, c3, rfl, ho, hg⟩
      have hk := own_back HK.out hg ho
      clear ho hg
      obtain ⟨Y, hY⟩ : ∃ Y, Y = putL (pkL true) Z := ⟨_, rfl⟩
      rw [show putL (pkL true) (⟨some ⟨pb, 0, none⟩, M, M, Z⟩ : Bs).xs = Y from hY.symm] at hk
      have HY := Lib.hid hY
      clear hY
      clear HK
      have HK := Lib.hid hk
      clear hk
      go_wp2_with (refine Go.Proofs.YtmankjhopfilaaaL.wpList_make_ints rfl HK.out _ _ 27 rfl 5 .u8 1 Try.underlying27 (by kernel_rfl) N _ rfl rfl (by omega) (by omega) (by omega) ?_)
      intro w4 pc hk
      obtain ⟨X, hZ⟩ : ∃ Z, Z = zer N := ⟨_, rfl⟩
      rw [← hZ] at hk
      have HXL := Lib.hid (show X.length = N by rw [hZ]; exact length_zer _)
      have HXO := Lib.hid (show okB 256 X by rw [hZ]; exact ok_zer (by decide) _)
      have HX := Lib.hid hZ
      clear hZ
      clear HK
      have HK := Lib.hid hk
      clear hk
      go_wp2_with fail
      have q4 := parse_any (some ⟨pc, 0, none⟩) N N X w4 (own_bsi HK.out (.here _) HXO.out (by omega)) (Nat.le_refl _)
      rw [show par X = badR 23 by rw [HX.out]; exact HPZ.out] at q4
      refine q4.mono ?_
      clear q4
      rintro e w5 ⟨a5, c5, rfl, ho, hg⟩
      have hk := HK.out.grow hg
      clear ho hg
      clear HK
      have HK := Lib.hid hk
      clear hk
      rw [badR_val]
      simp only [badR, List.length_nil]
      have HKZ := Lib.hid (own_alloc HK.out (Obj.cells #[Value.bool false, .int .u8 0, .int .u32 0, .int .u16 0, .int .u16 0, .int .u8 0, .int .u8 0, .bool false, .int .u64 0, .int .u64 0, .bool false, .int .u64 0, .int .u64 0, .slice none 0 0] 29 (0, 0)))
      go_upto_region 10 with (refine wpList_put_blk rfl HKZ.out 29 _ _ rfl w5.heap.size #[.bool false, .int .u8 0, .int .u32 0, .int .u16 0, .int .u16 0, .int .u8 0, .int .u8 0, .bool false, .int .u64 0, .int .u64 0, .bool false, .int .u64 0, .int .u64 0, .slice a5 0 c5] rfl rfl _ _ (.here _) (by rfl) (by kernel_rfl) (by simp [Value.oneCell']) ?_; (intro wn hkn; have HKN := Lib.hid hkn; clear hkn HKZ; clear HK; have HK := HKN; clear HKN))
      have hd : (2 : Int) < m := by omega
      go_wp2_with fail
      exact bodyPost_ret (results_tmp rfl _ _ _) rfl ⟨rfl, HK.out.grown⟩
    · skip
      obtain ⟨M, hM, hM'⟩ : ∃ M, M ≤ 1358 + m ∧ 1358 + m ≤ M := ⟨_, Nat.le_refl _, Nat.le_refl _⟩
      obtain ⟨N, hN, hN'⟩ : ∃ N, N ≤ 1398 + m ∧ 1398 + m ≤ N := ⟨_, Nat.le_refl _, Nat.le_refl _⟩
      have HPE := Lib.hid (show putE (pkL true) M = 0 by rw [putE, if_neg (by rw [(pkL_ok true).2]; decide), if_pos (by show 40 + M ≤ 1400; omega)])
      have HPZ := Lib.hid (show par (zer N) = badR 20 by rw [par_zer, if_neg (by omega)])
      go_enter Try.func7, Try.ntmps7
      go_wp2_with fail
      refine (known_any _).mono ?_
      rintro e wk ⟨rfl, hg⟩
      have hk := HK.out.grow hg
      clear hg
      clear HK
      have HK := Lib.hid hk
      clear hk
      have hm := HM.out
      go_wp2_with (refine Go.Proofs.YtmankjhopfilaaaL.wpList_make_ints rfl HK.out _ _ 27 rfl 5 .u8 1 Try.underlying27 (by kernel_rfl) M _ rfl rfl (by omega) (by omega) (by omega) ?_)
      intro w2 pb hk
      obtain ⟨Z, hZ⟩ : ∃ Z, Z = zer M := ⟨_, rfl⟩
      rw [← hZ] at hk
      have HZL := Lib.hid (show Z.length = M by rw [hZ]; exact length_zer _)
      have HZO := Lib.hid (show okB 256 Z by rw [hZ]; exact ok_zer (by decide) _)
      have HZ := Lib.hid hZ
      clear hZ
      clear HK
      have HK := Lib.hid hk
      clear hk
      have HKZ := Lib.hid (own_alloc HK.out (Obj.cells #[Value.bool false, .int .u8 0, .int .u32 0, .int .u16 0, .int .u16 0, .int .u8 0, .int .u8 0, .bool false, .int .u64 0, .int .u64 0, .bool false, .int .u64 0, .int .u64 0, .slice none 0 0] 29 (0, 0)))
      go_upto_region 8 with (refine wpList_put_blk rfl HKZ.out 29 _ _ rfl w2.heap.size #[.bool true, .int .u8 0, .int .u32 0, .int .u16 0, .int .u16 0, .int .u8 9, .int .u8 0, .bool true, .int .u64 0, .int .u64 0, .bool true, .int .u64 0, .int .u64 0, .slice (some ⟨pb, 0, none⟩) M M] rfl rfl _ _ (.here _) (by rfl) (by kernel_rfl) (by simp [Value.oneCell']) ?_; (intro wn hkn; have HKN := Lib.hid hkn; clear hkn HKZ; clear HK; have HK := HKN; clear HKN))
      obtain ⟨p, hp⟩ : ∃ p, p = w2.heap.size := ⟨_, rfl⟩
      rw [← hp] at HK ⊢
      clear hp
      go_wp2_with (refine wpList_run rfl (run_rowl rfl rfl (HK.out.at (.here _)) Try.underlying29 rfl (by kernel_rfl)) ?_)
      have q4 := put_any (pkL true) ⟨some ⟨pb, 0, none⟩, M, M, Z⟩ _ (pkL_ok true).1 (own_bsi HK.out (.next _ (.here _)) HZO.out (by omega))
      rw [show putE (pkL true) (⟨some ⟨pb, 0, none⟩, M, M, Z⟩ : Bs).len = 0 from HPE.out] at q4
      refine q4.mono ?_
      clear q4
      rintro e w3 ⟨a3, m3, c3, rfl, ho, hg⟩
      have hk := own_back HK.out hg ho
      clear ho hg
      obtain ⟨Y, hY⟩ : ∃ Y, Y = putL (pkL true) Z := ⟨_, rfl⟩
      rw [show putL (pkL true) (⟨some ⟨pb, 0, none⟩, M, M, Z⟩ : Bs).xs = Y from hY.symm] at hk
      have HY := Lib.hid hY
      clear hY
      clear HK
      have HK := Lib.hid hk
      clear hk
      go_wp2_with (refine Go.Proofs.YtmankjhopfilaaaL.wpList_make_ints rfl HK.out _ _ 27 rfl 5 .u8 1 Try.underlying27 (by kernel_rfl) N _ rfl rfl (by omega) (by omega) (by omega) ?_)
      intro w4 pc hk
      obtain ⟨X, hZ⟩ : ∃ Z, Z = zer N := ⟨_, rfl⟩
      rw [← hZ] at hk
      have HXL := Lib.hid (show X.length = N by rw [hZ]; exact length_zer _)
      have HXO := Lib.hid (show okB 256 X by rw [hZ]; exact ok_zer (by decide) _)
      have HX := Lib.hid hZ
      clear hZ
      clear HK
      have HK := Lib.hid hk
      clear hk
      go_wp2_with fail
      have q4 := parse_any (some ⟨pc, 0, none⟩) N N X w4 (own_bsi HK.out (.here _) HXO.out (by omega)) (Nat.le_refl _)
      rw [show par X = badR 20 by rw [HX.out]; exact HPZ.out] at q4
      refine q4.mono ?_
      clear q4
      rintro e w5 ⟨a5, c5, rfl, ho, hg⟩
      have hk := HK.out.grow hg
      clear ho hg
      clear HK
      have HK := Lib.hid hk
      clear hk
      rw [badR_val]
      simp only [badR, List.length_nil]
      have HKZ := Lib.hid (own_alloc HK.out (Obj.cells #[Value.bool false, .int .u8 0, .int .u32 0, .int .u16 0, .int .u16 0, .int .u8 0, .int .u8 0, .bool false, .int .u64 0, .int .u64 0, .bool false, .int .u64 0, .int .u64 0, .slice none 0 0] 29 (0, 0)))
      go_upto_region 10 with (refine wpList_put_blk rfl HKZ.out 29 _ _ rfl w5.heap.size #[.bool false, .int .u8 0, .int .u32 0, .int .u16 0, .int .u16 0, .int .u8 0, .int .u8 0, .bool false, .int .u64 0, .int .u64 0, .bool false, .int .u64 0, .int .u64 0, .slice a5 0 c5] rfl rfl _ _ (.here _) (by rfl) (by kernel_rfl) (by simp [Value.oneCell']) ?_; (intro wn hkn; have HKN := Lib.hid hkn; clear hkn HKZ; clear HK; have HK := HKN; clear HKN))
      have hd : ¬ (2 : Int) < m := by omega
      have hd2 : ¬ (0 : Int) < m - 2 := by omega
      clear hm
      have hcap := (HK.out.cap (.next _ (.next _ (.here _)))).1
      have hb := read_back (pkL true) Z (pkL_ok true).1 HZO.out (by rw [HZL.out]; exact HPE.out)
      have hm3 := HK.out.lensl (.next _ (.next _ (.here _)))
      rw [← HY.out] at hb
      have HYP := Lib.hid hb.2.2.2
      have HYO := Lib.hid hb.1
      have hm9 : m3 ≤ 3000 := by rw [← hm3, hb.2.1]; exact Nat.le_trans hb.2.2.1 (by decide)
      clear hb hm3
      go_wp2_with fail
      have q4 := parse_any a3 m3 c3 Y _ (own_bs HK.out (.next _ (.next _ (.here _))) HYO.out hm9) hcap
      rw [HYP.out] at q4
      refine q4.mono ?_
      clear q4
      rintro e w6 ⟨a6, c6, rfl, ho, hg⟩
      have hk := HK.out.grow hg
      clear ho hg
      clear HK
      have HK := Lib.hid hk
      clear hk
      rw [Rs.val_eq]
      simp only [pkL, HZL.out]
      have HKZ := Lib.hid (own_alloc HK.out (Obj.cells #[Value.bool false, .int .u8 0, .int .u32 0, .int .u16 0, .int .u16 0, .int .u8 0, .int .u8 0, .bool false, .int .u64 0, .int .u64 0, .bool false, .int .u64 0, .int .u64 0, .slice none 0 0] 29 (0, 0)))
      go_upto_region 13 with (refine wpList_put_blk rfl HKZ.out 29 _ _ rfl w6.heap.size #[.bool true, .int .u8 0, .int .u32 0, .int .u16 0, .int .u16 0, .int .u8 9, .int .u8 0, .bool true, .int .u64 0, .int .u64 0, .bool true, .int .u64 0, .int .u64 0, .slice a6 M c6] rfl rfl _ _ (.here _) (by rfl) (by kernel_rfl) (by simp [Value.oneCell']) ?_; (intro wn hkn; have HKN := Lib.hid hkn; clear hkn HKZ; clear HK; have HK := HKN; clear HKN))
      obtain ⟨p6, hp⟩ : ∃ p, p = w6.heap.size := ⟨_, rfl⟩
      rw [← hp] at HK ⊢
      clear hp
      have hb := HK.out.at (.here _)
      have d13 : _ = some (Value.slice a6 M c6) := cell_blk hb 13
      clear hb
      have hb := HK.out.at (.next _ (.next _ (.next _ (.next _ (.here _)))))
      have c13 : _ = some (Value.slice (some ⟨pb, 0, none⟩) M M) := cell_blk hb 13
      clear hb
      go_wp2_with fail
      exact bodyPost_ret (results_tmp rfl _ _ _) rfl ⟨rfl, HK.out.grown⟩
end Go.Proofs.Ytmankjhopfilaaa
