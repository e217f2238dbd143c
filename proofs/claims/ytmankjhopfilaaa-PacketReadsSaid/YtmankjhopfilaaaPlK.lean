/- PacketReads, walked. -/
import Derived.Test.YtmankjhopfilaaaPlI
namespace Go.Proofs.Ytmankjhopfilaaa
set_option linter.unusedVariables false
set_option linter.unusedSimpArgs false
open Go.RowKit Go.Proofs.YtmankjhopfilaaaL

theorem u8_bits (op : BinOp) (x y : Int) : 0 ≤ bits op .u8 x y ∧ bits op .u8 x y < 256 := wf_u8_range (wf_bits op .u8 x y)
set_option maxHeartbeats 16000000 in
set_option maxRecDepth 100000 in
theorem reads_walk (rad : Option Addr) (rlen rcap : Nat) (rzs : List Int) (x : Sp) (ad : Option Addr) (len cap : Nat) (zs : List Int) (at' c how : Int) (w : World) (hrr : IsRow .u8 w rad rlen rcap rzs) (hx : x.ok) (hr : IsRow .u8 w ad len cap zs) (a0 : 0 ≤ at') (a1 : at' < 65536) (c0 : 0 ≤ c) (c1 : c < 256) (k0 : 0 ≤ how) (k1 : how < 256) :
    Calls Try.prog 4 #[.slice rad rlen rcap, x.val (.slice ad len cap), .int .u16 at', .int .u8 c, .int .u8 how] w fun e w' => e = .returned (.bool true) ∧ w.grownBy w' none := by
  obtain ⟨h1, h2, h3, h4⟩ := isRow_rd hr
  obtain ⟨h5, h6⟩ := row_none hr
  obtain ⟨r1, r2, hrc, r4⟩ := isRow_rd hrr
  obtain ⟨r5, r6⟩ := row_none hrr
  obtain ⟨xs, hxs⟩ : ∃ xs, xs = zs.take len := ⟨_, rfl⟩
  obtain ⟨rxs, hrxs⟩ : ∃ xs, xs = rzs.take rlen := ⟨_, rfl⟩
  rw [← hxs] at h1 h2
  rw [← hrxs] at r1 r2
  have HR := Lib.hid h1
  have HOX := Lib.hid h2
  have HN := Lib.hid h5
  have HX := Lib.hid hx
  have HRR := Lib.hid r1
  have HRO := Lib.hid r2
  have HRN := Lib.hid r5
  have h63 : (len : Int) ≤ 9223372036854775807 := by omega
  have r63 : (rlen : Int) ≤ 9223372036854775807 := by omega
  clear hr h1 h2 h4 h5 h6 hxs hx hrr r1 r2 r4 r5 r6 hrxs
  have HK := Lib.hid (own_start w)
  obtain ⟨v6, s, d, e, f, ttl, proto⟩ := x
  show Calls Try.prog _ #[.slice rad rlen rcap, .agg #[.bool v6, .int .u8 s, .int .u8 d, .int .u8 e, .int .u8 f, .int .u8 ttl, .int .u8 proto, .slice ad len cap], .int .u16 at', .int .u8 c, .int .u8 how] w fun e w' => e = .returned (.bool true) ∧ w.grownBy w' none
  go_enter Try.func4, Try.ntmps4
  go_wp2_with fail
  have hk := own_alloc HK.out (Obj.cells #[Value.bool v6, .int .u8 s, .int .u8 d, .int .u8 e, .int .u8 f, .int .u8 ttl, .int .u8 proto, .slice ad len cap] 31 (0, 0))
  obtain ⟨p, hp⟩ : ∃ p, p = w.heap.size := ⟨_, rfl⟩
  rw [← hp] at hk ⊢
  clear hp
  clear HK
  have HK := Lib.hid hk
  clear hk
  refine (known_any _).mono ?_
  rintro e1 wk ⟨rfl, hg⟩
  have hkb := HK.out.grow hg
  clear hg
  clear HK
  have HK := Lib.hid hkb
  clear hkb
  have hb := HK.out.at (.here _)
  have c7 : wk.cell? ⟨p, 7, none⟩ = some (.slice ad len cap) := cell_blk hb 7
  clear hb
  by_cases hrbig : (rlen : Int) > 200
  · go_wp2_with fail
    exact bodyPost_ret (results_tmp rfl _ _ _) rfl ⟨rfl, HK.out.grown⟩
  by_cases hbig : (len : Int) > 100
  · go_wp2_with fail
    exact bodyPost_ret (results_tmp rfl _ _ _) rfl ⟨rfl, HK.out.grown⟩
  have hlen : len ≤ 100 := by omega
  have hrlen : rlen ≤ 200 := by omega
  have HB := Lib.hid (fun (w' : World) (g : w.grownBy w' none) => (show (⟨ad, len, cap, xs⟩ : Bs).ok w' from ⟨HR.out.kept g, HOX.out, HN.out, (show len ≤ 3000 by omega)⟩))
  have HBR := Lib.hid (fun (w' : World) (g : w.grownBy w' none) => (show (⟨rad, rlen, rcap, rxs⟩ : Bs).ok w' from ⟨HRR.out.kept g, HRO.out, HRN.out, (show rlen ≤ 3000 by omega)⟩))
  have HBY := Lib.hid (fun (w' : World) (g : w.grownBy w' none) => bytes_any ⟨v6, s, d, e, f, ttl, proto⟩ ⟨ad, len, cap, xs⟩ w' HX.out (HB.out w' g))
  have hso := sp_ok HX.out
  have hpe : putE (Sp.pk ⟨v6, s, d, e, f, ttl, proto⟩) xs.length = 0 := by
    rw [putE, if_neg (by rw [hso.2]; decide), if_pos]
    rw [HR.out.1, Pk.head]
    split <;> omega
  have hput := put_of hso.1 HOX.out hpe
  have hyl := length_putL _ xs hpe
  have hhd : 20 ≤ (Sp.pk ⟨v6, s, d, e, f, ttl, proto⟩).head := by rw [Pk.head]; split <;> omega
  obtain ⟨Y, hY⟩ : ∃ Y, Y = putL (Sp.pk ⟨v6, s, d, e, f, ttl, proto⟩) xs := ⟨_, rfl⟩
  rw [show putL (Sp.pk ⟨v6, s, d, e, f, ttl, proto⟩) (⟨ad, len, cap, xs⟩ : Bs).xs = Y from hY.symm] at HBY
  rw [← hY] at hput hyl
  have hy20 : 20 ≤ Y.length := by omega
  have hy14 := hput.len
  have HYO := Lib.hid hput.ok
  clear hso hpe hY hput hyl hhd
  go_wp2_with (refine wpList_run rfl (run_rowl rfl rfl (HK.out.at (.here _)) Try.underlying31 rfl (by kernel_rfl)) ?_)
  refine (HBY.out _ HK.out.grown).mono ?_
  rintro e1 w3 ⟨a3, m3, c3, rfl, ho, hg⟩
  have hk := own_back HK.out hg ho
  have hm3 := hk.lensl (.here _)
  have hk := hk.sub (List.Sublist.cons_cons _ (List.Sublist.cons _ (List.Sublist.refl _)))
  clear ho hg HBY c7
  have hm20 : 20 ≤ m3 := by omega
  have hm14 : m3 ≤ 1400 := by omega
  clear hm3 hy20 hy14
  obtain ⟨g3, rfl, hcb⟩ := hk.addr (.here _) (by omega)
  clear HK
  have HK := Lib.hid hk
  clear hk
  have hm0 : ((m3 : Int) == 0) = false := beq_eq_false_iff_ne.2 (by omega)
  have hm0i : (0 : Int) < m3 := by omega
  obtain ⟨I, hI, hil⟩ : ∃ i : Nat, at' % (m3 : Int) = i ∧ i < m3 := by
    have h1 := Int.emod_nonneg at' (show (m3 : Int) ≠ 0 by omega)
    have h2 := Int.emod_lt_of_pos at' (show (0 : Int) < (m3 : Int) by omega)
    exact ⟨(at' % (m3 : Int)).toNat, by omega, by omega⟩
  have HI := Lib.hid hI
  clear hI
  go_upto_block 0 with fail
  rw [HI.out]
  have hi0 : (0 : Int) ≤ I := by omega
  have hi1 : (I : Int) < m3 := by omega
  go_cut [11] from 45 (fun s11 wx => ∃ (ba : Option Addr) (bm bc : Nat) (ys : List Int), s11 = .slice ba bm bc ∧ bm ≤ 2000 ∧ Hid (okB 256 ys) ∧ Hid (Own w wx [.sl 5 .u8 ba bm bc ys]))
  case first =>
    have h6 : how % 4 = 0 ∨ how % 4 = 1 ∨ how % 4 = 2 ∨ how % 4 = 3 := by omega
    have hm15 : m3 ≤ 2000 := by omega
    have hm16 : m3 + 1 ≤ 2000 := by omega
    have hi3 : I ≤ 2000 := by omega
    rcases h6 with h6 | h6 | h6 | h6
    · rw [h6]
      clear h6
      go_wp2_with (first | (refine wpList_get_sl rfl HK.out _ _ rfl _ _ rfl _ _ _ _ _ (by first | exact Has.here _ | exact Has.next _ (Has.here _) | exact Has.next _ (Has.next _ (Has.here _)) | exact Has.next _ (Has.next _ (Has.next _ (Has.here _))) | exact Has.next _ (Has.next _ (Has.next _ (Has.next _ (Has.here _)))) | exact Has.next _ (Has.next _ (Has.next _ (Has.next _ (Has.next _ (Has.here _))))) | exact Has.next _ (Has.next _ (Has.next _ (Has.next _ (Has.next _ (Has.next _ (Has.here _)))))) | exact Has.next _ (Has.next _ (Has.next _ (Has.next _ (Has.next _ (Has.next _ (Has.next _ (Has.here _))))))) | exact Has.next _ (Has.next _ (Has.next _ (Has.next _ (Has.next _ (Has.next _ (Has.next _ (Has.next _ (Has.here _)))))))) | exact Has.next _ (Has.next _ (Has.next _ (Has.next _ (Has.next _ (Has.next _ (Has.next _ (Has.next _ (Has.next _ (Has.here _)))))))))) rfl (by omega) ?_) | (refine wpList_put_sl rfl HK.out _ _ _ rfl _ _ _ _ rfl rfl _ _ _ _ (by first | exact Upd.here _ | exact Upd.next _ (Upd.here _) | exact Upd.next _ (Upd.next _ (Upd.here _)) | exact Upd.next _ (Upd.next _ (Upd.next _ (Upd.here _))) | exact Upd.next _ (Upd.next _ (Upd.next _ (Upd.next _ (Upd.here _)))) | exact Upd.next _ (Upd.next _ (Upd.next _ (Upd.next _ (Upd.next _ (Upd.here _))))) | exact Upd.next _ (Upd.next _ (Upd.next _ (Upd.next _ (Upd.next _ (Upd.next _ (Upd.here _)))))) | exact Upd.next _ (Upd.next _ (Upd.next _ (Upd.next _ (Upd.next _ (Upd.next _ (Upd.next _ (Upd.here _))))))) | exact Upd.next _ (Upd.next _ (Upd.next _ (Upd.next _ (Upd.next _ (Upd.next _ (Upd.next _ (Upd.next _ (Upd.here _)))))))) | exact Upd.next _ (Upd.next _ (Upd.next _ (Upd.next _ (Upd.next _ (Upd.next _ (Upd.next _ (Upd.next _ (Upd.next _ (Upd.here _)))))))))) (by omega) (by kernel_rfl) ?_; (intro wn hkn; have HKN := Lib.hid hkn; clear hkn; clear HK; have HK := HKN; clear HKN)))
      go_meet
      case rel => exact ⟨_, m3, c3, _, rfl, hm15, Lib.hid (ok_set HYO.out _ _ (u8_bits _ _ _).1 (u8_bits _ _ _).2), HK⟩
    · rw [h6]
      clear h6
      have hici : (I : Int) ≤ c3 := by omega
      have hk := Own.trunc HK.out I (.here _) (Nat.le_of_lt hil)
      clear HK
      have HK := Lib.hid hk
      clear hk
      go_wp2_with fail
      go_meet
      case rel => exact ⟨_, I, c3, _, rfl, hi3, Lib.hid (ok_take HYO.out I), HK⟩
    · rw [h6]
      clear h6
      go_wp2_with (at_builtin; refine wpList_push_own rfl HK.out _ _ 27 rfl 5 (.int .u8 0) 1 Try.underlying27 (by kernel_rfl) rfl .u8 _ _ _ _ rfl (by first | exact Del.here _ | exact Del.next _ (Del.here _) | exact Del.next _ (Del.next _ (Del.here _)) | exact Del.next _ (Del.next _ (Del.next _ (Del.here _))) | exact Del.next _ (Del.next _ (Del.next _ (Del.next _ (Del.here _)))) | exact Del.next _ (Del.next _ (Del.next _ (Del.next _ (Del.next _ (Del.here _))))) | exact Del.next _ (Del.next _ (Del.next _ (Del.next _ (Del.next _ (Del.next _ (Del.here _)))))) | exact Del.next _ (Del.next _ (Del.next _ (Del.next _ (Del.next _ (Del.next _ (Del.next _ (Del.here _))))))) | exact Del.next _ (Del.next _ (Del.next _ (Del.next _ (Del.next _ (Del.next _ (Del.next _ (Del.next _ (Del.here _)))))))) | exact Del.next _ (Del.next _ (Del.next _ (Del.next _ (Del.next _ (Del.next _ (Del.next _ (Del.next _ (Del.next _ (Del.here _)))))))))) _ _ _ rfl (by unfold maxLen; omega) (by omega) ?_)
      intro a4 c4 w4 hk
      clear HK
      have HK := Lib.hid hk
      clear hk
      go_wp2_with fail
      go_meet
      case rel => exact ⟨a4, m3 + 1, c4, Y ++ [c], rfl, hm16, Lib.hid (ok_app HYO.out (fun y hy => by rw [List.mem_singleton] at hy; rw [hy]; exact ⟨c0, c1⟩)), HK⟩
    · rw [h6]
      clear h6
      have hq0 : 0 ≤ (I : Int) % 20 := Int.emod_nonneg _ (by decide)
      have hq1 : (I : Int) % 20 < 20 := Int.emod_lt_of_pos _ (by decide)
      go_wp2_with (first | (refine wpList_get_sl rfl HK.out _ _ rfl _ _ rfl _ _ _ _ _ (by first | exact Has.here _ | exact Has.next _ (Has.here _) | exact Has.next _ (Has.next _ (Has.here _)) | exact Has.next _ (Has.next _ (Has.next _ (Has.here _))) | exact Has.next _ (Has.next _ (Has.next _ (Has.next _ (Has.here _)))) | exact Has.next _ (Has.next _ (Has.next _ (Has.next _ (Has.next _ (Has.here _))))) | exact Has.next _ (Has.next _ (Has.next _ (Has.next _ (Has.next _ (Has.next _ (Has.here _)))))) | exact Has.next _ (Has.next _ (Has.next _ (Has.next _ (Has.next _ (Has.next _ (Has.next _ (Has.here _))))))) | exact Has.next _ (Has.next _ (Has.next _ (Has.next _ (Has.next _ (Has.next _ (Has.next _ (Has.next _ (Has.here _)))))))) | exact Has.next _ (Has.next _ (Has.next _ (Has.next _ (Has.next _ (Has.next _ (Has.next _ (Has.next _ (Has.next _ (Has.here _)))))))))) rfl (by omega) ?_) | (refine wpList_put_sl rfl HK.out _ _ _ rfl _ _ _ _ rfl rfl _ _ _ _ (by first | exact Upd.here _ | exact Upd.next _ (Upd.here _) | exact Upd.next _ (Upd.next _ (Upd.here _)) | exact Upd.next _ (Upd.next _ (Upd.next _ (Upd.here _))) | exact Upd.next _ (Upd.next _ (Upd.next _ (Upd.next _ (Upd.here _)))) | exact Upd.next _ (Upd.next _ (Upd.next _ (Upd.next _ (Upd.next _ (Upd.here _))))) | exact Upd.next _ (Upd.next _ (Upd.next _ (Upd.next _ (Upd.next _ (Upd.next _ (Upd.here _)))))) | exact Upd.next _ (Upd.next _ (Upd.next _ (Upd.next _ (Upd.next _ (Upd.next _ (Upd.next _ (Upd.here _))))))) | exact Upd.next _ (Upd.next _ (Upd.next _ (Upd.next _ (Upd.next _ (Upd.next _ (Upd.next _ (Upd.next _ (Upd.here _)))))))) | exact Upd.next _ (Upd.next _ (Upd.next _ (Upd.next _ (Upd.next _ (Upd.next _ (Upd.next _ (Upd.next _ (Upd.next _ (Upd.here _)))))))))) (by omega) (by kernel_rfl) ?_; (intro wn hkn; have HKN := Lib.hid hkn; clear hkn; clear HK; have HK := HKN; clear HKN)))
      go_meet
      case rel => exact ⟨_, m3, c3, _, rfl, hm15, Lib.hid (ok_set HYO.out _ _ (u8_bits _ _ _).1 (u8_bits _ _ _).2), HK⟩
  case rest =>
    obtain ⟨ba, bm, bc, ys, rfl, hbm2, HYSO, HK'⟩ := hcut
    clear HK HYO
    have HK := HK'
    clear HK' hcb hm0 hm0i hi0 hi1 hil hm20 hm14
    have hbm : bm ≤ 3000 := by omega
    have hbc := (HK.out.cap (.here _)).1
    go_wp2_with fail
    have hk := own_alloc HK.out (Obj.cells #[Value.slice rad rlen rcap, .slice ba bm bc] 27 (0, 0))
    obtain ⟨pb, hp⟩ : ∃ p, p = wc.heap.size := ⟨_, rfl⟩
    rw [← hp] at hk ⊢
    clear hp
    clear HK
    have HK := Lib.hid hk
    clear hk
    go_loopw [78] (fun i wr => ∃ (j : Nat), j ≤ 2 ∧ i = .int .i64 j ∧ Hid (Own w wr [.blk pb (Obj.cells #[Value.slice rad rlen rcap, .slice ba bm bc] 27 (0, 0)), .sl 5 .u8 ba bm bc ys])) (fun i _ => 2 - (intOf i).toNat)
    case atStart => exact ⟨0, by omega, rfl, HK⟩
    case round =>
      obtain ⟨j, hj, rfl, HK'⟩ := hrel
      clear HK
      have HK := HK'
      clear HK'
      have hb := HK.out.at (.here _)
      have e0 : _ = some (Value.slice rad rlen rcap) := cell_blk hb 0
      have e1 : _ = some (Value.slice ba bm bc) := cell_blk hb 1
      clear hb
      have hj2 : j = 0 ∨ j = 1 ∨ j = 2 := by omega
      rcases hj2 with rfl | rfl | rfl
      · rw [show ((0 : Nat) : Int) = 0 from rfl]
        obtain ⟨⟨err, ⟨v1, cls, flow, id, frag, tt, pr, ⟨s6, sh, sl⟩, ⟨d6, dh, dl⟩⟩, B1⟩, hR1⟩ : ∃ R, R = par rxs := ⟨_, rfl⟩
        have HR1 := Lib.hid hR1.symm
        clear hR1
        obtain ⟨bs, hbs⟩ : ∃ b, b = (hop rxs).isSome := ⟨_, rfl⟩
        obtain ⟨HL, hHL⟩ : ∃ b, b = (hop rxs).getD [] := ⟨_, rfl⟩
        have HBS := Lib.hid hbs.symm
        have HHL := Lib.hid hHL.symm
        clear hbs hHL
        go_wp2_with fail
        have q4 := parse_any rad rlen rcap rxs _ (HBR.out _ HK.out.grown) hrc
        rw [HR1.out] at q4
        refine q4.mono ?_
        clear q4
        rintro e1 w6 ⟨a1, c1, rfl, ho, hg⟩
        have hk := own_back HK.out hg ho
        clear ho hg
        clear HK
        have HK := Lib.hid hk
        clear hk
        rw [Rs.val_eq]
        dsimp only
        have HKZ := Lib.hid (own_alloc HK.out (Obj.cells #[Value.bool false, .int .u8 0, .int .u32 0, .int .u16 0, .int .u16 0, .int .u8 0, .int .u8 0, .bool false, .int .u64 0, .int .u64 0, .bool false, .int .u64 0, .int .u64 0, .slice none 0 0] 29 (0, 0)))
        go_upto_region 21 with (refine wpList_put_blk rfl HKZ.out 29 _ _ rfl w6.heap.size #[.bool v1, .int .u8 cls, .int .u32 flow, .int .u16 id, .int .u16 frag, .int .u8 tt, .int .u8 pr, .bool s6, .int .u64 sh, .int .u64 sl, .bool d6, .int .u64 dh, .int .u64 dl, .slice a1 B1.length c1] rfl rfl _ _ (.here _) (by rfl) (by kernel_rfl) (by simp [Value.oneCell']) ?_; (intro wn hkn; have HKN := Lib.hid hkn; clear hkn HKZ; clear HK; have HK := HKN; clear HKN))
        obtain ⟨p15, hp⟩ : ∃ p, p = w6.heap.size := ⟨_, rfl⟩
        rw [← hp] at HK ⊢
        clear hp
        go_wp2_with fail
        have q4 := rparse_any rad rlen rcap rxs _ (HBR.out _ HK.out.grown) hrc
        rw [HR1.out] at q4
        refine q4.mono ?_
        clear q4
        rintro e1 w7 ⟨a2, c2, rfl, ho, hg⟩
        have hk := own_back HK.out hg ho
        clear ho hg
        clear HK
        have HK := Lib.hid hk
        clear hk
        rw [Rs.val_eq]
        dsimp only
        have HKZ := Lib.hid (own_alloc HK.out (Obj.cells #[Value.bool false, .int .u8 0, .int .u32 0, .int .u16 0, .int .u16 0, .int .u8 0, .int .u8 0, .bool false, .int .u64 0, .int .u64 0, .bool false, .int .u64 0, .int .u64 0, .slice none 0 0] 29 (0, 0)))
        go_upto_region 22 with (refine wpList_put_blk rfl HKZ.out 29 _ _ rfl w7.heap.size #[.bool v1, .int .u8 cls, .int .u32 flow, .int .u16 id, .int .u16 frag, .int .u8 tt, .int .u8 pr, .bool s6, .int .u64 sh, .int .u64 sl, .bool d6, .int .u64 dh, .int .u64 dl, .slice a2 B1.length c2] rfl rfl _ _ (.here _) (by rfl) (by kernel_rfl) (by simp [Value.oneCell']) ?_; (intro wn hkn; have HKN := Lib.hid hkn; clear hkn HKZ; clear HK; have HK := HKN; clear HKN))
        obtain ⟨p17, hp⟩ : ∃ p, p = w7.heap.size := ⟨_, rfl⟩
        rw [← hp] at HK ⊢
        clear hp
        go_wp2_with fail
        have q4 := hop_any rad rlen rcap rxs _ (HBR.out _ HK.out.grown) hrc
        rw [HBS.out, HHL.out] at q4
        refine q4.mono ?_
        clear q4
        rintro e1 w8 ⟨a3, m3, c3, rfl, ho, hg⟩
        have hk := own_back HK.out hg ho
        clear ho hg
        clear HK
        have HK := Lib.hid hk
        clear hk
        go_wp2_with fail
        have q4 := rhop_any rad rlen rcap rxs _ (HBR.out _ HK.out.grown) hrc
        rw [HBS.out, HHL.out] at q4
        refine q4.mono ?_
        clear q4
        rintro e1 w9 ⟨a4, m4, c4, rfl, ho, hg⟩
        have hk := own_back HK.out hg ho
        clear ho hg
        clear HK
        have HK := Lib.hid hk
        clear hk
        go_wp2_with (first | (refine wpList_run rfl (run_rowl rfl rfl (HK.out.at (.next _ (.next _ (.next _ (.next _ (.here _)))))) Try.underlying29 rfl (by kernel_rfl)) ?_) | (refine wpList_run rfl (run_rowl rfl rfl (HK.out.at (.next _ (.next _ (.here _)))) Try.underlying29 rfl (by kernel_rfl)) ?_))
        refine (help_any (⟨v1, cls, flow, id, frag, tt, pr, ⟨s6, sh, sl⟩, ⟨d6, dh, dl⟩⟩ : Pk) a1 B1.length c1 a2 B1.length c2 B1 _ (HK.out.rdsl (.next _ (.next _ (.next _ (.next _ (.next _ (.here _))))))) (HK.out.rdsl (.next _ (.next _ (.next _ (.here _)))))).mono ?_
        rintro e1 w10 ⟨rfl, hg⟩
        have hk := HK.out.grow hg
        clear hg
        clear HK
        have HK := Lib.hid hk
        clear hk
        go_wp2_with (first | (refine wpList_run rfl (run_str rfl Try.underlying27 Try.underlying5 Try.underlying9 rfl (HK.out.rdsl (.here _))) ?_) | (refine wpList_run rfl (run_str rfl Try.underlying27 Try.underlying5 Try.underlying9 rfl (HK.out.rdsl (.next _ (.here _)))) ?_))
        have hk := HK.out.sub (List.Sublist.cons _ (List.Sublist.cons _ (List.Sublist.cons _ (List.Sublist.cons _ (List.Sublist.cons _ (List.Sublist.cons _ (List.Sublist.refl _)))))))
        clear HK
        have HK := Lib.hid hk
        clear hk
        go_wp2_with fail
        exact ⟨⟨1, by omega, rfl, HK⟩, by simp [intOf]⟩
      · rw [show ((1 : Nat) : Int) = 1 from rfl]
        obtain ⟨⟨err, ⟨v1, cls, flow, id, frag, tt, pr, ⟨s6, sh, sl⟩, ⟨d6, dh, dl⟩⟩, B1⟩, hR1⟩ : ∃ R, R = par ys := ⟨_, rfl⟩
        have HR1 := Lib.hid hR1.symm
        clear hR1
        obtain ⟨bs, hbs⟩ : ∃ b, b = (hop ys).isSome := ⟨_, rfl⟩
        obtain ⟨HL, hHL⟩ : ∃ b, b = (hop ys).getD [] := ⟨_, rfl⟩
        have HBS := Lib.hid hbs.symm
        have HHL := Lib.hid hHL.symm
        clear hbs hHL
        go_wp2_with fail
        have q4 := parse_any ba bm bc ys _ (own_bs HK.out (.next _ (.here _)) HYSO.out hbm) hbc
        rw [HR1.out] at q4
        refine q4.mono ?_
        clear q4
        rintro e1 w6 ⟨a1, c1, rfl, ho, hg⟩
        have hk := own_back HK.out hg ho
        clear ho hg
        clear HK
        have HK := Lib.hid hk
        clear hk
        rw [Rs.val_eq]
        dsimp only
        have HKZ := Lib.hid (own_alloc HK.out (Obj.cells #[Value.bool false, .int .u8 0, .int .u32 0, .int .u16 0, .int .u16 0, .int .u8 0, .int .u8 0, .bool false, .int .u64 0, .int .u64 0, .bool false, .int .u64 0, .int .u64 0, .slice none 0 0] 29 (0, 0)))
        go_upto_region 21 with (refine wpList_put_blk rfl HKZ.out 29 _ _ rfl w6.heap.size #[.bool v1, .int .u8 cls, .int .u32 flow, .int .u16 id, .int .u16 frag, .int .u8 tt, .int .u8 pr, .bool s6, .int .u64 sh, .int .u64 sl, .bool d6, .int .u64 dh, .int .u64 dl, .slice a1 B1.length c1] rfl rfl _ _ (.here _) (by rfl) (by kernel_rfl) (by simp [Value.oneCell']) ?_; (intro wn hkn; have HKN := Lib.hid hkn; clear hkn HKZ; clear HK; have HK := HKN; clear HKN))
        obtain ⟨p15, hp⟩ : ∃ p, p = w6.heap.size := ⟨_, rfl⟩
        rw [← hp] at HK ⊢
        clear hp
        go_wp2_with fail
        have q4 := rparse_any ba bm bc ys _ (own_bs HK.out (.next _ (.next _ (.next _ (.here _)))) HYSO.out hbm) hbc
        rw [HR1.out] at q4
        refine q4.mono ?_
        clear q4
        rintro e1 w7 ⟨a2, c2, rfl, ho, hg⟩
        have hk := own_back HK.out hg ho
        clear ho hg
        clear HK
        have HK := Lib.hid hk
        clear hk
        rw [Rs.val_eq]
        dsimp only
        have HKZ := Lib.hid (own_alloc HK.out (Obj.cells #[Value.bool false, .int .u8 0, .int .u32 0, .int .u16 0, .int .u16 0, .int .u8 0, .int .u8 0, .bool false, .int .u64 0, .int .u64 0, .bool false, .int .u64 0, .int .u64 0, .slice none 0 0] 29 (0, 0)))
        go_upto_region 22 with (refine wpList_put_blk rfl HKZ.out 29 _ _ rfl w7.heap.size #[.bool v1, .int .u8 cls, .int .u32 flow, .int .u16 id, .int .u16 frag, .int .u8 tt, .int .u8 pr, .bool s6, .int .u64 sh, .int .u64 sl, .bool d6, .int .u64 dh, .int .u64 dl, .slice a2 B1.length c2] rfl rfl _ _ (.here _) (by rfl) (by kernel_rfl) (by simp [Value.oneCell']) ?_; (intro wn hkn; have HKN := Lib.hid hkn; clear hkn HKZ; clear HK; have HK := HKN; clear HKN))
        obtain ⟨p17, hp⟩ : ∃ p, p = w7.heap.size := ⟨_, rfl⟩
        rw [← hp] at HK ⊢
        clear hp
        go_wp2_with fail
        have q4 := hop_any ba bm bc ys _ (own_bs HK.out (.next _ (.next _ (.next _ (.next _ (.next _ (.here _)))))) HYSO.out hbm) hbc
        rw [HBS.out, HHL.out] at q4
        refine q4.mono ?_
        clear q4
        rintro e1 w8 ⟨a3, m3, c3, rfl, ho, hg⟩
        have hk := own_back HK.out hg ho
        clear ho hg
        clear HK
        have HK := Lib.hid hk
        clear hk
        go_wp2_with fail
        have q4 := rhop_any ba bm bc ys _ (own_bs HK.out (.next _ (.next _ (.next _ (.next _ (.next _ (.next _ (.here _))))))) HYSO.out hbm) hbc
        rw [HBS.out, HHL.out] at q4
        refine q4.mono ?_
        clear q4
        rintro e1 w9 ⟨a4, m4, c4, rfl, ho, hg⟩
        have hk := own_back HK.out hg ho
        clear ho hg
        clear HK
        have HK := Lib.hid hk
        clear hk
        go_wp2_with (first | (refine wpList_run rfl (run_rowl rfl rfl (HK.out.at (.next _ (.next _ (.next _ (.next _ (.here _)))))) Try.underlying29 rfl (by kernel_rfl)) ?_) | (refine wpList_run rfl (run_rowl rfl rfl (HK.out.at (.next _ (.next _ (.here _)))) Try.underlying29 rfl (by kernel_rfl)) ?_))
        refine (help_any (⟨v1, cls, flow, id, frag, tt, pr, ⟨s6, sh, sl⟩, ⟨d6, dh, dl⟩⟩ : Pk) a1 B1.length c1 a2 B1.length c2 B1 _ (HK.out.rdsl (.next _ (.next _ (.next _ (.next _ (.next _ (.here _))))))) (HK.out.rdsl (.next _ (.next _ (.next _ (.here _)))))).mono ?_
        rintro e1 w10 ⟨rfl, hg⟩
        have hk := HK.out.grow hg
        clear hg
        clear HK
        have HK := Lib.hid hk
        clear hk
        go_wp2_with (first | (refine wpList_run rfl (run_str rfl Try.underlying27 Try.underlying5 Try.underlying9 rfl (HK.out.rdsl (.here _))) ?_) | (refine wpList_run rfl (run_str rfl Try.underlying27 Try.underlying5 Try.underlying9 rfl (HK.out.rdsl (.next _ (.here _)))) ?_))
        have hk := HK.out.sub (List.Sublist.cons _ (List.Sublist.cons _ (List.Sublist.cons _ (List.Sublist.cons _ (List.Sublist.cons _ (List.Sublist.cons _ (List.Sublist.refl _)))))))
        clear HK
        have HK := Lib.hid hk
        clear hk
        go_wp2_with fail
        exact ⟨⟨2, by omega, rfl, HK⟩, by simp [intOf]⟩
      · rw [show ((2 : Nat) : Int) = 2 from rfl]
        go_wp2_with fail
        exact bodyPost_ret (results_tmp rfl _ _ _) rfl ⟨rfl, HK.out.grown⟩
end Go.Proofs.Ytmankjhopfilaaa
