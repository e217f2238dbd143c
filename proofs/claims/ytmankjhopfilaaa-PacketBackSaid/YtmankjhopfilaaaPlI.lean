/- PacketHops, walked. -/
import Derived.Test.YtmankjhopfilaaaPlE
import Derived.Test.YtmankjhopfilaaaPlF
import Derived.Test.YtmankjhopfilaaaPkQ
namespace Go.Proofs.Ytmankjhopfilaaa
set_option linter.unusedVariables false
set_option linter.unusedSimpArgs false
open Go.RowKit Go.Proofs.YtmankjhopfilaaaL

/-- Bytes of a packet that is right. -/
structure Put (Q : Pk) (xs Y : List Int) : Prop where
  ok : okB 256 Y
  len : Y.length ≤ 1400
  par : par Y = ⟨0, Q, xs⟩
  q : Q.ok
  e : putE Q xs.length = 0
theorem put_of {Q : Pk} {xs : List Int} (hq : Q.ok) (ho : okB 256 xs) (he : putE Q xs.length = 0) : Put Q xs (putL Q xs) := by
  have h := read_back Q xs hq ho he
  exact ⟨h.1, by rw [h.2.1]; exact h.2.2.1, h.2.2.2, hq, he⟩
theorem put_hop {Q : Pk} {xs Y : List Int} (h : Put Q xs Y) (ho : okB 256 xs) (ht : 1 < Q.ttl) : ∃ H, hop Y = some H ∧ Put Q.dec xs H := by
  have hq := hop_put Y h.ok (by rw [h.par])
  rw [h.par] at hq
  obtain ⟨e1, e2⟩ := hq.2.2.2.2.2 ht
  exact ⟨_, e2, put_of (dec_ok h.q ht) ho e1⟩
theorem put_end {Q : Pk} {xs Y : List Int} (h : Put Q xs Y) (ht : Q.ttl ≤ 1) : hop Y = none := by
  rw [hop, h.par, if_pos (.inr ht)]

set_option maxHeartbeats 8000000 in
set_option maxRecDepth 100000 in
theorem hops_walk (x : Sp) (ad : Option Addr) (len cap : Nat) (zs : List Int) (n : Int) (w : World) (hx : x.ok) (hr : IsRow .u8 w ad len cap zs) (n0 : 0 ≤ n) (n1 : n < 256) :
    Calls Try.prog 6 #[x.val (.slice ad len cap), .int .u8 n] w fun e w' => e = .returned (.bool true) ∧ w.grownBy w' none := by
  obtain ⟨h1, h2, h3, h4⟩ := isRow_rd hr
  obtain ⟨h5, h6⟩ := row_none hr
  obtain ⟨xs, hxs⟩ : ∃ xs, xs = zs.take len := ⟨_, rfl⟩
  rw [← hxs] at h1 h2
  have HR := Lib.hid h1
  have HOX := Lib.hid h2
  have HN := Lib.hid h5
  have HX := Lib.hid hx
  have h63 : (len : Int) ≤ 9223372036854775807 := by omega
  clear hr h1 h2 h4 h5 h6 hxs hx
  have HK := Lib.hid (own_start w)
  obtain ⟨v6, s, d, e, f, ttl, proto⟩ := x
  show Calls Try.prog _ #[.agg #[.bool v6, .int .u8 s, .int .u8 d, .int .u8 e, .int .u8 f, .int .u8 ttl, .int .u8 proto, .slice ad len cap], .int .u8 n] w fun e w' => e = .returned (.bool true) ∧ w.grownBy w' none
  go_enter Try.func6, Try.ntmps6
  go_wp2_with fail
  have hk := own_alloc HK.out (Obj.cells #[Value.bool v6, .int .u8 s, .int .u8 d, .int .u8 e, .int .u8 f, .int .u8 ttl, .int .u8 proto, .slice ad len cap] 31 (0, 0))
  obtain ⟨p, hp⟩ : ∃ p, p = w.heap.size := ⟨_, rfl⟩
  rw [← hp] at hk ⊢
  clear hp
  clear HK
  have HK := Lib.hid hk
  clear hk
  refine (known_any _).mono ?_
  rintro e1 wk ⟨rfl, hg⟩
  have hkb := HK.out.grow hg
  clear hg
  clear HK
  have HK := Lib.hid hkb
  clear hkb
  have hb := HK.out.at (.here _)
  have c7 : wk.cell? ⟨p, 7, none⟩ = some (.slice ad len cap) := cell_blk hb 7
  clear hb
  by_cases hbig : (len : Int) > 100
  · go_wp2_with fail
    exact bodyPost_ret (results_tmp rfl _ _ _) rfl ⟨rfl, HK.out.grown⟩
  have hlen : len ≤ 100 := by omega
  have HB := Lib.hid (fun (w' : World) (g : w.grownBy w' none) => (show (⟨ad, len, cap, xs⟩ : Bs).ok w' from ⟨HR.out.kept g, HOX.out, HN.out, (show len ≤ 3000 by omega)⟩))
  have HBY := Lib.hid (fun (w' : World) (g : w.grownBy w' none) => bytes_any ⟨v6, s, d, e, f, ttl, proto⟩ ⟨ad, len, cap, xs⟩ w' HX.out (HB.out w' g))
  have HSP := Lib.hid (fun (w' : World) => sp_any ⟨v6, s, d, e, f, ttl, proto⟩ ad len cap w' HX.out)
  have hso := sp_ok HX.out
  have hpe : putE (Sp.pk ⟨v6, s, d, e, f, ttl, proto⟩) xs.length = 0 := by
    rw [putE, if_neg (by rw [hso.2]; decide), if_pos]
    rw [HR.out.1, Pk.head]
    split <;> omega
  have hput := put_of hso.1 HOX.out hpe
  obtain ⟨Y0, hY⟩ : ∃ Y, Y = putL (Sp.pk ⟨v6, s, d, e, f, ttl, proto⟩) xs := ⟨_, rfl⟩
  rw [show putL (Sp.pk ⟨v6, s, d, e, f, ttl, proto⟩) (⟨ad, len, cap, xs⟩ : Bs).xs = Y0 from hY.symm] at HBY
  rw [← hY] at hput
  clear hso hpe hY
  obtain ⟨⟨v1, cls, flow, id, frag, T0, pr, ⟨s6, sh, sl⟩, ⟨d6, dh, dl⟩⟩, hQ⟩ : ∃ Q, Q = Sp.pk ⟨v6, s, d, e, f, ttl, proto⟩ := ⟨_, rfl⟩
  rw [← hQ] at hput HSP
  have HPUT := Lib.hid hput
  clear hput hQ
  obtain ⟨N, hN, hN70⟩ : ∃ N : Nat, n % 70 = N ∧ N < 70 := ⟨(n % 70).toNat, by omega, by omega⟩
  have HNN := Lib.hid hN
  clear hN
  go_wp2_with (refine wpList_run rfl (run_rowl rfl rfl (HK.out.at (.here _)) Try.underlying31 rfl (by kernel_rfl)) ?_)
  refine (HBY.out _ HK.out.grown).mono ?_
  rintro e1 w3 ⟨a3, m3, c3, rfl, ho, hg⟩
  have hk := own_back HK.out hg ho
  clear ho hg HBY c7
  clear HK
  have HK := Lib.hid hk
  clear hk
  go_wp2_with (refine wpList_run rfl (run_rowl rfl rfl (HK.out.at (.next _ (.here _))) Try.underlying31 rfl (by kernel_rfl)) ?_)
  refine (HSP.out _).mono ?_
  rintro e1 w4 ⟨rfl, hg⟩
  have hk := HK.out.grow hg
  clear hg HSP
  clear HK
  have HK := Lib.hid hk
  clear hk
  have q4 : (⟨v1, cls, flow, id, frag, T0, pr, ⟨s6, sh, sl⟩, ⟨d6, dh, dl⟩⟩ : Pk).val (.slice ad len cap) = .agg #[.bool v1, .int .u8 cls, .int .u32 flow, .int .u16 id, .int .u16 frag, .int .u8 T0, .int .u8 pr, .bool s6, .int .u64 sh, .int .u64 sl, .bool d6, .int .u64 dh, .int .u64 dl, .slice ad len cap] := rfl
  rw [q4]
  clear q4
  have HKZ := Lib.hid (own_alloc HK.out (Obj.cells #[Value.bool false, .int .u8 0, .int .u32 0, .int .u16 0, .int .u16 0, .int .u8 0, .int .u8 0, .bool false, .int .u64 0, .int .u64 0, .bool false, .int .u64 0, .int .u64 0, .slice none 0 0] 29 (0, 0)))
  go_upto_region 7 with (refine wpList_put_blk rfl HKZ.out 29 _ _ rfl w4.heap.size #[.bool v1, .int .u8 cls, .int .u32 flow, .int .u16 id, .int .u16 frag, .int .u8 T0, .int .u8 pr, .bool s6, .int .u64 sh, .int .u64 sl, .bool d6, .int .u64 dh, .int .u64 dl, .slice ad len cap] rfl rfl _ _ (.here _) (by rfl) (by kernel_rfl) (by simp [Value.oneCell']) ?_; (intro wn hkn; have HKN := Lib.hid hkn; clear hkn HKZ; clear HK; have HK := HKN; clear HKN))
  obtain ⟨p6, hp⟩ : ∃ p, p = w4.heap.size := ⟨_, rfl⟩
  rw [← hp] at HK ⊢
  clear hp
  have hk := HK.out.front (.next _ (.here _))
  clear HK
  have HK := Lib.hid hk
  clear hk
  go_wp2_with fail
  go_loopw [5, 7] (fun b i wr => ∃ (j : Nat) (T : Int) (a : Option Addr) (m c : Nat) (Y : List Int), j ≤ N ∧ i = .int .i64 j ∧ b = .slice a m c ∧ Hid (Own w wr [.sl 5 .u8 a m c Y, .blk p6 (Obj.cells #[.bool v1, .int .u8 cls, .int .u32 flow, .int .u16 id, .int .u16 frag, .int .u8 T, .int .u8 pr, .bool s6, .int .u64 sh, .int .u64 sl, .bool d6, .int .u64 dh, .int .u64 dl, .slice ad len cap] 29 (0, 0)), .blk p (Obj.cells #[Value.bool v6, .int .u8 s, .int .u8 d, .int .u8 e, .int .u8 f, .int .u8 ttl, .int .u8 proto, .slice ad len cap] 31 (0, 0))]) ∧ Hid (Put (⟨v1, cls, flow, id, frag, T, pr, ⟨s6, sh, sl⟩, ⟨d6, dh, dl⟩⟩ : Pk) xs Y)) (fun _ i _ => N - (intOf i).toNat)
  case atStart => exact ⟨0, T0, a3, m3, c3, Y0, by omega, rfl, rfl, HK, HPUT⟩
  case round =>
    obtain ⟨j, T, a, m, c, Y, hj, rfl, rfl, HK', HP⟩ := hrel
    clear HK HPUT
    have HK := HK'
    clear HK'
    have hN := HNN.out
    by_cases hlt : j < N
    · have hj0 : (0 : Int) ≤ j := by omega
      have hj1 : (j : Int) < N := by omega
      have hm := HK.out.lensl (.here _)
      have hm9 : m ≤ 3000 := by rw [← hm]; exact Nat.le_trans HP.out.len (by decide)
      clear hm
      have hcap := (HK.out.cap (.here _)).1
      go_wp2_with fail
      refine (hop_any a m c Y _ (own_bs HK.out (.here _) HP.out.ok hm9) hcap).mono ?_
      rintro e1 w5 ⟨a5, m5, c5, rfl, ho, hg⟩
      have hk := own_back HK.out hg ho
      clear ho hg
      have hk := hk.sub (List.Sublist.cons_cons _ (List.Sublist.cons _ (List.Sublist.refl _)))
      by_cases ht : T ≤ 1
      · rw [put_end HP.out ht] at hk ⊢
        have hm5 : (0 : Nat) = m5 := hk.lensl (.here _)
        subst hm5
        clear HK
        have HK := Lib.hid hk
        clear hk
        have hb := HK.out.at (.next _ (.here _))
        have d5 : w5.cell? ⟨p6, 5, none⟩ = some (.int .u8 T) := cell_blk hb 5
        clear hb
        have ht2 : ¬ (2 : Int) ≤ T := by omega
        go_wp2_with fail
        exact bodyPost_ret (results_tmp rfl _ _ _) rfl ⟨rfl, HK.out.grown⟩
      · have ht2 : (2 : Int) ≤ T := by omega
        obtain ⟨H, hH, hp⟩ := put_hop HP.out HOX.out (show 1 < T by omega)
        have ht3 : T < 256 := HP.out.q.ttl.2
        rw [hH] at hk ⊢
        have hp : Put (⟨v1, cls, flow, id, frag, (T - 1), pr, ⟨s6, sh, sl⟩, ⟨d6, dh, dl⟩⟩ : Pk) xs H := hp
        have HP2 := Lib.hid hp
        clear hH hp HP
        rw [show (Option.getD (some H) ([] : List Int)) = H from rfl] at hk
        clear HK
        have HK := Lib.hid hk
        clear hk
        have hb := HK.out.at (.next _ (.here _))
        have d5 : w5.cell? ⟨p6, 5, none⟩ = some (.int .u8 T) := cell_blk hb 5
        clear hb hcap hm9 ht
        go_upto_region 16 with (refine wpList_put_cell rfl HK.out _ _ _ rfl p6 5 (.int .u8 (T - 1)) rfl rfl 29 _ #[.bool v1, .int .u8 cls, .int .u32 flow, .int .u16 id, .int .u16 frag, .int .u8 (T - 1), .int .u8 pr, .bool s6, .int .u64 sh, .int .u64 sl, .bool d6, .int .u64 dh, .int .u64 dl, .slice ad len cap] (.next _ (.here _)) (Nat.le_of_ble_eq_true rfl) rfl (by kernel_rfl) rfl rfl ?_; (intro wn hkn; have HKN := Lib.hid hkn; clear hkn; clear HK; have HK := HKN; clear HKN))
        clear d5
        have hm := HK.out.lensl (.here _)
        have hm9 : m5 ≤ 3000 := by rw [← hm]; exact Nat.le_trans HP2.out.len (by decide)
        clear hm
        have hcap := (HK.out.cap (.here _)).1
        go_wp2_with fail
        have q4 := parse_any a5 m5 c5 H _ (own_bs HK.out (.here _) HP2.out.ok hm9) hcap
        rw [HP2.out.par] at q4
        refine q4.mono ?_
        clear q4 hcap hm9
        rintro e1 w6 ⟨a6, c6, rfl, ho, hg⟩
        have hk := own_back HK.out hg ho
        clear ho hg
        clear HK
        have HK := Lib.hid hk
        clear hk
        rw [Rs.val_eq]
        dsimp only
        have HKZ := Lib.hid (own_alloc HK.out (Obj.cells #[Value.bool false, .int .u8 0, .int .u32 0, .int .u16 0, .int .u16 0, .int .u8 0, .int .u8 0, .bool false, .int .u64 0, .int .u64 0, .bool false, .int .u64 0, .int .u64 0, .slice none 0 0] 29 (0, 0)))
        go_upto_region 17 with (refine wpList_put_blk rfl HKZ.out 29 _ _ rfl w6.heap.size #[.bool v1, .int .u8 cls, .int .u32 flow, .int .u16 id, .int .u16 frag, .int .u8 (T - 1), .int .u8 pr, .bool s6, .int .u64 sh, .int .u64 sl, .bool d6, .int .u64 dh, .int .u64 dl, .slice a6 xs.length c6] rfl rfl _ _ (.here _) (by rfl) (by kernel_rfl) (by simp [Value.oneCell']) ?_; (intro wn hkn; have HKN := Lib.hid hkn; clear hkn HKZ; clear HK; have HK := HKN; clear HKN))
        obtain ⟨p10, hp⟩ : ∃ p, p = w6.heap.size := ⟨_, rfl⟩
        rw [← hp] at HK ⊢
        clear hp
        go_wp2_with (first | (refine wpList_run rfl (run_rowl rfl rfl (HK.out.at (.here _)) Try.underlying29 rfl (by kernel_rfl)) ?_) | (refine wpList_run rfl (run_rowl rfl rfl (HK.out.at (.next _ (.next _ (.next _ (.here _))))) Try.underlying29 rfl (by kernel_rfl)) ?_))
        refine (help_any (⟨v1, cls, flow, id, frag, (T - 1), pr, ⟨s6, sh, sl⟩, ⟨d6, dh, dl⟩⟩ : Pk) ad len cap a6 xs.length c6 xs _ (HB.out _ HK.out.grown).1 (HK.out.rdsl (.next _ (.here _)))).mono ?_
        rintro e1 w7 ⟨rfl, hg⟩
        have hk := (HK.out.grow hg).sub (List.Sublist.cons _ (List.Sublist.cons _ (List.Sublist.refl _)))
        clear hg
        clear HK
        have HK := Lib.hid hk
        clear hk
        go_wp2_with fail
        exact ⟨⟨j + 1, T - 1, a5, m5, c5, H, by omega, by go_num, rfl, HK, HP2⟩, by simp [intOf]; omega⟩
    · have hj2 : j = N := by omega
      subst hj2
      clear hlt hj
      go_wp2_with fail
      exact bodyPost_ret (results_tmp rfl _ _ _) rfl ⟨rfl, HK.out.grown⟩
end Go.Proofs.Ytmankjhopfilaaa
