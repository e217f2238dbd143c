/- KeysTell, walked. -/
import Derived.Test.YtjogdbiaiflmpaaHkO
namespace Go.Proofs.Ytjogdbiaiflmpaa
set_option linter.unusedVariables false
set_option linter.unusedSimpArgs false
open Go.RowKit Go.Proofs.YtjogdbiaiflmpaaL

/-- What comes of any number of bytes that are asked. -/
def eB (k : Int) : Bool := decide (0 ≤ k ∧ k ≤ 8160)
def eX (key xs : List Int) (k : Int) : List Int := if 0 ≤ k ∧ k ≤ 8160 then expK key xs k.toNat else []
theorem rd_nil (w : World) : Rd .u8 w none 0 [] := ⟨rfl, fun j hj => absurd hj (Nat.not_lt_zero _)⟩
theorem exp_all (key : List Int) (I : Bs) (k : Int) (w : World) (hkl : key.length = 32) (hko : okB 256 key) (hi : I.ok w) :
    Calls Try.prog 10 #[.agg (encK .u8 key), I.val, .int .i64 k] w fun e w' => ∃ a n c, e = .returned (.tuple #[.slice a n c, .bool (eB k)]) ∧ Rd .u8 w' a n (eX key I.xs k) ∧ w.grownBy w' none := by
  by_cases h : 0 ≤ k ∧ k ≤ 8160
  · obtain ⟨m, rfl⟩ := Int.eq_ofNat_of_zero_le h.1
    refine (expand_own key I m w hkl hko hi (by omega)).mono ?_
    rintro e w' ⟨a, c, rfl, ho, hg⟩
    have := own_reads ho hg
    exact ⟨a, m, c, by rw [eB, decide_eq_true h], by rw [eX, if_pos h]; exact this.1, hg⟩
  · refine (expand_no key I.val k w hkl (by omega)).mono ?_
    rintro e w' ⟨rfl, hg⟩
    exact ⟨none, 0, 0, by rw [eB, decide_eq_false h], by rw [eX, if_neg h]; exact rd_nil _, hg⟩
theorem rexp_all (key : List Int) (I : Bs) (k : Int) (w : World) (hkl : key.length = 32) (hko : okB 256 key) (hi : I.ok w) (hil : I.len ≤ 1000) :
    Calls Try.prog 15 #[.agg (encK .u8 key), I.val, .int .i64 k] w fun e w' => ∃ a n c, e = .returned (.tuple #[.slice a n c, .bool (eB k)]) ∧ Rd .u8 w' a n (eX key I.xs k) ∧ w.grownBy w' none := by
  by_cases h : 0 ≤ k ∧ k ≤ 8160
  · obtain ⟨m, rfl⟩ := Int.eq_ofNat_of_zero_le h.1
    refine (rexpand_any key I m w hkl hko hi hil (by omega)).mono ?_
    rintro e w' ⟨a, c, rfl, ho, hg⟩
    have := own_reads ho hg
    exact ⟨a, m, c, by rw [eB, decide_eq_true h], by rw [eX, if_pos h]; exact this.1, hg⟩
  · refine (rexpand_no key I.val k w hkl (by omega)).mono ?_
    rintro e w' ⟨rfl, hg⟩
    exact ⟨none, 0, 0, by rw [eB, decide_eq_false h], by rw [eX, if_neg h]; exact rd_nil _, hg⟩

set_option maxHeartbeats 8000000 in
set_option maxRecDepth 100000 in
theorem ktell_walk (key : List Int) (ad : Option Addr) (len cap : Nat) (zs : List Int) (n : Int) (w : World) (hk : key.length = 32) (hko : okB 256 key) (hr : IsRow .u8 w ad len cap zs) (hn0 : -9223372036854775808 ≤ n) (hn1 : n < 9223372036854775808) :
    Calls Try.prog 7 #[.agg (encK .u8 key), .slice ad len cap, .int .i64 n] w fun e w' => e = .returned (.bool true) ∧ w.grownBy w' none := by
  obtain ⟨h1, h2, h3, h4⟩ := isRow_rd hr
  obtain ⟨h5, h6⟩ := row_none hr
  obtain ⟨xs, hxs⟩ : ∃ xs, xs = zs.take len := ⟨_, rfl⟩
  rw [← hxs] at h1 h2
  have HR := Lib.hid h1
  have HOX := Lib.hid h2
  have HN := Lib.hid h5
  have HKL := Lib.hid hk
  have HKO := Lib.hid hko
  have HN0 := Lib.hid hn0
  have HN1 := Lib.hid hn1
  have h63 : (len : Int) ≤ 9223372036854775807 := by omega
  clear hr h1 h2 h3 h4 h5 h6 hxs hk hko hn0 hn1
  obtain ⟨p, hp⟩ : ∃ p, w.heap.size = p := ⟨_, rfl⟩
  have hk0 := (own_start w).ints .u8 26 32 key HKL.out hp
  have HK := Lib.hid hk0
  have HP := Lib.hid hp
  clear hk0 hp
  go_enter Try.func7, Try.ntmps7
  go_wp2_with fail
  rw [HP.out]
  refine (known_any _).mono ?_
  rintro e wn ⟨rfl, hg⟩
  have hkb := HK.out.grow hg
  clear hg
  clear HK
  have HK := Lib.hid hkb
  clear hkb
  by_cases hbig : (len : Int) > 100
  · go_wp2_with fail
    exact bodyPost_ret (results_tmp rfl _ _ _) rfl ⟨rfl, HK.out.grown⟩
  have hlen : len ≤ 100 := by omega
  have HB := Lib.hid (fun (w' : World) (g : w.grownBy w' none) => (show (⟨ad, len, cap, xs⟩ : Bs).ok w' from ⟨HR.out.kept g, HOX.out, HN.out, (show len ≤ 3000 by omega)⟩))
  go_wp2_with fail
  obtain ⟨L, hL⟩ : ∃ L, L = [n, bits BinOp.and IntKind.i64 n 127] := ⟨_, rfl⟩
  obtain ⟨pa, hpa⟩ : ∃ pa, wn.heap.size = pa := ⟨_, rfl⟩
  have hkb := HK.out.ints .i64 3 2 L (by rw [hL]; rfl) hpa
  rw [show encK .i64 L = #[Value.int IntKind.i64 n, Value.int IntKind.i64 (bits BinOp.and IntKind.i64 n 127)] by rw [hL]; rfl] at hkb
  rw [hpa]
  generalize wn.alloc (.cells #[Value.int IntKind.i64 n, Value.int IntKind.i64 (bits BinOp.and IntKind.i64 n 127)] 3 (0, 0)) = wm at hkb ⊢
  generalize bits BinOp.and IntKind.i64 n 127 = x24
  clear hL hpa
  clear HK
  have HK := Lib.hid hkb
  clear hkb
  go_loopw [27] (fun v wr => ∃ (j : Nat), j ≤ 2 ∧ v = .int .i64 j ∧ Hid (Own w wr [.ints pa .i64 3 2 L, .ints p .u8 26 32 key])) (fun v _ => 2 - (intOf v).toNat)
  case atStart => exact ⟨0, by omega, rfl, HK⟩
  case round =>
    obtain ⟨j, hj, rfl, HK'⟩ := hrel
    clear HK
    have HK := HK'
    clear HK'
    by_cases hlt : j < 2
    · have hj0 : (0 : Int) ≤ j := by omega
      have hj1 : (j : Int) < 2 := by omega
      go_upto_region 8 with (refine wpList_get_int rfl HK.out _ _ rfl _ _ rfl _ _ _ _ (by first | exact Has.here _ | exact Has.next _ (Has.here _) | exact Has.next _ (Has.next _ (Has.here _)) | exact Has.next _ (Has.next _ (Has.next _ (Has.here _))) | exact Has.next _ (Has.next _ (Has.next _ (Has.next _ (Has.here _)))) | exact Has.next _ (Has.next _ (Has.next _ (Has.next _ (Has.next _ (Has.here _))))) | exact Has.next _ (Has.next _ (Has.next _ (Has.next _ (Has.next _ (Has.next _ (Has.here _)))))) | exact Has.next _ (Has.next _ (Has.next _ (Has.next _ (Has.next _ (Has.next _ (Has.next _ (Has.here _))))))) | exact Has.next _ (Has.next _ (Has.next _ (Has.next _ (Has.next _ (Has.next _ (Has.next _ (Has.next _ (Has.here _)))))))) | exact Has.next _ (Has.next _ (Has.next _ (Has.next _ (Has.next _ (Has.next _ (Has.next _ (Has.next _ (Has.next _ (Has.here _)))))))))) rfl (by omega) ?_)
      obtain ⟨k, hk⟩ : ∃ k, k = L[j]?.getD 0 := ⟨_, rfl⟩
      rw [← hk]
      clear hk
      by_cases hs1 : 300 < k
      · by_cases hs2 : k < 8150
        · go_wp2_with fail
          exact ⟨⟨j + 1, by omega, by go_num, HK⟩, by simp [intOf]; omega⟩
        · go_wp2_with (refine wpList_get_row rfl HK.out 26 _ rfl _ rfl _ _ _ _ (by first | exact Has.here _ | exact Has.next _ (Has.here _) | exact Has.next _ (Has.next _ (Has.here _)) | exact Has.next _ (Has.next _ (Has.next _ (Has.here _))) | exact Has.next _ (Has.next _ (Has.next _ (Has.next _ (Has.here _)))) | exact Has.next _ (Has.next _ (Has.next _ (Has.next _ (Has.next _ (Has.here _))))) | exact Has.next _ (Has.next _ (Has.next _ (Has.next _ (Has.next _ (Has.next _ (Has.here _)))))) | exact Has.next _ (Has.next _ (Has.next _ (Has.next _ (Has.next _ (Has.next _ (Has.next _ (Has.here _))))))) | exact Has.next _ (Has.next _ (Has.next _ (Has.next _ (Has.next _ (Has.next _ (Has.next _ (Has.next _ (Has.here _)))))))) | exact Has.next _ (Has.next _ (Has.next _ (Has.next _ (Has.next _ (Has.next _ (Has.next _ (Has.next _ (Has.next _ (Has.here _)))))))))) _ Try.underlying26 rfl (by kernel_rfl) ?_)
          refine (exp_all key ⟨ad, len, cap, xs⟩ k _ HKL.out HKO.out (HB.out _ HK.out.grown)).mono ?_
          rintro e w2 ⟨a1, n1, c1, rfl, hr1, hg⟩
          have hkb := HK.out.grow hg
          clear hg
          clear HK
          have HK := Lib.hid hkb
          clear hkb
          obtain ⟨b, hb⟩ : ∃ b, b = eB k := ⟨_, rfl⟩
          obtain ⟨X, hX⟩ : ∃ X, X = eX key xs k := ⟨_, rfl⟩
          rw [show eX key (⟨ad, len, cap, xs⟩ : Bs).xs k = X from hX.symm] at hr1
          rw [← hb]
          have HX := Lib.hid hX
          have HBB := Lib.hid hb
          have HR1 := Lib.hid hr1
          clear hX hb hr1
          go_wp2_with (refine wpList_get_row rfl HK.out 26 _ rfl _ rfl _ _ _ _ (by first | exact Has.here _ | exact Has.next _ (Has.here _) | exact Has.next _ (Has.next _ (Has.here _)) | exact Has.next _ (Has.next _ (Has.next _ (Has.here _))) | exact Has.next _ (Has.next _ (Has.next _ (Has.next _ (Has.here _)))) | exact Has.next _ (Has.next _ (Has.next _ (Has.next _ (Has.next _ (Has.here _))))) | exact Has.next _ (Has.next _ (Has.next _ (Has.next _ (Has.next _ (Has.next _ (Has.here _)))))) | exact Has.next _ (Has.next _ (Has.next _ (Has.next _ (Has.next _ (Has.next _ (Has.next _ (Has.here _))))))) | exact Has.next _ (Has.next _ (Has.next _ (Has.next _ (Has.next _ (Has.next _ (Has.next _ (Has.next _ (Has.here _)))))))) | exact Has.next _ (Has.next _ (Has.next _ (Has.next _ (Has.next _ (Has.next _ (Has.next _ (Has.next _ (Has.next _ (Has.here _)))))))))) _ Try.underlying26 rfl (by kernel_rfl) ?_)
          refine (rexp_all key ⟨ad, len, cap, xs⟩ k _ HKL.out HKO.out (HB.out _ HK.out.grown) (show len ≤ 1000 by omega)).mono ?_
          rintro e w3 ⟨a2, n2, c2, rfl, hr2, hg⟩
          have hkb := HK.out.grow hg
          have hr1 := HR1.out.kept hg
          clear hg HR1
          clear HK
          have HK := Lib.hid hkb
          clear hkb
          rw [show eX key (⟨ad, len, cap, xs⟩ : Bs).xs k = X from HX.out.symm] at hr2
          rw [← HBB.out]
          have HR1 := Lib.hid hr1
          have HR2 := Lib.hid hr2
          clear hr1 hr2
          go_wp2_with (first | (refine wpList_run rfl (run_str rfl Try.underlying22 Try.underlying5 Try.underlying9 rfl HR1.out) ?_) | (refine wpList_run rfl (run_str rfl Try.underlying22 Try.underlying5 Try.underlying9 rfl HR2.out) ?_))
          exact ⟨⟨j + 1, by omega, by go_num, HK⟩, by simp [intOf]; omega⟩
      · go_wp2_with (refine wpList_get_row rfl HK.out 26 _ rfl _ rfl _ _ _ _ (by first | exact Has.here _ | exact Has.next _ (Has.here _) | exact Has.next _ (Has.next _ (Has.here _)) | exact Has.next _ (Has.next _ (Has.next _ (Has.here _))) | exact Has.next _ (Has.next _ (Has.next _ (Has.next _ (Has.here _)))) | exact Has.next _ (Has.next _ (Has.next _ (Has.next _ (Has.next _ (Has.here _))))) | exact Has.next _ (Has.next _ (Has.next _ (Has.next _ (Has.next _ (Has.next _ (Has.here _)))))) | exact Has.next _ (Has.next _ (Has.next _ (Has.next _ (Has.next _ (Has.next _ (Has.next _ (Has.here _))))))) | exact Has.next _ (Has.next _ (Has.next _ (Has.next _ (Has.next _ (Has.next _ (Has.next _ (Has.next _ (Has.here _)))))))) | exact Has.next _ (Has.next _ (Has.next _ (Has.next _ (Has.next _ (Has.next _ (Has.next _ (Has.next _ (Has.next _ (Has.here _)))))))))) _ Try.underlying26 rfl (by kernel_rfl) ?_)
        refine (exp_all key ⟨ad, len, cap, xs⟩ k _ HKL.out HKO.out (HB.out _ HK.out.grown)).mono ?_
        rintro e w2 ⟨a1, n1, c1, rfl, hr1, hg⟩
        have hkb := HK.out.grow hg
        clear hg
        clear HK
        have HK := Lib.hid hkb
        clear hkb
        obtain ⟨b, hb⟩ : ∃ b, b = eB k := ⟨_, rfl⟩
        obtain ⟨X, hX⟩ : ∃ X, X = eX key xs k := ⟨_, rfl⟩
        rw [show eX key (⟨ad, len, cap, xs⟩ : Bs).xs k = X from hX.symm] at hr1
        rw [← hb]
        have HX := Lib.hid hX
        have HBB := Lib.hid hb
        have HR1 := Lib.hid hr1
        clear hX hb hr1
        go_wp2_with (refine wpList_get_row rfl HK.out 26 _ rfl _ rfl _ _ _ _ (by first | exact Has.here _ | exact Has.next _ (Has.here _) | exact Has.next _ (Has.next _ (Has.here _)) | exact Has.next _ (Has.next _ (Has.next _ (Has.here _))) | exact Has.next _ (Has.next _ (Has.next _ (Has.next _ (Has.here _)))) | exact Has.next _ (Has.next _ (Has.next _ (Has.next _ (Has.next _ (Has.here _))))) | exact Has.next _ (Has.next _ (Has.next _ (Has.next _ (Has.next _ (Has.next _ (Has.here _)))))) | exact Has.next _ (Has.next _ (Has.next _ (Has.next _ (Has.next _ (Has.next _ (Has.next _ (Has.here _))))))) | exact Has.next _ (Has.next _ (Has.next _ (Has.next _ (Has.next _ (Has.next _ (Has.next _ (Has.next _ (Has.here _)))))))) | exact Has.next _ (Has.next _ (Has.next _ (Has.next _ (Has.next _ (Has.next _ (Has.next _ (Has.next _ (Has.next _ (Has.here _)))))))))) _ Try.underlying26 rfl (by kernel_rfl) ?_)
        refine (rexp_all key ⟨ad, len, cap, xs⟩ k _ HKL.out HKO.out (HB.out _ HK.out.grown) (show len ≤ 1000 by omega)).mono ?_
        rintro e w3 ⟨a2, n2, c2, rfl, hr2, hg⟩
        have hkb := HK.out.grow hg
        have hr1 := HR1.out.kept hg
        clear hg HR1
        clear HK
        have HK := Lib.hid hkb
        clear hkb
        rw [show eX key (⟨ad, len, cap, xs⟩ : Bs).xs k = X from HX.out.symm] at hr2
        rw [← HBB.out]
        have HR1 := Lib.hid hr1
        have HR2 := Lib.hid hr2
        clear hr1 hr2
        go_wp2_with (first | (refine wpList_run rfl (run_str rfl Try.underlying22 Try.underlying5 Try.underlying9 rfl HR1.out) ?_) | (refine wpList_run rfl (run_str rfl Try.underlying22 Try.underlying5 Try.underlying9 rfl HR2.out) ?_))
        exact ⟨⟨j + 1, by omega, by go_num, HK⟩, by simp [intOf]; omega⟩
    · have hj2 : j = 2 := by omega
      subst hj2
      clear hlt hj
      rw [show ((2 : Nat) : Int) = 2 from rfl]
      go_wp2_with (refine wpList_get_row rfl HK.out 26 _ rfl _ rfl _ _ _ _ (by first | exact Has.here _ | exact Has.next _ (Has.here _) | exact Has.next _ (Has.next _ (Has.here _)) | exact Has.next _ (Has.next _ (Has.next _ (Has.here _))) | exact Has.next _ (Has.next _ (Has.next _ (Has.next _ (Has.here _)))) | exact Has.next _ (Has.next _ (Has.next _ (Has.next _ (Has.next _ (Has.here _))))) | exact Has.next _ (Has.next _ (Has.next _ (Has.next _ (Has.next _ (Has.next _ (Has.here _)))))) | exact Has.next _ (Has.next _ (Has.next _ (Has.next _ (Has.next _ (Has.next _ (Has.next _ (Has.here _))))))) | exact Has.next _ (Has.next _ (Has.next _ (Has.next _ (Has.next _ (Has.next _ (Has.next _ (Has.next _ (Has.here _)))))))) | exact Has.next _ (Has.next _ (Has.next _ (Has.next _ (Has.next _ (Has.next _ (Has.next _ (Has.next _ (Has.next _ (Has.here _)))))))))) _ Try.underlying26 rfl (by kernel_rfl) ?_)
      obtain ⟨E1, hE1⟩ : ∃ E1, E1 = (mixK key xs).take 32 := ⟨_, rfl⟩
      obtain ⟨E2, hE2⟩ : ∃ E2, E2 = (mixK key xs).drop 32 := ⟨_, rfl⟩
      have HL1 := Lib.hid (show E1.length = 32 by rw [hE1, List.length_take, length_mixK]; rfl)
      have HL2 := Lib.hid (show E2.length = 32 by rw [hE2, List.length_drop, length_mixK])
      have HE1 := Lib.hid hE1
      have HE2 := Lib.hid hE2
      clear hE1 hE2
      refine (mix_any key ⟨ad, len, cap, xs⟩ _ HKL.out HKO.out (HB.out _ HK.out.grown)).mono ?_
      rintro e w2 ⟨rfl, hg⟩
      have hkb := HK.out.grow hg
      clear hg
      clear HK
      have HK := Lib.hid hkb
      clear hkb
      rw [show (mixK key (⟨ad, len, cap, xs⟩ : Bs).xs).take 32 = E1 from HE1.out.symm, show (mixK key (⟨ad, len, cap, xs⟩ : Bs).xs).drop 32 = E2 from HE2.out.symm]
      go_wp2_with ((refine wpList_new_ints rfl HK.out _ rfl .u8 26 32 (zer 32) (length_zer _) (fun w => by go_simp; first | exact ⟨rfl, rfl⟩ | kernel_rfl) ?_))
      intro wn p13 hkn
      have HKN := Lib.hid hkn
      clear hkn HK
      have HK := HKN
      clear HKN
      go_wp2_with ((refine wpList_new_ints rfl HK.out _ rfl .u8 26 32 (zer 32) (length_zer _) (fun w => by go_simp; first | exact ⟨rfl, rfl⟩ | kernel_rfl) ?_))
      intro wn p14 hkn
      have HKN := Lib.hid hkn
      clear hkn HK
      have HK := HKN
      clear HKN
      go_wp2_with (first | (refine wpList_put_row rfl HK.out 26 _ _ rfl _ _ E1 rfl rfl _ _ _ (by first | exact Upd.here _ | exact Upd.next _ (Upd.here _) | exact Upd.next _ (Upd.next _ (Upd.here _)) | exact Upd.next _ (Upd.next _ (Upd.next _ (Upd.here _))) | exact Upd.next _ (Upd.next _ (Upd.next _ (Upd.next _ (Upd.here _)))) | exact Upd.next _ (Upd.next _ (Upd.next _ (Upd.next _ (Upd.next _ (Upd.here _))))) | exact Upd.next _ (Upd.next _ (Upd.next _ (Upd.next _ (Upd.next _ (Upd.next _ (Upd.here _)))))) | exact Upd.next _ (Upd.next _ (Upd.next _ (Upd.next _ (Upd.next _ (Upd.next _ (Upd.next _ (Upd.here _))))))) | exact Upd.next _ (Upd.next _ (Upd.next _ (Upd.next _ (Upd.next _ (Upd.next _ (Upd.next _ (Upd.next _ (Upd.here _)))))))) | exact Upd.next _ (Upd.next _ (Upd.next _ (Upd.next _ (Upd.next _ (Upd.next _ (Upd.next _ (Upd.next _ (Upd.next _ (Upd.here _)))))))))) (by exact HL1.out) (by kernel_rfl) ?_; (intro wn hkn; have HKN := Lib.hid hkn; clear hkn; clear HK; have HK := HKN; clear HKN)) | (refine wpList_put_row rfl HK.out 26 _ _ rfl _ _ E2 rfl rfl _ _ _ (by first | exact Upd.here _ | exact Upd.next _ (Upd.here _) | exact Upd.next _ (Upd.next _ (Upd.here _)) | exact Upd.next _ (Upd.next _ (Upd.next _ (Upd.here _))) | exact Upd.next _ (Upd.next _ (Upd.next _ (Upd.next _ (Upd.here _)))) | exact Upd.next _ (Upd.next _ (Upd.next _ (Upd.next _ (Upd.next _ (Upd.here _))))) | exact Upd.next _ (Upd.next _ (Upd.next _ (Upd.next _ (Upd.next _ (Upd.next _ (Upd.here _)))))) | exact Upd.next _ (Upd.next _ (Upd.next _ (Upd.next _ (Upd.next _ (Upd.next _ (Upd.next _ (Upd.here _))))))) | exact Upd.next _ (Upd.next _ (Upd.next _ (Upd.next _ (Upd.next _ (Upd.next _ (Upd.next _ (Upd.next _ (Upd.here _)))))))) | exact Upd.next _ (Upd.next _ (Upd.next _ (Upd.next _ (Upd.next _ (Upd.next _ (Upd.next _ (Upd.next _ (Upd.next _ (Upd.here _)))))))))) (by exact HL2.out) (by kernel_rfl) ?_; (intro wn hkn; have HKN := Lib.hid hkn; clear hkn; clear HK; have HK := HKN; clear HKN)) | (refine wpList_run rfl (run_loadr rfl rfl (HK.out.rd (by first | exact Has.here _ | exact Has.next _ (Has.here _) | exact Has.next _ (Has.next _ (Has.here _)) | exact Has.next _ (Has.next _ (Has.next _ (Has.here _))) | exact Has.next _ (Has.next _ (Has.next _ (Has.next _ (Has.here _)))) | exact Has.next _ (Has.next _ (Has.next _ (Has.next _ (Has.next _ (Has.here _))))) | exact Has.next _ (Has.next _ (Has.next _ (Has.next _ (Has.next _ (Has.next _ (Has.here _)))))) | exact Has.next _ (Has.next _ (Has.next _ (Has.next _ (Has.next _ (Has.next _ (Has.next _ (Has.here _))))))) | exact Has.next _ (Has.next _ (Has.next _ (Has.next _ (Has.next _ (Has.next _ (Has.next _ (Has.next _ (Has.here _)))))))) | exact Has.next _ (Has.next _ (Has.next _ (Has.next _ (Has.next _ (Has.next _ (Has.next _ (Has.next _ (Has.next _ (Has.here _))))))))))) Try.underlying26 (by kernel_rfl)) ?_) | (refine wpList_eql rfl 26 _ _ _ rfl 32 _ .u8 Try.underlying26 Try.underlying5 (by kernel_rfl) (by kernel_rfl) E1 E1 rfl rfl HL1.out HL1.out true (by simp) ?_) | (refine wpList_eql rfl 26 _ _ _ rfl 32 _ .u8 Try.underlying26 Try.underlying5 (by kernel_rfl) (by kernel_rfl) E2 E2 rfl rfl HL2.out HL2.out true (by simp) ?_))
      refine (rmix_any key ⟨ad, len, cap, xs⟩ _ HKL.out HKO.out (HB.out _ HK.out.grown) (show len ≤ 1000 by omega)).mono ?_
      rintro e w3 ⟨rfl, hg⟩
      have hkb := HK.out.grow hg
      clear hg
      clear HK
      have HK := Lib.hid hkb
      clear hkb
      rw [show (mixK key (⟨ad, len, cap, xs⟩ : Bs).xs).take 32 = E1 from HE1.out.symm, show (mixK key (⟨ad, len, cap, xs⟩ : Bs).xs).drop 32 = E2 from HE2.out.symm]
      go_wp2_with ((refine wpList_new_ints rfl HK.out _ rfl .u8 26 32 (zer 32) (length_zer _) (fun w => by go_simp; first | exact ⟨rfl, rfl⟩ | kernel_rfl) ?_))
      intro wn p15 hkn
      have HKN := Lib.hid hkn
      clear hkn HK
      have HK := HKN
      clear HKN
      go_wp2_with ((refine wpList_new_ints rfl HK.out _ rfl .u8 26 32 (zer 32) (length_zer _) (fun w => by go_simp; first | exact ⟨rfl, rfl⟩ | kernel_rfl) ?_))
      intro wn p16 hkn
      have HKN := Lib.hid hkn
      clear hkn HK
      have HK := HKN
      clear HKN
      go_wp2_with (first | (refine wpList_put_row rfl HK.out 26 _ _ rfl _ _ E1 rfl rfl _ _ _ (by first | exact Upd.here _ | exact Upd.next _ (Upd.here _) | exact Upd.next _ (Upd.next _ (Upd.here _)) | exact Upd.next _ (Upd.next _ (Upd.next _ (Upd.here _))) | exact Upd.next _ (Upd.next _ (Upd.next _ (Upd.next _ (Upd.here _)))) | exact Upd.next _ (Upd.next _ (Upd.next _ (Upd.next _ (Upd.next _ (Upd.here _))))) | exact Upd.next _ (Upd.next _ (Upd.next _ (Upd.next _ (Upd.next _ (Upd.next _ (Upd.here _)))))) | exact Upd.next _ (Upd.next _ (Upd.next _ (Upd.next _ (Upd.next _ (Upd.next _ (Upd.next _ (Upd.here _))))))) | exact Upd.next _ (Upd.next _ (Upd.next _ (Upd.next _ (Upd.next _ (Upd.next _ (Upd.next _ (Upd.next _ (Upd.here _)))))))) | exact Upd.next _ (Upd.next _ (Upd.next _ (Upd.next _ (Upd.next _ (Upd.next _ (Upd.next _ (Upd.next _ (Upd.next _ (Upd.here _)))))))))) (by exact HL1.out) (by kernel_rfl) ?_; (intro wn hkn; have HKN := Lib.hid hkn; clear hkn; clear HK; have HK := HKN; clear HKN)) | (refine wpList_put_row rfl HK.out 26 _ _ rfl _ _ E2 rfl rfl _ _ _ (by first | exact Upd.here _ | exact Upd.next _ (Upd.here _) | exact Upd.next _ (Upd.next _ (Upd.here _)) | exact Upd.next _ (Upd.next _ (Upd.next _ (Upd.here _))) | exact Upd.next _ (Upd.next _ (Upd.next _ (Upd.next _ (Upd.here _)))) | exact Upd.next _ (Upd.next _ (Upd.next _ (Upd.next _ (Upd.next _ (Upd.here _))))) | exact Upd.next _ (Upd.next _ (Upd.next _ (Upd.next _ (Upd.next _ (Upd.next _ (Upd.here _)))))) | exact Upd.next _ (Upd.next _ (Upd.next _ (Upd.next _ (Upd.next _ (Upd.next _ (Upd.next _ (Upd.here _))))))) | exact Upd.next _ (Upd.next _ (Upd.next _ (Upd.next _ (Upd.next _ (Upd.next _ (Upd.next _ (Upd.next _ (Upd.here _)))))))) | exact Upd.next _ (Upd.next _ (Upd.next _ (Upd.next _ (Upd.next _ (Upd.next _ (Upd.next _ (Upd.next _ (Upd.next _ (Upd.here _)))))))))) (by exact HL2.out) (by kernel_rfl) ?_; (intro wn hkn; have HKN := Lib.hid hkn; clear hkn; clear HK; have HK := HKN; clear HKN)) | (refine wpList_run rfl (run_loadr rfl rfl (HK.out.rd (by first | exact Has.here _ | exact Has.next _ (Has.here _) | exact Has.next _ (Has.next _ (Has.here _)) | exact Has.next _ (Has.next _ (Has.next _ (Has.here _))) | exact Has.next _ (Has.next _ (Has.next _ (Has.next _ (Has.here _)))) | exact Has.next _ (Has.next _ (Has.next _ (Has.next _ (Has.next _ (Has.here _))))) | exact Has.next _ (Has.next _ (Has.next _ (Has.next _ (Has.next _ (Has.next _ (Has.here _)))))) | exact Has.next _ (Has.next _ (Has.next _ (Has.next _ (Has.next _ (Has.next _ (Has.next _ (Has.here _))))))) | exact Has.next _ (Has.next _ (Has.next _ (Has.next _ (Has.next _ (Has.next _ (Has.next _ (Has.next _ (Has.here _)))))))) | exact Has.next _ (Has.next _ (Has.next _ (Has.next _ (Has.next _ (Has.next _ (Has.next _ (Has.next _ (Has.next _ (Has.here _))))))))))) Try.underlying26 (by kernel_rfl)) ?_) | (refine wpList_eql rfl 26 _ _ _ rfl 32 _ .u8 Try.underlying26 Try.underlying5 (by kernel_rfl) (by kernel_rfl) E1 E1 rfl rfl HL1.out HL1.out true (by simp) ?_) | (refine wpList_eql rfl 26 _ _ _ rfl 32 _ .u8 Try.underlying26 Try.underlying5 (by kernel_rfl) (by kernel_rfl) E2 E2 rfl rfl HL2.out HL2.out true (by simp) ?_))
      exact bodyPost_ret (results_tmp rfl _ _ _) rfl ⟨rfl, HK.out.grown⟩
end Go.Proofs.Ytjogdbiaiflmpaa
