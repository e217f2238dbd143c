/- KeysBegin, walked. -/
import Derived.Test.YtjogdbiaiflmpaaHkG
namespace Go.Proofs.Ytjogdbiaiflmpaa
set_option linter.unusedVariables false
set_option linter.unusedSimpArgs false
open Go.RowKit Go.Proofs.YtjogdbiaiflmpaaL

theorem row_none {w : World} {a : Option Addr} {len cap : Nat} {zs : List Int} (h : IsRow .u8 w a len cap zs) : (a = none → cap = 0) ∧ cap ≤ maxLen := by
  rcases h with ⟨rfl, rfl, rfl, rfl⟩ | ⟨x, rfl, hl, hm, hz, hc, hw⟩
  · exact ⟨fun _ => rfl, by unfold maxLen; omega⟩
  · exact ⟨fun h => (by cases h), hm⟩

set_option maxHeartbeats 8000000 in
set_option maxRecDepth 100000 in
theorem begin_walk (key : List Int) (ad : Option Addr) (len cap : Nat) (zs : List Int) (n m : Int) (w : World) (hk : key.length = 32) (hko : okB 256 key) (hr : IsRow .u8 w ad len cap zs) (hn0 : 0 ≤ n) (hn1 : n < 256) (hm0 : 0 ≤ m) (hm1 : m < 256) :
    Calls Try.prog 4 #[.agg (encK .u8 key), .slice ad len cap, .int .u8 n, .int .u8 m] w fun e w' => e = .returned (.bool true) ∧ w.grownBy w' none := by
  obtain ⟨N, rfl⟩ := Int.eq_ofNat_of_zero_le hn0
  obtain ⟨M, rfl⟩ := Int.eq_ofNat_of_zero_le hm0
  obtain ⟨h1, h2, h3, h4⟩ := isRow_rd hr
  obtain ⟨h5, h6⟩ := row_none hr
  obtain ⟨xs, hxs⟩ : ∃ xs, xs = zs.take len := ⟨_, rfl⟩
  rw [← hxs] at h1 h2
  have HR := Lib.hid h1
  have HOX := Lib.hid h2
  have HN := Lib.hid h5
  have HKL := Lib.hid hk
  have HKO := Lib.hid hko
  have h63 : (len : Int) ≤ 9223372036854775807 := by omega
  clear hr h1 h2 h3 h4 h5 h6 hxs hk hko
  obtain ⟨p, hp⟩ : ∃ p, w.heap.size = p := ⟨_, rfl⟩
  have hk0 := (own_start w).ints .u8 26 32 key HKL.out hp
  have HK := Lib.hid hk0
  have HP := Lib.hid hp
  clear hk0 hp
  have hN8 : N ≤ 255 := by omega
  have hM8 : M ≤ 255 := by omega
  go_enter Try.func4, Try.ntmps4
  go_wp2_with fail
  rw [HP.out]
  refine (known_any _).mono ?_
  rintro e wn ⟨rfl, hg⟩
  have hkb := HK.out.grow hg
  clear hg
  clear HK
  have HK := Lib.hid hkb
  clear hkb
  by_cases hbig : (len : Int) > 100
  · go_wp2_with fail
    exact bodyPost_ret (results_tmp rfl _ _ _) rfl ⟨rfl, HK.out.grown⟩
  · have hlen : len ≤ 100 := by omega
    have HB := Lib.hid (fun (w' : World) (g : w.grownBy w' none) => (show (⟨ad, len, cap, xs⟩ : Bs).ok w' from ⟨HR.out.kept g, HOX.out, HN.out, (show len ≤ 3000 by omega)⟩))
    go_wp2_with (refine wpList_get_row rfl HK.out 26 _ rfl _ rfl _ _ _ _ (by first | exact Has.here _ | exact Has.next _ (Has.here _) | exact Has.next _ (Has.next _ (Has.here _)) | exact Has.next _ (Has.next _ (Has.next _ (Has.here _))) | exact Has.next _ (Has.next _ (Has.next _ (Has.next _ (Has.here _)))) | exact Has.next _ (Has.next _ (Has.next _ (Has.next _ (Has.next _ (Has.here _))))) | exact Has.next _ (Has.next _ (Has.next _ (Has.next _ (Has.next _ (Has.next _ (Has.here _)))))) | exact Has.next _ (Has.next _ (Has.next _ (Has.next _ (Has.next _ (Has.next _ (Has.next _ (Has.here _))))))) | exact Has.next _ (Has.next _ (Has.next _ (Has.next _ (Has.next _ (Has.next _ (Has.next _ (Has.next _ (Has.here _)))))))) | exact Has.next _ (Has.next _ (Has.next _ (Has.next _ (Has.next _ (Has.next _ (Has.next _ (Has.next _ (Has.next _ (Has.here _)))))))))) _ Try.underlying26 rfl (by kernel_rfl) ?_)
    refine (expand_any key ⟨ad, len, cap, xs⟩ N _ HKL.out HKO.out (HB.out _ HK.out.grown) (by omega)).mono ?_
    rintro e w2 ⟨a1, c1, rfl, hrd1, -, hc1, hm1', hg⟩
    have hkb := HK.out.grow hg
    clear hg
    clear HK
    have HK := Lib.hid hkb
    clear hkb
    have HR1 := Lib.hid hrd1
    clear hrd1
    go_wp2_with (refine wpList_get_row rfl HK.out 26 _ rfl _ rfl _ _ _ _ (by first | exact Has.here _ | exact Has.next _ (Has.here _) | exact Has.next _ (Has.next _ (Has.here _)) | exact Has.next _ (Has.next _ (Has.next _ (Has.here _))) | exact Has.next _ (Has.next _ (Has.next _ (Has.next _ (Has.here _)))) | exact Has.next _ (Has.next _ (Has.next _ (Has.next _ (Has.next _ (Has.here _))))) | exact Has.next _ (Has.next _ (Has.next _ (Has.next _ (Has.next _ (Has.next _ (Has.here _)))))) | exact Has.next _ (Has.next _ (Has.next _ (Has.next _ (Has.next _ (Has.next _ (Has.next _ (Has.here _))))))) | exact Has.next _ (Has.next _ (Has.next _ (Has.next _ (Has.next _ (Has.next _ (Has.next _ (Has.next _ (Has.here _)))))))) | exact Has.next _ (Has.next _ (Has.next _ (Has.next _ (Has.next _ (Has.next _ (Has.next _ (Has.next _ (Has.next _ (Has.here _)))))))))) _ Try.underlying26 rfl (by kernel_rfl) ?_)
    have hx := expand_any key ⟨ad, len, cap, xs⟩ (N + M) w2 HKL.out HKO.out (HB.out _ HK.out.grown) (by omega)
    rw [show ((N + M : Nat) : Int) = (N : Int) + (M : Int) by omega] at hx
    refine Calls.mono hx ?_
    clear hx
    rintro e w3 ⟨a2, c2, rfl, hrd2, -, hc2, hm2', hg⟩
    have hkb := HK.out.grow hg
    have hr1 := HR1.out.kept hg
    clear hg HR1
    clear HK
    have HK := Lib.hid hkb
    clear hkb
    have hr2 := rdfront hrd2 N (by omega)
    rw [show (expK key (⟨ad, len, cap, xs⟩ : Bs).xs (N + M)).take N = expK key xs N from expK_begins key xs N M] at hr2
    have HR1 := Lib.hid (show Rd .u8 w3 a1 N (expK key xs N) from hr1)
    have HR2 := Lib.hid hr2
    clear hr1 hr2 hrd2
    obtain ⟨E, hE⟩ : ∃ E, E = expK key xs N := ⟨_, rfl⟩
    rw [← hE] at HR1 HR2
    clear hE
    go_wp2_with (refine wpList_get_row rfl HK.out 26 _ rfl _ rfl _ _ _ _ (by first | exact Has.here _ | exact Has.next _ (Has.here _) | exact Has.next _ (Has.next _ (Has.here _)) | exact Has.next _ (Has.next _ (Has.next _ (Has.here _))) | exact Has.next _ (Has.next _ (Has.next _ (Has.next _ (Has.here _)))) | exact Has.next _ (Has.next _ (Has.next _ (Has.next _ (Has.next _ (Has.here _))))) | exact Has.next _ (Has.next _ (Has.next _ (Has.next _ (Has.next _ (Has.next _ (Has.here _)))))) | exact Has.next _ (Has.next _ (Has.next _ (Has.next _ (Has.next _ (Has.next _ (Has.next _ (Has.here _))))))) | exact Has.next _ (Has.next _ (Has.next _ (Has.next _ (Has.next _ (Has.next _ (Has.next _ (Has.next _ (Has.here _)))))))) | exact Has.next _ (Has.next _ (Has.next _ (Has.next _ (Has.next _ (Has.next _ (Has.next _ (Has.next _ (Has.next _ (Has.here _)))))))))) _ Try.underlying26 rfl (by kernel_rfl) ?_)
    refine (expand_no key (.slice ad len cap) (8161 + (M : Int)) _ HKL.out (.inr (by omega))).mono ?_
    rintro e w4 ⟨rfl, hg⟩
    have hkb := HK.out.grow hg
    have HR1' := Lib.hid (HR1.out.kept hg)
    have HR2' := Lib.hid (HR2.out.kept hg)
    clear hg HR1 HR2
    clear HK
    have HK := Lib.hid hkb
    clear hkb
    have hNc : N ≤ c2 := by omega
    have hNM : N ≤ N + M := by omega
    have hNi : (0 : Int) ≤ N := by omega
    have hMi : (0 : Int) ≤ M := by omega
    have hN9 : (N : Int) ≤ 255 := by omega
    have hM9 : (M : Int) ≤ 255 := by omega
    go_wp2_with fail
    refine wp_region_grow [(2, 0), (2, 1), (2, 2), (2, 3), (2, 4), (2, 5), (2, 6), (2, 7), (2, 8), (2, 9), (2, 10), (2, 11), (2, 12), (2, 13), (2, 14), (2, 15), (2, 16), (2, 17), (2, 18), (2, 19), (2, 20), (2, 21), (2, 22), (2, 23), (2, 24), (2, 25), (2, 26), (2, 27), (2, 28), (1, 29), (2, 30), (1, 31), (2, 32), (2, 33), (2, 34)] (by kernel_rfl) (by kernel_rfl) (fun _ _ _ _ _ h => h) (fun _ _ _ _ _ h => h) ?_
    refine gSeq_own HK.out fun wn hkn gn ein => ?_
    have HR1 := Lib.hid (HR1'.out.kept gn)
    have HR2 := Lib.hid (HR2'.out.kept gn)
    clear HK
    have HK := Lib.hid hkn
    clear hkn
    clear gn ein HR1' HR2'
    have q0 : IntKind.i64.wrap (N : Int) = N := IntWalk.i64_in _ (by omega)
    have q1 : IntKind.i64.wrap (M : Int) = M := IntWalk.i64_in _ (by omega)
    have q2 : IntKind.i64.wrap ((N : Int) + M) = (N : Int) + M := IntWalk.i64_in _ (by omega)
    (repeat (first | (refine gSeq_get_int rfl (by rfl) HK.out _ _ rfl _ _ rfl _ _ _ _ (by first | exact Has.here _ | exact Has.next _ (Has.here _) | exact Has.next _ (Has.next _ (Has.here _)) | exact Has.next _ (Has.next _ (Has.next _ (Has.here _))) | exact Has.next _ (Has.next _ (Has.next _ (Has.next _ (Has.here _)))) | exact Has.next _ (Has.next _ (Has.next _ (Has.next _ (Has.next _ (Has.here _))))) | exact Has.next _ (Has.next _ (Has.next _ (Has.next _ (Has.next _ (Has.next _ (Has.here _)))))) | exact Has.next _ (Has.next _ (Has.next _ (Has.next _ (Has.next _ (Has.next _ (Has.next _ (Has.here _))))))) | exact Has.next _ (Has.next _ (Has.next _ (Has.next _ (Has.next _ (Has.next _ (Has.next _ (Has.next _ (Has.here _)))))))) | exact Has.next _ (Has.next _ (Has.next _ (Has.next _ (Has.next _ (Has.next _ (Has.next _ (Has.next _ (Has.next _ (Has.here _)))))))))) rfl (by omega) ?_; (try simp only [Act.put, Act.eval, List.setIfInBounds_toArray, List.set_cons_zero, List.set_cons_succ, Array.getD_eq_getD_getElem?, List.getElem?_toArray, List.getElem?_cons_succ, List.getElem?_cons_zero, Option.getD_some])) | (refine gSeq_skip rfl (by rfl) ?_; (try simp only [Act.put, Act.eval, List.setIfInBounds_toArray, List.set_cons_zero, List.set_cons_succ, Array.getD_eq_getD_getElem?, List.getElem?_toArray, List.getElem?_cons_succ, List.getElem?_cons_zero, Option.getD_some])) | (refine gSeq_move _ rfl rfl (by rfl) ?_; (try simp only [Act.put, Act.eval, List.setIfInBounds_toArray, List.set_cons_zero, List.set_cons_succ, Array.getD_eq_getD_getElem?, List.getElem?_toArray, List.getElem?_cons_succ, List.getElem?_cons_zero, Option.getD_some])) | (refine gSeq_assign _ rfl rfl (by rfl) ?_; (try simp only [Act.put, Act.eval, List.setIfInBounds_toArray, List.set_cons_zero, List.set_cons_succ, Array.getD_eq_getD_getElem?, List.getElem?_toArray, List.getElem?_cons_succ, List.getElem?_cons_zero, Option.getD_some])) | (refine gSeq_pure rfl (by rfl) ?_ ?_ ?_; (rotate_left; (intro w'; (skip); go_simp; (first | done | with_reducible rfl)); (try simp only [Act.put, Act.eval, List.setIfInBounds_toArray, List.set_cons_zero, List.set_cons_succ, Array.getD_eq_getD_getElem?, List.getElem?_toArray, List.getElem?_cons_succ, List.getElem?_cons_zero, Option.getD_some]))) | ((first | (refine gSeq_string rfl (by rfl) _ _ _ rfl 5 Try.underlying22 Try.underlying5 Try.underlying9 _ _ _ rfl E HR2.out.1 HR2.out.2 ?_; (try simp only [Act.put, Act.eval, List.setIfInBounds_toArray, List.set_cons_zero, List.set_cons_succ, Array.getD_eq_getD_getElem?, List.getElem?_toArray, List.getElem?_cons_succ, List.getElem?_cons_zero, Option.getD_some])) | (refine gSeq_string rfl (by rfl) _ _ _ rfl 5 Try.underlying22 Try.underlying5 Try.underlying9 _ _ _ rfl E HR1.out.1 HR1.out.2 ?_; (try simp only [Act.put, Act.eval, List.setIfInBounds_toArray, List.set_cons_zero, List.set_cons_succ, Array.getD_eq_getD_getElem?, List.getElem?_toArray, List.getElem?_cons_succ, List.getElem?_cons_zero, Option.getD_some])))) | (refine gSeq_still rfl (by rfl) ?_ ?_ ?_; (rotate_left; (intro w' hG; (skip); go_simp; (first | done | with_reducible rfl)); (try simp only [Act.put, Act.eval, List.setIfInBounds_toArray, List.set_cons_zero, List.set_cons_succ, Array.getD_eq_getD_getElem?, List.getElem?_toArray, List.getElem?_cons_succ, List.getElem?_cons_zero, Option.getD_some])))))
    refine gSeq_nil ?_
    go_wp2_with fail
    exact bodyPost_ret (results_tmp rfl _ _ _) rfl ⟨rfl, HK.out.grown⟩
end Go.Proofs.Ytjogdbiaiflmpaa
