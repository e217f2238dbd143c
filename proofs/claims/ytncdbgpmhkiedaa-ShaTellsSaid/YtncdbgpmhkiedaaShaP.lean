/- ShaTells, walked. -/
import Derived.Test.YtncdbgpmhkiedaaShaO
import Derived.Test.YtncdbgpmhkiedaaShaG
import Derived.Test.YtncdbgpmhkiedaaShaL
import Derived.Deep.Cut
namespace Go.Proofs.Ytncdbgpmhkiedaa
set_option linter.unusedVariables false
set_option linter.unusedSimpArgs false
open Go.RowKit Go.Proofs.YtncdbgpmhkiedaaL

theorem isRow_none {w : World} {a : Option Addr} {len cap : Nat} {zs : List Int} (h : IsRow .u8 w a len cap zs) : (a = none → cap = 0) ∧ cap ≤ maxLen := by
  rcases h with ⟨rfl, rfl, rfl, rfl⟩ | ⟨x, rfl, hl, hm, hz, hc, hw⟩
  · exact ⟨fun _ => rfl, by unfold maxLen; omega⟩
  · exact ⟨fun h => (by cases h), hm⟩
theorem subAt_none {ad : Option Addr} {cap : Nat} (h : ad = none → cap = 0) (l : Nat) : subAt ad l cap = none → cap - l = 0 := fun hs => by
  unfold subAt at hs
  split at hs
  · omega
  · cases ad with
    | none => have := h rfl; omega
    | some x => simp at hs
theorem okB_take {B : Int} {s : List Int} (h : okB B s) (n : Nat) : okB B (s.take n) := fun x hx => h x (List.mem_of_mem_take hx)
/-- The part from i to k of a slice. -/
def partB (ad : Option Addr) (cap : Nat) (xs : List Int) (i k : Nat) : Bs := ⟨subAt ad i cap, k - i, cap - i, (xs.drop i).take (k - i)⟩
theorem part_ok {w : World} {ad : Option Addr} {len cap : Nat} {xs : List Int} (h : Rd .u8 w ad len xs) (ho : okB 256 xs) (hn : ad = none → cap = 0) (hlc : len ≤ cap) (hl : len ≤ 3000) (i k : Nat) (hik : i ≤ k) (hk : k ≤ len) : (partB ad cap xs i k).ok w :=
  ⟨rd_front (rd_drop' h i (by omega) hlc) (k - i) (by omega), okB_take (ok_drop' ho i) _, subAt_none hn i, (show k - i ≤ 3000 by omega)⟩
theorem parts3 (xs : List Int) (i k n : Nat) (hik : i ≤ k) (hk : k ≤ n) (hn : xs.length = n) : (xs.drop 0).take (i - 0) ++ ((xs.drop i).take (k - i) ++ (xs.drop k).take (n - k)) = xs := by
  rw [List.drop_zero, Nat.sub_zero, List.take_of_length_le (l := xs.drop k) (by rw [List.length_drop, hn]; omega)]
  rw [show xs.drop k = (xs.drop i).drop (k - i) by rw [List.drop_drop]; congr 1; omega, List.take_append_drop, List.take_append_drop]
def nilB : Bs := ⟨none, 0, 0, []⟩
theorem nilB_ok (w : World) : nilB.ok w := ⟨⟨rfl, fun j hj => absurd hj (Nat.not_lt_zero _)⟩, (fun x hx => by cases hx), (fun _ => rfl), (show 0 ≤ 3000 by omega)⟩

theorem cat3 (xs : List Int) (i k n : Nat) (hik : i ≤ k) (hk : k ≤ n) (hn : xs.length = n) : xs.take i ++ ((xs.drop i).take (k - i) ++ xs.drop k) = xs := by
  rw [show xs.drop k = (xs.drop i).drop (k - i) by rw [List.drop_drop]; congr 1; omega, List.take_append_drop, List.take_append_drop]
theorem cat_01n3 (xs : List Int) (i k n : Nat) (ad a1 a3 : Option Addr) (hik : i ≤ k) (hk : k ≤ n) (hn : xs.length = n) (cap : Nat) : catB [(⟨ad, i, cap, xs.take i⟩ : Bs), (⟨a1, k - i, cap - i, (xs.drop i).take (k - i)⟩ : Bs), (⟨none, 0, 0, []⟩ : Bs), (⟨a3, n - k, cap - k, xs.drop k⟩ : Bs)] = xs := by
  simp only [catB, List.append_nil, List.nil_append]
  exact cat3 xs i k n hik hk hn
theorem cat_0n13 (xs : List Int) (i k n : Nat) (ad a1 a3 : Option Addr) (hik : i ≤ k) (hk : k ≤ n) (hn : xs.length = n) (cap : Nat) : catB [(⟨ad, i, cap, xs.take i⟩ : Bs), (⟨none, 0, 0, []⟩ : Bs), (⟨a1, k - i, cap - i, (xs.drop i).take (k - i)⟩ : Bs), (⟨a3, n - k, cap - k, xs.drop k⟩ : Bs)] = xs := by
  simp only [catB, List.append_nil, List.nil_append]
  exact cat3 xs i k n hik hk hn
theorem four_ok {w : World} {b0 b1 b2 b3 : Bs} (b : Bs) (hb : b ∈ [b0, b1, b2, b3]) (h0 : b0.ok w) (h1 : b1.ok w) (h2 : b2.ok w) (h3 : b3.ok w) : b.ok w := by
  simp only [List.mem_cons, List.not_mem_nil, or_false] at hb
  rcases hb with rfl | rfl | rfl | rfl
  · exact h0
  · exact h1
  · exact h2
  · exact h3

set_option maxHeartbeats 8000000 in
set_option maxRecDepth 100000 in
theorem tells_walk (ad : Option Addr) (len cap : Nat) (zs : List Int) (a1 a2 : Int) (w : World) (hr : IsRow .u8 w ad len cap zs) (ha0 : 0 ≤ a1) (ha1 : a1 < 65536) (hb0 : 0 ≤ a2) (hb1 : a2 < 65536) :
    Calls Try.prog 3 #[.slice ad len cap, .int .u16 a1, .int .u16 a2] w fun e w' => e = .returned (.bool true) ∧ w.grownBy w' none := by
  obtain ⟨h1, h2, h3, h4⟩ := isRow_rd hr
  obtain ⟨h5, h6⟩ := isRow_none hr
  obtain ⟨xs, hxs⟩ : ∃ xs, xs = zs.take len := ⟨_, rfl⟩
  rw [← hxs] at h1 h2
  have HR := Lib.hid h1
  have HOX := Lib.hid h2
  have HLC := Lib.hid h3
  have HN := Lib.hid h5
  have HCM := Lib.hid h6
  have h63 : (len : Int) ≤ 9223372036854775807 := by omega
  clear hr h1 h2 h3 h4 h5 h6 hxs
  have HK := Lib.hid (own_start w)
  go_enter Try.func3, Try.ntmps3
  go_wp2_with fail
  refine (known_any _).mono ?_
  rintro e w1 ⟨rfl, hg⟩
  have hk := HK.out.grow hg
  clear hg
  clear HK
  have HK := Lib.hid hk
  clear hk
  by_cases hbig : (len : Int) > 400
  · go_wp2_with fail
    exact bodyPost_ret (results_tmp rfl _ _ _) rfl ⟨rfl, HK.out.grown⟩
  · have hlen : len ≤ 400 := by omega
    have hlen' : (len : Int) ≤ 400 := by omega
    obtain ⟨i, hi, hil⟩ : ∃ i : Nat, a1 % ((len : Int) + 1) = i ∧ i ≤ len := by
      have h1 := Int.emod_nonneg a1 (show (len : Int) + 1 ≠ 0 by omega)
      have h2 := Int.emod_lt_of_pos a1 (show (0 : Int) < (len : Int) + 1 by omega)
      exact ⟨(a1 % ((len : Int) + 1)).toNat, by omega, by omega⟩
    obtain ⟨k, hk, hkl⟩ : ∃ i : Nat, a2 % ((len : Int) + 1) = i ∧ i ≤ len := by
      have h1 := Int.emod_nonneg a2 (show (len : Int) + 1 ≠ 0 by omega)
      have h2 := Int.emod_lt_of_pos a2 (show (0 : Int) < (len : Int) + 1 by omega)
      exact ⟨(a2 % ((len : Int) + 1)).toNat, by omega, by omega⟩
    have HI := Lib.hid hi
    have HKK := Lib.hid hk
    clear hi hk
    go_wp2_with fail
    refine wp_region_grow [(2, 0), (2, 1), (2, 2), (2, 3), (2, 4), (2, 5), (2, 6), (2, 7), (2, 8), (2, 9), (2, 10), (2, 11), (2, 12), (2, 13)] (by kernel_rfl) (by kernel_rfl) (fun _ _ _ _ _ h => h) (fun _ _ _ _ _ h => h) ?_
    refine gSeq_own HK.out fun wn hkn gn ein => ?_
    have HKN := Lib.hid hkn
    clear hkn HK
    have HK := HKN
    clear HKN
    clear gn ein
    have q0 : IntKind.i64.wrap ((len : Int) + 1) = (len : Int) + 1 := IntWalk.i64_in _ (by omega)
    have q1 : IntKind.i64.wrap a1 = a1 := IntWalk.i64_in _ (by omega)
    have q2 : IntKind.i64.wrap a2 = a2 := IntWalk.i64_in _ (by omega)
    have q3 : ¬ (len : Int) + 1 = 0 := by omega
    have q4 : a1.tmod ((len : Int) + 1) = i := by rw [Int.tmod_eq_emod_of_nonneg ha0, HI.out]
    have q5 : a2.tmod ((len : Int) + 1) = k := by rw [Int.tmod_eq_emod_of_nonneg hb0, HKK.out]
    have q6 : IntKind.i64.wrap (i : Int) = i := IntWalk.i64_in _ (by omega)
    have q7 : IntKind.i64.wrap (k : Int) = k := IntWalk.i64_in _ (by omega)
    (repeat (first | (refine gSeq_get_int rfl (by rfl) HK.out _ _ rfl _ _ rfl _ _ _ _ (by first | exact Has.here _ | exact Has.next _ (Has.here _) | exact Has.next _ (Has.next _ (Has.here _)) | exact Has.next _ (Has.next _ (Has.next _ (Has.here _))) | exact Has.next _ (Has.next _ (Has.next _ (Has.next _ (Has.here _)))) | exact Has.next _ (Has.next _ (Has.next _ (Has.next _ (Has.next _ (Has.here _))))) | exact Has.next _ (Has.next _ (Has.next _ (Has.next _ (Has.next _ (Has.next _ (Has.here _)))))) | exact Has.next _ (Has.next _ (Has.next _ (Has.next _ (Has.next _ (Has.next _ (Has.next _ (Has.here _))))))) | exact Has.next _ (Has.next _ (Has.next _ (Has.next _ (Has.next _ (Has.next _ (Has.next _ (Has.next _ (Has.here _)))))))) | exact Has.next _ (Has.next _ (Has.next _ (Has.next _ (Has.next _ (Has.next _ (Has.next _ (Has.next _ (Has.next _ (Has.here _)))))))))) rfl (by omega) ?_; (try simp only [Act.put, Act.eval, List.setIfInBounds_toArray, List.set_cons_zero, List.set_cons_succ, Array.getD_eq_getD_getElem?, List.getElem?_toArray, List.getElem?_cons_succ, List.getElem?_cons_zero, Option.getD_some])) | (refine gSeq_skip rfl (by rfl) ?_; (try simp only [Act.put, Act.eval, List.setIfInBounds_toArray, List.set_cons_zero, List.set_cons_succ, Array.getD_eq_getD_getElem?, List.getElem?_toArray, List.getElem?_cons_succ, List.getElem?_cons_zero, Option.getD_some])) | (refine gSeq_move _ rfl rfl (by rfl) ?_; (try simp only [Act.put, Act.eval, List.setIfInBounds_toArray, List.set_cons_zero, List.set_cons_succ, Array.getD_eq_getD_getElem?, List.getElem?_toArray, List.getElem?_cons_succ, List.getElem?_cons_zero, Option.getD_some])) | (refine gSeq_assign _ rfl rfl (by rfl) ?_; (try simp only [Act.put, Act.eval, List.setIfInBounds_toArray, List.set_cons_zero, List.set_cons_succ, Array.getD_eq_getD_getElem?, List.getElem?_toArray, List.getElem?_cons_succ, List.getElem?_cons_zero, Option.getD_some])) | (refine gSeq_pure rfl (by rfl) ?_ ?_ ?_; (rotate_left; (intro w'; (skip); go_simp; (first | done | with_reducible rfl)); (try simp only [Act.put, Act.eval, List.setIfInBounds_toArray, List.set_cons_zero, List.set_cons_succ, Array.getD_eq_getD_getElem?, List.getElem?_toArray, List.getElem?_cons_succ, List.getElem?_cons_zero, Option.getD_some]))) | (fail) | (refine gSeq_still rfl (by rfl) ?_ ?_ ?_; (rotate_left; (intro w' hG; (skip); go_simp; (first | done | with_reducible rfl)); (try simp only [Act.put, Act.eval, List.setIfInBounds_toArray, List.set_cons_zero, List.set_cons_succ, Array.getD_eq_getD_getElem?, List.getElem?_toArray, List.getElem?_cons_succ, List.getElem?_cons_zero, Option.getD_some])))))
    refine gSeq_nil ?_
    clear q0 q1 q2 q3 q4 q5 q6 q7
    go_upto_if 30 with fail
    generalize hbb : decide (k < i) = bb
    have HBB := Lib.hid hbb
    clear hbb
    go_cut [7, 8] from 31 (fun s7 s8 wx => ∃ i k : Nat, i ≤ k ∧ k ≤ len ∧ s7 = .int .i64 i ∧ s8 = .int .i64 k ∧ Hid (Own w wx []))
    case first =>
      cases bb with
      | true =>
        have hx := of_decide_eq_true HBB.out
        have HX := Lib.hid hx
        clear hx HBB
        go_wp2_with fail
        go_meet
        case rel => exact ⟨k, i, by have := HX.out; omega, hil, rfl, rfl, HK⟩
      | false =>
        have HX := Lib.hid (of_decide_eq_false HBB.out)
        clear HBB
        go_wp2_with fail
        go_meet
        case rel => exact ⟨i, k, by have := HX.out; omega, hkl, rfl, rfl, HK⟩
    case rest =>
      clear HI HKK hil hkl HBB
      obtain ⟨i, k, hik, hkl, rfl, rfl, HK'⟩ := hcut
      clear HK
      have HK := HK'
      clear HK'
      have hB : ∀ {w'}, w.grownBy w' none → (⟨ad, len, cap, xs⟩ : Bs).ok w' := fun g => ⟨HR.out.kept g, HOX.out, HN.out, (show len ≤ 3000 by omega)⟩
      have HB := Lib.hid (fun w' => @hB w')
      clear hB
      go_wp2_with fail
      refine (rsum256_any ⟨ad, len, cap, xs⟩ _ (HB.out _ HK.out.grown)).mono ?_
      rintro e w2 ⟨rfl, hg⟩
      have hk := HK.out.grow hg
      clear hg
      clear HK
      have HK := Lib.hid hk
      clear hk
      go_wp2_with fail
      refine (rsum512_any ⟨ad, len, cap, xs⟩ _ (HB.out _ HK.out.grown)).mono ?_
      rintro e w3 ⟨rfl, hg⟩
      have hk := HK.out.grow hg
      clear hg
      clear HK
      have HK := Lib.hid hk
      clear hk
      go_wp2_with ((refine wpList_new_ints rfl HK.out _ rfl .u8 25 32 (zer 32) (length_zer _) (fun w => by go_simp; first | exact ⟨rfl, rfl⟩ | kernel_rfl) ?_))
      intro wn px hkn
      have HKN := Lib.hid hkn
      clear hkn HK
      have HK := HKN
      clear HKN
      go_wp2_with ((refine wpList_new_ints rfl HK.out _ rfl .u8 27 64 (zer 64) (length_zer _) (fun w => by go_simp; first | exact ⟨rfl, rfl⟩ | kernel_rfl) ?_))
      intro wn py hkn
      have HKN := Lib.hid hkn
      clear hkn HK
      have HK := HKN
      clear HKN
      obtain ⟨S, hS⟩ : ∃ S, S = sum32 xs := ⟨_, rfl⟩
      obtain ⟨T, hT⟩ : ∃ T, T = sum64 xs := ⟨_, rfl⟩
      rw [← hS, ← hT]
      have HSL := Lib.hid (show S.length = 32 by rw [hS, length_sum32])
      have HTL := Lib.hid (show T.length = 64 by rw [hT, length_sum64])
      have HS := Lib.hid hS
      have HT := Lib.hid hT
      clear hS hT
      go_wp2_with (first | (refine wpList_put_row rfl HK.out 25 _ _ rfl _ _ S rfl rfl _ _ _ (by first | exact Upd.here _ | exact Upd.next _ (Upd.here _) | exact Upd.next _ (Upd.next _ (Upd.here _)) | exact Upd.next _ (Upd.next _ (Upd.next _ (Upd.here _))) | exact Upd.next _ (Upd.next _ (Upd.next _ (Upd.next _ (Upd.here _)))) | exact Upd.next _ (Upd.next _ (Upd.next _ (Upd.next _ (Upd.next _ (Upd.here _))))) | exact Upd.next _ (Upd.next _ (Upd.next _ (Upd.next _ (Upd.next _ (Upd.next _ (Upd.here _)))))) | exact Upd.next _ (Upd.next _ (Upd.next _ (Upd.next _ (Upd.next _ (Upd.next _ (Upd.next _ (Upd.here _))))))) | exact Upd.next _ (Upd.next _ (Upd.next _ (Upd.next _ (Upd.next _ (Upd.next _ (Upd.next _ (Upd.next _ (Upd.here _)))))))) | exact Upd.next _ (Upd.next _ (Upd.next _ (Upd.next _ (Upd.next _ (Upd.next _ (Upd.next _ (Upd.next _ (Upd.next _ (Upd.here _)))))))))) (by exact HSL.out) (by kernel_rfl) ?_; (intro wn hkn; have HKN := Lib.hid hkn; clear hkn; clear HK; have HK := HKN; clear HKN)) | (refine wpList_put_row rfl HK.out 27 _ _ rfl _ _ T rfl rfl _ _ _ (by first | exact Upd.here _ | exact Upd.next _ (Upd.here _) | exact Upd.next _ (Upd.next _ (Upd.here _)) | exact Upd.next _ (Upd.next _ (Upd.next _ (Upd.here _))) | exact Upd.next _ (Upd.next _ (Upd.next _ (Upd.next _ (Upd.here _)))) | exact Upd.next _ (Upd.next _ (Upd.next _ (Upd.next _ (Upd.next _ (Upd.here _))))) | exact Upd.next _ (Upd.next _ (Upd.next _ (Upd.next _ (Upd.next _ (Upd.next _ (Upd.here _)))))) | exact Upd.next _ (Upd.next _ (Upd.next _ (Upd.next _ (Upd.next _ (Upd.next _ (Upd.next _ (Upd.here _))))))) | exact Upd.next _ (Upd.next _ (Upd.next _ (Upd.next _ (Upd.next _ (Upd.next _ (Upd.next _ (Upd.next _ (Upd.here _)))))))) | exact Upd.next _ (Upd.next _ (Upd.next _ (Upd.next _ (Upd.next _ (Upd.next _ (Upd.next _ (Upd.next _ (Upd.next _ (Upd.here _)))))))))) (by exact HTL.out) (by kernel_rfl) ?_; (intro wn hkn; have HKN := Lib.hid hkn; clear hkn; clear HK; have HK := HKN; clear HKN)))
      refine wp_region_grow [(2, 0), (1, 3), (0, 1), (0, 2), (2, 4), (2, 5), (2, 6), (1, 9), (0, 7), (0, 8), (2, 10), (2, 11), (2, 12), (2, 13), (2, 14), (2, 15), (2, 16), (2, 17), (2, 18), (2, 19), (2, 20), (2, 21), (2, 22), (1, 25), (0, 23), (0, 24), (2, 26), (2, 27), (2, 28), (2, 29), (2, 30), (2, 31), (2, 32), (2, 33), (2, 34), (2, 35), (2, 36), (2, 37), (2, 38), (1, 41), (0, 39), (0, 40), (2, 42), (2, 43), (2, 44)] (by kernel_rfl) (by kernel_rfl) (fun _ _ _ _ _ h => h) (fun _ _ _ _ _ h => h) ?_
      refine gSeq_own HK.out fun wn hkn gn ein => ?_
      have HKN := Lib.hid hkn
      clear hkn HK
      have HK := HKN
      clear HKN
      clear gn ein
      have hik' : (i : Int) ≤ k := by omega
      have hkl' : (k : Int) ≤ len := by omega
      have hlc : len ≤ cap := HLC.out
      have hlc' : (len : Int) ≤ cap := by omega
      have hkc : k ≤ cap := by omega
      have hic : i ≤ cap := by omega
      (repeat (first | (refine gSeq_get_int rfl (by rfl) HK.out _ _ rfl _ _ rfl _ _ _ _ (by first | exact Has.here _ | exact Has.next _ (Has.here _) | exact Has.next _ (Has.next _ (Has.here _)) | exact Has.next _ (Has.next _ (Has.next _ (Has.here _))) | exact Has.next _ (Has.next _ (Has.next _ (Has.next _ (Has.here _)))) | exact Has.next _ (Has.next _ (Has.next _ (Has.next _ (Has.next _ (Has.here _))))) | exact Has.next _ (Has.next _ (Has.next _ (Has.next _ (Has.next _ (Has.next _ (Has.here _)))))) | exact Has.next _ (Has.next _ (Has.next _ (Has.next _ (Has.next _ (Has.next _ (Has.next _ (Has.here _))))))) | exact Has.next _ (Has.next _ (Has.next _ (Has.next _ (Has.next _ (Has.next _ (Has.next _ (Has.next _ (Has.here _)))))))) | exact Has.next _ (Has.next _ (Has.next _ (Has.next _ (Has.next _ (Has.next _ (Has.next _ (Has.next _ (Has.next _ (Has.here _)))))))))) rfl (by omega) ?_; (try simp only [Act.put, Act.eval, List.setIfInBounds_toArray, List.set_cons_zero, List.set_cons_succ, Array.getD_eq_getD_getElem?, List.getElem?_toArray, List.getElem?_cons_succ, List.getElem?_cons_zero, Option.getD_some])) | (refine gSeq_skip rfl (by rfl) ?_; (try simp only [Act.put, Act.eval, List.setIfInBounds_toArray, List.set_cons_zero, List.set_cons_succ, Array.getD_eq_getD_getElem?, List.getElem?_toArray, List.getElem?_cons_succ, List.getElem?_cons_zero, Option.getD_some])) | (refine gSeq_move _ rfl rfl (by rfl) ?_; (try simp only [Act.put, Act.eval, List.setIfInBounds_toArray, List.set_cons_zero, List.set_cons_succ, Array.getD_eq_getD_getElem?, List.getElem?_toArray, List.getElem?_cons_succ, List.getElem?_cons_zero, Option.getD_some])) | (refine gSeq_assign _ rfl rfl (by rfl) ?_; (try simp only [Act.put, Act.eval, List.setIfInBounds_toArray, List.set_cons_zero, List.set_cons_succ, Array.getD_eq_getD_getElem?, List.getElem?_toArray, List.getElem?_cons_succ, List.getElem?_cons_zero, Option.getD_some])) | (refine gSeq_pure rfl (by rfl) ?_ ?_ ?_; (rotate_left; (intro w'; (skip); go_simp; (first | done | with_reducible rfl)); (try simp only [Act.put, Act.eval, List.setIfInBounds_toArray, List.set_cons_zero, List.set_cons_succ, Array.getD_eq_getD_getElem?, List.getElem?_toArray, List.getElem?_cons_succ, List.getElem?_cons_zero, Option.getD_some]))) | ((first | (refine gSeq_get_row rfl (by rfl) HK.out 25 _ rfl _ rfl _ _ _ _ (by first | exact Has.here _ | exact Has.next _ (Has.here _) | exact Has.next _ (Has.next _ (Has.here _)) | exact Has.next _ (Has.next _ (Has.next _ (Has.here _))) | exact Has.next _ (Has.next _ (Has.next _ (Has.next _ (Has.here _)))) | exact Has.next _ (Has.next _ (Has.next _ (Has.next _ (Has.next _ (Has.here _))))) | exact Has.next _ (Has.next _ (Has.next _ (Has.next _ (Has.next _ (Has.next _ (Has.here _)))))) | exact Has.next _ (Has.next _ (Has.next _ (Has.next _ (Has.next _ (Has.next _ (Has.next _ (Has.here _))))))) | exact Has.next _ (Has.next _ (Has.next _ (Has.next _ (Has.next _ (Has.next _ (Has.next _ (Has.next _ (Has.here _)))))))) | exact Has.next _ (Has.next _ (Has.next _ (Has.next _ (Has.next _ (Has.next _ (Has.next _ (Has.next _ (Has.next _ (Has.here _)))))))))) _ Try.underlying25 rfl (by kernel_rfl) ?_; (try simp only [Act.put, Act.eval, List.setIfInBounds_toArray, List.set_cons_zero, List.set_cons_succ, Array.getD_eq_getD_getElem?, List.getElem?_toArray, List.getElem?_cons_succ, List.getElem?_cons_zero, Option.getD_some])) | (refine gSeq_get_row rfl (by rfl) HK.out 27 _ rfl _ rfl _ _ _ _ (by first | exact Has.here _ | exact Has.next _ (Has.here _) | exact Has.next _ (Has.next _ (Has.here _)) | exact Has.next _ (Has.next _ (Has.next _ (Has.here _))) | exact Has.next _ (Has.next _ (Has.next _ (Has.next _ (Has.here _)))) | exact Has.next _ (Has.next _ (Has.next _ (Has.next _ (Has.next _ (Has.here _))))) | exact Has.next _ (Has.next _ (Has.next _ (Has.next _ (Has.next _ (Has.next _ (Has.here _)))))) | exact Has.next _ (Has.next _ (Has.next _ (Has.next _ (Has.next _ (Has.next _ (Has.next _ (Has.here _))))))) | exact Has.next _ (Has.next _ (Has.next _ (Has.next _ (Has.next _ (Has.next _ (Has.next _ (Has.next _ (Has.here _)))))))) | exact Has.next _ (Has.next _ (Has.next _ (Has.next _ (Has.next _ (Has.next _ (Has.next _ (Has.next _ (Has.next _ (Has.here _)))))))))) _ Try.underlying27 rfl (by kernel_rfl) ?_; (try simp only [Act.put, Act.eval, List.setIfInBounds_toArray, List.set_cons_zero, List.set_cons_succ, Array.getD_eq_getD_getElem?, List.getElem?_toArray, List.getElem?_cons_succ, List.getElem?_cons_zero, Option.getD_some])))) | (refine gSeq_still rfl (by rfl) ?_ ?_ ?_; (rotate_left; (intro w' hG; (skip); go_simp; (first | done | with_reducible rfl)); (try simp only [Act.put, Act.eval, List.setIfInBounds_toArray, List.set_cons_zero, List.set_cons_succ, Array.getD_eq_getD_getElem?, List.getElem?_toArray, List.getElem?_cons_succ, List.getElem?_cons_zero, Option.getD_some])))))
      (refine gSeq_do rfl (by rfl) (fun K hK => ?_)); go_simp
      obtain ⟨sb, hsb⟩ : ∃ sb, wn.heap.size = sb := ⟨_, rfl⟩
      have hkb := HK.out.blk (.cells #[Value.slice ad len cap] 22 (0, 0)) hsb
      rw [hsb]
      clear hsb
      refine hK _ _ (World.grownBy_alloc _ _ _) ?_
      clear hK K
      (try simp only [Act.put, Act.eval, List.setIfInBounds_toArray, List.set_cons_zero, List.set_cons_succ, Array.getD_eq_getD_getElem?, List.getElem?_toArray, List.getElem?_cons_succ, List.getElem?_cons_zero, Option.getD_some])
      generalize wn.alloc (.cells #[Value.slice ad len cap] 22 (0, 0)) = wn at hkb ⊢
      clear HK
      have HK := Lib.hid hkb
      clear hkb
      (refine gSeq_do rfl (by rfl) (fun K hK => ?_)); go_simp
      refine (sum256_row _ [⟨ad, len, cap, xs⟩] 1 _ (HK.out.at (.here _)) (fun b hb => by rw [List.mem_singleton] at hb; subst hb; exact HB.out _ HK.out.grown) rfl (by decide)).mono ?_
      rintro e wn ⟨rfl, hg⟩
      rw [show catB [(⟨ad, len, cap, xs⟩ : Bs)] = xs from List.append_nil _, ← HS.out]
      refine hK _ _ hg ?_
      clear hK K
      (try simp only [Act.put, Act.eval, List.setIfInBounds_toArray, List.set_cons_zero, List.set_cons_succ, Array.getD_eq_getD_getElem?, List.getElem?_toArray, List.getElem?_cons_succ, List.getElem?_cons_zero, Option.getD_some])
      have hkb := (HK.out.sub (List.Sublist.cons _ (List.Sublist.refl _))).grow hg
      clear hg
      clear HK
      have HK := Lib.hid hkb
      clear hkb
      (refine gSeq_eql rfl (by rfl) 25 _ _ _ rfl _ _ _ Try.underlying25 Try.underlying5 (by kernel_rfl) (by kernel_rfl) S S rfl rfl HSL.out HSL.out true (by simp) ?_; (try simp only [Act.put, Act.eval, List.setIfInBounds_toArray, List.set_cons_zero, List.set_cons_succ, Array.getD_eq_getD_getElem?, List.getElem?_toArray, List.getElem?_cons_succ, List.getElem?_cons_zero, Option.getD_some]))
      (repeat (first | (refine gSeq_get_int rfl (by rfl) HK.out _ _ rfl _ _ rfl _ _ _ _ (by first | exact Has.here _ | exact Has.next _ (Has.here _) | exact Has.next _ (Has.next _ (Has.here _)) | exact Has.next _ (Has.next _ (Has.next _ (Has.here _))) | exact Has.next _ (Has.next _ (Has.next _ (Has.next _ (Has.here _)))) | exact Has.next _ (Has.next _ (Has.next _ (Has.next _ (Has.next _ (Has.here _))))) | exact Has.next _ (Has.next _ (Has.next _ (Has.next _ (Has.next _ (Has.next _ (Has.here _)))))) | exact Has.next _ (Has.next _ (Has.next _ (Has.next _ (Has.next _ (Has.next _ (Has.next _ (Has.here _))))))) | exact Has.next _ (Has.next _ (Has.next _ (Has.next _ (Has.next _ (Has.next _ (Has.next _ (Has.next _ (Has.here _)))))))) | exact Has.next _ (Has.next _ (Has.next _ (Has.next _ (Has.next _ (Has.next _ (Has.next _ (Has.next _ (Has.next _ (Has.here _)))))))))) rfl (by omega) ?_; (try simp only [Act.put, Act.eval, List.setIfInBounds_toArray, List.set_cons_zero, List.set_cons_succ, Array.getD_eq_getD_getElem?, List.getElem?_toArray, List.getElem?_cons_succ, List.getElem?_cons_zero, Option.getD_some])) | (refine gSeq_skip rfl (by rfl) ?_; (try simp only [Act.put, Act.eval, List.setIfInBounds_toArray, List.set_cons_zero, List.set_cons_succ, Array.getD_eq_getD_getElem?, List.getElem?_toArray, List.getElem?_cons_succ, List.getElem?_cons_zero, Option.getD_some])) | (refine gSeq_move _ rfl rfl (by rfl) ?_; (try simp only [Act.put, Act.eval, List.setIfInBounds_toArray, List.set_cons_zero, List.set_cons_succ, Array.getD_eq_getD_getElem?, List.getElem?_toArray, List.getElem?_cons_succ, List.getElem?_cons_zero, Option.getD_some])) | (refine gSeq_assign _ rfl rfl (by rfl) ?_; (try simp only [Act.put, Act.eval, List.setIfInBounds_toArray, List.set_cons_zero, List.set_cons_succ, Array.getD_eq_getD_getElem?, List.getElem?_toArray, List.getElem?_cons_succ, List.getElem?_cons_zero, Option.getD_some])) | (refine gSeq_pure rfl (by rfl) ?_ ?_ ?_; (rotate_left; (intro w'; (skip); go_simp; (first | done | with_reducible rfl)); (try simp only [Act.put, Act.eval, List.setIfInBounds_toArray, List.set_cons_zero, List.set_cons_succ, Array.getD_eq_getD_getElem?, List.getElem?_toArray, List.getElem?_cons_succ, List.getElem?_cons_zero, Option.getD_some]))) | ((first | (refine gSeq_get_row rfl (by rfl) HK.out 25 _ rfl _ rfl _ _ _ _ (by first | exact Has.here _ | exact Has.next _ (Has.here _) | exact Has.next _ (Has.next _ (Has.here _)) | exact Has.next _ (Has.next _ (Has.next _ (Has.here _))) | exact Has.next _ (Has.next _ (Has.next _ (Has.next _ (Has.here _)))) | exact Has.next _ (Has.next _ (Has.next _ (Has.next _ (Has.next _ (Has.here _))))) | exact Has.next _ (Has.next _ (Has.next _ (Has.next _ (Has.next _ (Has.next _ (Has.here _)))))) | exact Has.next _ (Has.next _ (Has.next _ (Has.next _ (Has.next _ (Has.next _ (Has.next _ (Has.here _))))))) | exact Has.next _ (Has.next _ (Has.next _ (Has.next _ (Has.next _ (Has.next _ (Has.next _ (Has.next _ (Has.here _)))))))) | exact Has.next _ (Has.next _ (Has.next _ (Has.next _ (Has.next _ (Has.next _ (Has.next _ (Has.next _ (Has.next _ (Has.here _)))))))))) _ Try.underlying25 rfl (by kernel_rfl) ?_; (try simp only [Act.put, Act.eval, List.setIfInBounds_toArray, List.set_cons_zero, List.set_cons_succ, Array.getD_eq_getD_getElem?, List.getElem?_toArray, List.getElem?_cons_succ, List.getElem?_cons_zero, Option.getD_some])) | (refine gSeq_get_row rfl (by rfl) HK.out 27 _ rfl _ rfl _ _ _ _ (by first | exact Has.here _ | exact Has.next _ (Has.here _) | exact Has.next _ (Has.next _ (Has.here _)) | exact Has.next _ (Has.next _ (Has.next _ (Has.here _))) | exact Has.next _ (Has.next _ (Has.next _ (Has.next _ (Has.here _)))) | exact Has.next _ (Has.next _ (Has.next _ (Has.next _ (Has.next _ (Has.here _))))) | exact Has.next _ (Has.next _ (Has.next _ (Has.next _ (Has.next _ (Has.next _ (Has.here _)))))) | exact Has.next _ (Has.next _ (Has.next _ (Has.next _ (Has.next _ (Has.next _ (Has.next _ (Has.here _))))))) | exact Has.next _ (Has.next _ (Has.next _ (Has.next _ (Has.next _ (Has.next _ (Has.next _ (Has.next _ (Has.here _)))))))) | exact Has.next _ (Has.next _ (Has.next _ (Has.next _ (Has.next _ (Has.next _ (Has.next _ (Has.next _ (Has.next _ (Has.here _)))))))))) _ Try.underlying27 rfl (by kernel_rfl) ?_; (try simp only [Act.put, Act.eval, List.setIfInBounds_toArray, List.set_cons_zero, List.set_cons_succ, Array.getD_eq_getD_getElem?, List.getElem?_toArray, List.getElem?_cons_succ, List.getElem?_cons_zero, Option.getD_some])))) | (refine gSeq_still rfl (by rfl) ?_ ?_ ?_; (rotate_left; (intro w' hG; (skip); go_simp; (first | done | with_reducible rfl)); (try simp only [Act.put, Act.eval, List.setIfInBounds_toArray, List.set_cons_zero, List.set_cons_succ, Array.getD_eq_getD_getElem?, List.getElem?_toArray, List.getElem?_cons_succ, List.getElem?_cons_zero, Option.getD_some])))))
      (refine gSeq_do rfl (by rfl) (fun K hK => ?_)); go_simp
      obtain ⟨sb, hsb⟩ : ∃ sb, wn.heap.size = sb := ⟨_, rfl⟩
      have hkb := HK.out.blk (.cells #[Value.slice ad len cap] 22 (0, 0)) hsb
      rw [hsb]
      clear hsb
      refine hK _ _ (World.grownBy_alloc _ _ _) ?_
      clear hK K
      (try simp only [Act.put, Act.eval, List.setIfInBounds_toArray, List.set_cons_zero, List.set_cons_succ, Array.getD_eq_getD_getElem?, List.getElem?_toArray, List.getElem?_cons_succ, List.getElem?_cons_zero, Option.getD_some])
      generalize wn.alloc (.cells #[Value.slice ad len cap] 22 (0, 0)) = wn at hkb ⊢
      clear HK
      have HK := Lib.hid hkb
      clear hkb
      (refine gSeq_do rfl (by rfl) (fun K hK => ?_)); go_simp
      refine (sum512_row _ [⟨ad, len, cap, xs⟩] 1 _ (HK.out.at (.here _)) (fun b hb => by rw [List.mem_singleton] at hb; subst hb; exact HB.out _ HK.out.grown) rfl (by decide)).mono ?_
      rintro e wn ⟨rfl, hg⟩
      rw [show catB [(⟨ad, len, cap, xs⟩ : Bs)] = xs from List.append_nil _, ← HT.out]
      refine hK _ _ hg ?_
      clear hK K
      (try simp only [Act.put, Act.eval, List.setIfInBounds_toArray, List.set_cons_zero, List.set_cons_succ, Array.getD_eq_getD_getElem?, List.getElem?_toArray, List.getElem?_cons_succ, List.getElem?_cons_zero, Option.getD_some])
      have hkb := (HK.out.sub (List.Sublist.cons _ (List.Sublist.refl _))).grow hg
      clear hg
      clear HK
      have HK := Lib.hid hkb
      clear hkb
      (refine gSeq_eql rfl (by rfl) 27 _ _ _ rfl _ _ _ Try.underlying27 Try.underlying5 (by kernel_rfl) (by kernel_rfl) T T rfl rfl HTL.out HTL.out true (by simp) ?_; (try simp only [Act.put, Act.eval, List.setIfInBounds_toArray, List.set_cons_zero, List.set_cons_succ, Array.getD_eq_getD_getElem?, List.getElem?_toArray, List.getElem?_cons_succ, List.getElem?_cons_zero, Option.getD_some]))
      (repeat (first | (refine gSeq_get_int rfl (by rfl) HK.out _ _ rfl _ _ rfl _ _ _ _ (by first | exact Has.here _ | exact Has.next _ (Has.here _) | exact Has.next _ (Has.next _ (Has.here _)) | exact Has.next _ (Has.next _ (Has.next _ (Has.here _))) | exact Has.next _ (Has.next _ (Has.next _ (Has.next _ (Has.here _)))) | exact Has.next _ (Has.next _ (Has.next _ (Has.next _ (Has.next _ (Has.here _))))) | exact Has.next _ (Has.next _ (Has.next _ (Has.next _ (Has.next _ (Has.next _ (Has.here _)))))) | exact Has.next _ (Has.next _ (Has.next _ (Has.next _ (Has.next _ (Has.next _ (Has.next _ (Has.here _))))))) | exact Has.next _ (Has.next _ (Has.next _ (Has.next _ (Has.next _ (Has.next _ (Has.next _ (Has.next _ (Has.here _)))))))) | exact Has.next _ (Has.next _ (Has.next _ (Has.next _ (Has.next _ (Has.next _ (Has.next _ (Has.next _ (Has.next _ (Has.here _)))))))))) rfl (by omega) ?_; (try simp only [Act.put, Act.eval, List.setIfInBounds_toArray, List.set_cons_zero, List.set_cons_succ, Array.getD_eq_getD_getElem?, List.getElem?_toArray, List.getElem?_cons_succ, List.getElem?_cons_zero, Option.getD_some])) | (refine gSeq_skip rfl (by rfl) ?_; (try simp only [Act.put, Act.eval, List.setIfInBounds_toArray, List.set_cons_zero, List.set_cons_succ, Array.getD_eq_getD_getElem?, List.getElem?_toArray, List.getElem?_cons_succ, List.getElem?_cons_zero, Option.getD_some])) | (refine gSeq_move _ rfl rfl (by rfl) ?_; (try simp only [Act.put, Act.eval, List.setIfInBounds_toArray, List.set_cons_zero, List.set_cons_succ, Array.getD_eq_getD_getElem?, List.getElem?_toArray, List.getElem?_cons_succ, List.getElem?_cons_zero, Option.getD_some])) | (refine gSeq_assign _ rfl rfl (by rfl) ?_; (try simp only [Act.put, Act.eval, List.setIfInBounds_toArray, List.set_cons_zero, List.set_cons_succ, Array.getD_eq_getD_getElem?, List.getElem?_toArray, List.getElem?_cons_succ, List.getElem?_cons_zero, Option.getD_some])) | (refine gSeq_pure rfl (by rfl) ?_ ?_ ?_; (rotate_left; (intro w'; (skip); go_simp; (first | done | with_reducible rfl)); (try simp only [Act.put, Act.eval, List.setIfInBounds_toArray, List.set_cons_zero, List.set_cons_succ, Array.getD_eq_getD_getElem?, List.getElem?_toArray, List.getElem?_cons_succ, List.getElem?_cons_zero, Option.getD_some]))) | ((first | (refine gSeq_get_row rfl (by rfl) HK.out 25 _ rfl _ rfl _ _ _ _ (by first | exact Has.here _ | exact Has.next _ (Has.here _) | exact Has.next _ (Has.next _ (Has.here _)) | exact Has.next _ (Has.next _ (Has.next _ (Has.here _))) | exact Has.next _ (Has.next _ (Has.next _ (Has.next _ (Has.here _)))) | exact Has.next _ (Has.next _ (Has.next _ (Has.next _ (Has.next _ (Has.here _))))) | exact Has.next _ (Has.next _ (Has.next _ (Has.next _ (Has.next _ (Has.next _ (Has.here _)))))) | exact Has.next _ (Has.next _ (Has.next _ (Has.next _ (Has.next _ (Has.next _ (Has.next _ (Has.here _))))))) | exact Has.next _ (Has.next _ (Has.next _ (Has.next _ (Has.next _ (Has.next _ (Has.next _ (Has.next _ (Has.here _)))))))) | exact Has.next _ (Has.next _ (Has.next _ (Has.next _ (Has.next _ (Has.next _ (Has.next _ (Has.next _ (Has.next _ (Has.here _)))))))))) _ Try.underlying25 rfl (by kernel_rfl) ?_; (try simp only [Act.put, Act.eval, List.setIfInBounds_toArray, List.set_cons_zero, List.set_cons_succ, Array.getD_eq_getD_getElem?, List.getElem?_toArray, List.getElem?_cons_succ, List.getElem?_cons_zero, Option.getD_some])) | (refine gSeq_get_row rfl (by rfl) HK.out 27 _ rfl _ rfl _ _ _ _ (by first | exact Has.here _ | exact Has.next _ (Has.here _) | exact Has.next _ (Has.next _ (Has.here _)) | exact Has.next _ (Has.next _ (Has.next _ (Has.here _))) | exact Has.next _ (Has.next _ (Has.next _ (Has.next _ (Has.here _)))) | exact Has.next _ (Has.next _ (Has.next _ (Has.next _ (Has.next _ (Has.here _))))) | exact Has.next _ (Has.next _ (Has.next _ (Has.next _ (Has.next _ (Has.next _ (Has.here _)))))) | exact Has.next _ (Has.next _ (Has.next _ (Has.next _ (Has.next _ (Has.next _ (Has.next _ (Has.here _))))))) | exact Has.next _ (Has.next _ (Has.next _ (Has.next _ (Has.next _ (Has.next _ (Has.next _ (Has.next _ (Has.here _)))))))) | exact Has.next _ (Has.next _ (Has.next _ (Has.next _ (Has.next _ (Has.next _ (Has.next _ (Has.next _ (Has.next _ (Has.here _)))))))))) _ Try.underlying27 rfl (by kernel_rfl) ?_; (try simp only [Act.put, Act.eval, List.setIfInBounds_toArray, List.set_cons_zero, List.set_cons_succ, Array.getD_eq_getD_getElem?, List.getElem?_toArray, List.getElem?_cons_succ, List.getElem?_cons_zero, Option.getD_some])))) | (refine gSeq_still rfl (by rfl) ?_ ?_ ?_; (rotate_left; (intro w' hG; (skip); go_simp; (first | done | with_reducible rfl)); (try simp only [Act.put, Act.eval, List.setIfInBounds_toArray, List.set_cons_zero, List.set_cons_succ, Array.getD_eq_getD_getElem?, List.getElem?_toArray, List.getElem?_cons_succ, List.getElem?_cons_zero, Option.getD_some])))))
      rw [show (if cap = i then ad else Option.map (fun x => x.add i) ad) = subAt ad i cap by rw [subAt, Nat.mul_one], show (if cap = k then ad else Option.map (fun x => x.add k) ad) = subAt ad k cap by rw [subAt, Nat.mul_one]]
      (refine gSeq_do rfl (by rfl) (fun K hK => ?_)); go_simp
      obtain ⟨sb, hsb⟩ : ∃ sb, wn.heap.size = sb := ⟨_, rfl⟩
      have hkb := HK.out.blk (.cells #[Value.slice ad i cap, Value.slice (subAt ad i cap) (k - i) (cap - i), Value.slice none 0 0, Value.slice (subAt ad k cap) (len - k) (cap - k)] 22 (0, 0)) hsb
      rw [hsb]
      clear hsb
      refine hK _ _ (World.grownBy_alloc _ _ _) ?_
      clear hK K
      (try simp only [Act.put, Act.eval, List.setIfInBounds_toArray, List.set_cons_zero, List.set_cons_succ, Array.getD_eq_getD_getElem?, List.getElem?_toArray, List.getElem?_cons_succ, List.getElem?_cons_zero, Option.getD_some])
      generalize wn.alloc (.cells #[Value.slice ad i cap, Value.slice (subAt ad i cap) (k - i) (cap - i), Value.slice none 0 0, Value.slice (subAt ad k cap) (len - k) (cap - k)] 22 (0, 0)) = wn at hkb ⊢
      clear HK
      have HK := Lib.hid hkb
      clear hkb
      have hrw := HR.out.kept HK.out.grown
      have hb0 : (⟨ad, i, cap, xs.take i⟩ : Bs).ok wn := ⟨rd_front hrw i (by omega), okB_take HOX.out i, HN.out, (show i ≤ 3000 by omega)⟩
      have hb1 : (⟨subAt ad i cap, k - i, cap - i, (xs.drop i).take (k - i)⟩ : Bs).ok wn := part_ok hrw HOX.out HN.out HLC.out (by omega) i k hik hkl
      have hb3 : (⟨subAt ad k cap, len - k, cap - k, xs.drop k⟩ : Bs).ok wn := ⟨rd_drop' hrw k hkl HLC.out, ok_drop' HOX.out k, subAt_none HN.out k, (show len - k ≤ 3000 by omega)⟩
      have hxl : xs.length = len := HR.out.1
      have hc1 : catB [(⟨ad, i, cap, xs.take i⟩ : Bs), (⟨subAt ad i cap, k - i, cap - i, (xs.drop i).take (k - i)⟩ : Bs), (⟨none, 0, 0, []⟩ : Bs), (⟨subAt ad k cap, len - k, cap - k, xs.drop k⟩ : Bs)] = xs := cat_01n3 xs i k len ad _ _ hik hkl hxl cap
      have hc2 : catB [(⟨ad, i, cap, xs.take i⟩ : Bs), (⟨none, 0, 0, []⟩ : Bs), (⟨subAt ad i cap, k - i, cap - i, (xs.drop i).take (k - i)⟩ : Bs), (⟨subAt ad k cap, len - k, cap - k, xs.drop k⟩ : Bs)] = xs := cat_0n13 xs i k len ad _ _ hik hkl hxl cap
      have HC1 := Lib.hid hc1
      have HC2 := Lib.hid hc2
      have HB0 := Lib.hid hb0
      have HB1 := Lib.hid hb1
      have HB3 := Lib.hid hb3
      clear hrw hb0 hb1 hb3 hxl hc1 hc2
      (refine gSeq_do rfl (by rfl) (fun K hK => ?_)); go_simp
      refine (sum256_row _ [⟨ad, i, cap, xs.take i⟩, ⟨subAt ad i cap, k - i, cap - i, (xs.drop i).take (k - i)⟩, ⟨none, 0, 0, []⟩, ⟨subAt ad k cap, len - k, cap - k, xs.drop k⟩] 4 _ (HK.out.at (.here _)) (fun b hb => by have hb0 := HB0.out; have hb1 := HB1.out; have hb3 := HB3.out; exact four_ok b hb hb0 hb1 (nilB_ok _) hb3) rfl (by decide)).mono ?_
      rintro e wn ⟨rfl, hg⟩
      rw [HC1.out, ← HS.out]
      refine hK _ _ hg ?_
      clear hK K
      (try simp only [Act.put, Act.eval, List.setIfInBounds_toArray, List.set_cons_zero, List.set_cons_succ, Array.getD_eq_getD_getElem?, List.getElem?_toArray, List.getElem?_cons_succ, List.getElem?_cons_zero, Option.getD_some])
      have hkb := (HK.out.sub (List.Sublist.cons _ (List.Sublist.refl _))).grow hg
      clear hg
      clear HK
      have HK := Lib.hid hkb
      clear hkb
      clear HB0 HB1 HB3
      (refine gSeq_eql rfl (by rfl) 25 _ _ _ rfl _ _ _ Try.underlying25 Try.underlying5 (by kernel_rfl) (by kernel_rfl) S S rfl rfl HSL.out HSL.out true (by simp) ?_; (try simp only [Act.put, Act.eval, List.setIfInBounds_toArray, List.set_cons_zero, List.set_cons_succ, Array.getD_eq_getD_getElem?, List.getElem?_toArray, List.getElem?_cons_succ, List.getElem?_cons_zero, Option.getD_some]))
      (repeat (first | (refine gSeq_get_int rfl (by rfl) HK.out _ _ rfl _ _ rfl _ _ _ _ (by first | exact Has.here _ | exact Has.next _ (Has.here _) | exact Has.next _ (Has.next _ (Has.here _)) | exact Has.next _ (Has.next _ (Has.next _ (Has.here _))) | exact Has.next _ (Has.next _ (Has.next _ (Has.next _ (Has.here _)))) | exact Has.next _ (Has.next _ (Has.next _ (Has.next _ (Has.next _ (Has.here _))))) | exact Has.next _ (Has.next _ (Has.next _ (Has.next _ (Has.next _ (Has.next _ (Has.here _)))))) | exact Has.next _ (Has.next _ (Has.next _ (Has.next _ (Has.next _ (Has.next _ (Has.next _ (Has.here _))))))) | exact Has.next _ (Has.next _ (Has.next _ (Has.next _ (Has.next _ (Has.next _ (Has.next _ (Has.next _ (Has.here _)))))))) | exact Has.next _ (Has.next _ (Has.next _ (Has.next _ (Has.next _ (Has.next _ (Has.next _ (Has.next _ (Has.next _ (Has.here _)))))))))) rfl (by omega) ?_; (try simp only [Act.put, Act.eval, List.setIfInBounds_toArray, List.set_cons_zero, List.set_cons_succ, Array.getD_eq_getD_getElem?, List.getElem?_toArray, List.getElem?_cons_succ, List.getElem?_cons_zero, Option.getD_some])) | (refine gSeq_skip rfl (by rfl) ?_; (try simp only [Act.put, Act.eval, List.setIfInBounds_toArray, List.set_cons_zero, List.set_cons_succ, Array.getD_eq_getD_getElem?, List.getElem?_toArray, List.getElem?_cons_succ, List.getElem?_cons_zero, Option.getD_some])) | (refine gSeq_move _ rfl rfl (by rfl) ?_; (try simp only [Act.put, Act.eval, List.setIfInBounds_toArray, List.set_cons_zero, List.set_cons_succ, Array.getD_eq_getD_getElem?, List.getElem?_toArray, List.getElem?_cons_succ, List.getElem?_cons_zero, Option.getD_some])) | (refine gSeq_assign _ rfl rfl (by rfl) ?_; (try simp only [Act.put, Act.eval, List.setIfInBounds_toArray, List.set_cons_zero, List.set_cons_succ, Array.getD_eq_getD_getElem?, List.getElem?_toArray, List.getElem?_cons_succ, List.getElem?_cons_zero, Option.getD_some])) | (refine gSeq_pure rfl (by rfl) ?_ ?_ ?_; (rotate_left; (intro w'; (skip); go_simp; (first | done | with_reducible rfl)); (try simp only [Act.put, Act.eval, List.setIfInBounds_toArray, List.set_cons_zero, List.set_cons_succ, Array.getD_eq_getD_getElem?, List.getElem?_toArray, List.getElem?_cons_succ, List.getElem?_cons_zero, Option.getD_some]))) | ((first | (refine gSeq_get_row rfl (by rfl) HK.out 25 _ rfl _ rfl _ _ _ _ (by first | exact Has.here _ | exact Has.next _ (Has.here _) | exact Has.next _ (Has.next _ (Has.here _)) | exact Has.next _ (Has.next _ (Has.next _ (Has.here _))) | exact Has.next _ (Has.next _ (Has.next _ (Has.next _ (Has.here _)))) | exact Has.next _ (Has.next _ (Has.next _ (Has.next _ (Has.next _ (Has.here _))))) | exact Has.next _ (Has.next _ (Has.next _ (Has.next _ (Has.next _ (Has.next _ (Has.here _)))))) | exact Has.next _ (Has.next _ (Has.next _ (Has.next _ (Has.next _ (Has.next _ (Has.next _ (Has.here _))))))) | exact Has.next _ (Has.next _ (Has.next _ (Has.next _ (Has.next _ (Has.next _ (Has.next _ (Has.next _ (Has.here _)))))))) | exact Has.next _ (Has.next _ (Has.next _ (Has.next _ (Has.next _ (Has.next _ (Has.next _ (Has.next _ (Has.next _ (Has.here _)))))))))) _ Try.underlying25 rfl (by kernel_rfl) ?_; (try simp only [Act.put, Act.eval, List.setIfInBounds_toArray, List.set_cons_zero, List.set_cons_succ, Array.getD_eq_getD_getElem?, List.getElem?_toArray, List.getElem?_cons_succ, List.getElem?_cons_zero, Option.getD_some])) | (refine gSeq_get_row rfl (by rfl) HK.out 27 _ rfl _ rfl _ _ _ _ (by first | exact Has.here _ | exact Has.next _ (Has.here _) | exact Has.next _ (Has.next _ (Has.here _)) | exact Has.next _ (Has.next _ (Has.next _ (Has.here _))) | exact Has.next _ (Has.next _ (Has.next _ (Has.next _ (Has.here _)))) | exact Has.next _ (Has.next _ (Has.next _ (Has.next _ (Has.next _ (Has.here _))))) | exact Has.next _ (Has.next _ (Has.next _ (Has.next _ (Has.next _ (Has.next _ (Has.here _)))))) | exact Has.next _ (Has.next _ (Has.next _ (Has.next _ (Has.next _ (Has.next _ (Has.next _ (Has.here _))))))) | exact Has.next _ (Has.next _ (Has.next _ (Has.next _ (Has.next _ (Has.next _ (Has.next _ (Has.next _ (Has.here _)))))))) | exact Has.next _ (Has.next _ (Has.next _ (Has.next _ (Has.next _ (Has.next _ (Has.next _ (Has.next _ (Has.next _ (Has.here _)))))))))) _ Try.underlying27 rfl (by kernel_rfl) ?_; (try simp only [Act.put, Act.eval, List.setIfInBounds_toArray, List.set_cons_zero, List.set_cons_succ, Array.getD_eq_getD_getElem?, List.getElem?_toArray, List.getElem?_cons_succ, List.getElem?_cons_zero, Option.getD_some])))) | (refine gSeq_still rfl (by rfl) ?_ ?_ ?_; (rotate_left; (intro w' hG; (skip); go_simp; (first | done | with_reducible rfl)); (try simp only [Act.put, Act.eval, List.setIfInBounds_toArray, List.set_cons_zero, List.set_cons_succ, Array.getD_eq_getD_getElem?, List.getElem?_toArray, List.getElem?_cons_succ, List.getElem?_cons_zero, Option.getD_some])))))
      rw [show (if cap = i then ad else Option.map (fun x => x.add i) ad) = subAt ad i cap by rw [subAt, Nat.mul_one], show (if cap = k then ad else Option.map (fun x => x.add k) ad) = subAt ad k cap by rw [subAt, Nat.mul_one]]
      (refine gSeq_do rfl (by rfl) (fun K hK => ?_)); go_simp
      obtain ⟨sb, hsb⟩ : ∃ sb, wn.heap.size = sb := ⟨_, rfl⟩
      have hkb := HK.out.blk (.cells #[Value.slice ad i cap, Value.slice none 0 0, Value.slice (subAt ad i cap) (k - i) (cap - i), Value.slice (subAt ad k cap) (len - k) (cap - k)] 22 (0, 0)) hsb
      rw [hsb]
      clear hsb
      refine hK _ _ (World.grownBy_alloc _ _ _) ?_
      clear hK K
      (try simp only [Act.put, Act.eval, List.setIfInBounds_toArray, List.set_cons_zero, List.set_cons_succ, Array.getD_eq_getD_getElem?, List.getElem?_toArray, List.getElem?_cons_succ, List.getElem?_cons_zero, Option.getD_some])
      generalize wn.alloc (.cells #[Value.slice ad i cap, Value.slice none 0 0, Value.slice (subAt ad i cap) (k - i) (cap - i), Value.slice (subAt ad k cap) (len - k) (cap - k)] 22 (0, 0)) = wn at hkb ⊢
      clear HK
      have HK := Lib.hid hkb
      clear hkb
      have hrw := HR.out.kept HK.out.grown
      have hb0 : (⟨ad, i, cap, xs.take i⟩ : Bs).ok wn := ⟨rd_front hrw i (by omega), okB_take HOX.out i, HN.out, (show i ≤ 3000 by omega)⟩
      have hb1 : (⟨subAt ad i cap, k - i, cap - i, (xs.drop i).take (k - i)⟩ : Bs).ok wn := part_ok hrw HOX.out HN.out HLC.out (by omega) i k hik hkl
      have hb3 : (⟨subAt ad k cap, len - k, cap - k, xs.drop k⟩ : Bs).ok wn := ⟨rd_drop' hrw k hkl HLC.out, ok_drop' HOX.out k, subAt_none HN.out k, (show len - k ≤ 3000 by omega)⟩
      have HB0 := Lib.hid hb0
      have HB1 := Lib.hid hb1
      have HB3 := Lib.hid hb3
      clear hrw hb0 hb1 hb3
      (refine gSeq_do rfl (by rfl) (fun K hK => ?_)); go_simp
      refine (sum512_row _ [⟨ad, i, cap, xs.take i⟩, ⟨none, 0, 0, []⟩, ⟨subAt ad i cap, k - i, cap - i, (xs.drop i).take (k - i)⟩, ⟨subAt ad k cap, len - k, cap - k, xs.drop k⟩] 4 _ (HK.out.at (.here _)) (fun b hb => by have hb0 := HB0.out; have hb1 := HB1.out; have hb3 := HB3.out; exact four_ok b hb hb0 (nilB_ok _) hb1 hb3) rfl (by decide)).mono ?_
      rintro e wn ⟨rfl, hg⟩
      rw [HC2.out, ← HT.out]
      refine hK _ _ hg ?_
      clear hK K
      (try simp only [Act.put, Act.eval, List.setIfInBounds_toArray, List.set_cons_zero, List.set_cons_succ, Array.getD_eq_getD_getElem?, List.getElem?_toArray, List.getElem?_cons_succ, List.getElem?_cons_zero, Option.getD_some])
      have hkb := (HK.out.sub (List.Sublist.cons _ (List.Sublist.refl _))).grow hg
      clear hg
      clear HK
      have HK := Lib.hid hkb
      clear hkb
      clear HB0 HB1 HB3
      (refine gSeq_eql rfl (by rfl) 27 _ _ _ rfl _ _ _ Try.underlying27 Try.underlying5 (by kernel_rfl) (by kernel_rfl) T T rfl rfl HTL.out HTL.out true (by simp) ?_; (try simp only [Act.put, Act.eval, List.setIfInBounds_toArray, List.set_cons_zero, List.set_cons_succ, Array.getD_eq_getD_getElem?, List.getElem?_toArray, List.getElem?_cons_succ, List.getElem?_cons_zero, Option.getD_some]))
      (repeat (first | (refine gSeq_get_int rfl (by rfl) HK.out _ _ rfl _ _ rfl _ _ _ _ (by first | exact Has.here _ | exact Has.next _ (Has.here _) | exact Has.next _ (Has.next _ (Has.here _)) | exact Has.next _ (Has.next _ (Has.next _ (Has.here _))) | exact Has.next _ (Has.next _ (Has.next _ (Has.next _ (Has.here _)))) | exact Has.next _ (Has.next _ (Has.next _ (Has.next _ (Has.next _ (Has.here _))))) | exact Has.next _ (Has.next _ (Has.next _ (Has.next _ (Has.next _ (Has.next _ (Has.here _)))))) | exact Has.next _ (Has.next _ (Has.next _ (Has.next _ (Has.next _ (Has.next _ (Has.next _ (Has.here _))))))) | exact Has.next _ (Has.next _ (Has.next _ (Has.next _ (Has.next _ (Has.next _ (Has.next _ (Has.next _ (Has.here _)))))))) | exact Has.next _ (Has.next _ (Has.next _ (Has.next _ (Has.next _ (Has.next _ (Has.next _ (Has.next _ (Has.next _ (Has.here _)))))))))) rfl (by omega) ?_; (try simp only [Act.put, Act.eval, List.setIfInBounds_toArray, List.set_cons_zero, List.set_cons_succ, Array.getD_eq_getD_getElem?, List.getElem?_toArray, List.getElem?_cons_succ, List.getElem?_cons_zero, Option.getD_some])) | (refine gSeq_skip rfl (by rfl) ?_; (try simp only [Act.put, Act.eval, List.setIfInBounds_toArray, List.set_cons_zero, List.set_cons_succ, Array.getD_eq_getD_getElem?, List.getElem?_toArray, List.getElem?_cons_succ, List.getElem?_cons_zero, Option.getD_some])) | (refine gSeq_move _ rfl rfl (by rfl) ?_; (try simp only [Act.put, Act.eval, List.setIfInBounds_toArray, List.set_cons_zero, List.set_cons_succ, Array.getD_eq_getD_getElem?, List.getElem?_toArray, List.getElem?_cons_succ, List.getElem?_cons_zero, Option.getD_some])) | (refine gSeq_assign _ rfl rfl (by rfl) ?_; (try simp only [Act.put, Act.eval, List.setIfInBounds_toArray, List.set_cons_zero, List.set_cons_succ, Array.getD_eq_getD_getElem?, List.getElem?_toArray, List.getElem?_cons_succ, List.getElem?_cons_zero, Option.getD_some])) | (refine gSeq_pure rfl (by rfl) ?_ ?_ ?_; (rotate_left; (intro w'; (skip); go_simp; (first | done | with_reducible rfl)); (try simp only [Act.put, Act.eval, List.setIfInBounds_toArray, List.set_cons_zero, List.set_cons_succ, Array.getD_eq_getD_getElem?, List.getElem?_toArray, List.getElem?_cons_succ, List.getElem?_cons_zero, Option.getD_some]))) | (fail) | (refine gSeq_still rfl (by rfl) ?_ ?_ ?_; (rotate_left; (intro w' hG; (skip); go_simp; (first | done | with_reducible rfl)); (try simp only [Act.put, Act.eval, List.setIfInBounds_toArray, List.set_cons_zero, List.set_cons_succ, Array.getD_eq_getD_getElem?, List.getElem?_toArray, List.getElem?_cons_succ, List.getElem?_cons_zero, Option.getD_some])))))
      refine gSeq_nil ?_
      go_wp2_with fail
      exact bodyPost_ret (results_tmp rfl _ _ _) rfl ⟨rfl, HK.out.grown⟩
end Go.Proofs.Ytncdbgpmhkiedaa
