/- SHA-512's words of a block: what they are; walked. -/
import Derived.Test.YtncdbgpmhkiedaaShaF
namespace Go.Proofs.Ytncdbgpmhkiedaa
set_option linter.unusedVariables false
set_option linter.unusedSimpArgs false
open Go.RowKit Go.Proofs.YtncdbgpmhkiedaaL

def wd5 (l b : List Int) (k : Nat) : Int := bits .or .u64 (IntKind.u64.wrap (l.getD (k / 8) 0 * 256)) (b.getD k 0)
/-- A block's first k bytes laid into the words. -/
def wdA5 (b : List Int) : Nat → List Int
  | 0 => zer 80
  | k + 1 => (wdA5 b k).set (k / 8) (wd5 (wdA5 b k) b k)
theorem length_wdA5 (b : List Int) : ∀ k, (wdA5 b k).length = 80
  | 0 => length_zer 80
  | k + 1 => by rw [wdA5, List.length_set, length_wdA5 b k]
def sg05 (x : Int) : Int := bits .xor .u64 (bits .xor .u64 (rr64 x 1) (rr64 x 8)) (x / 128)
def sg15 (x : Int) : Int := bits .xor .u64 (bits .xor .u64 (rr64 x 19) (rr64 x 61)) (x / 64)
def w64 (x : Int) : Int := IntKind.u64.wrap x
def wdN5 (l : List Int) (k : Nat) : Int := w64 (w64 (w64 (l.getD k 0 + sg05 (l.getD (k + 1) 0)) + l.getD (k + 9) 0) + sg15 (l.getD (k + 14) 0))
theorem w64_range (x : Int) : 0 ≤ w64 x ∧ w64 x < 18446744073709551616 := by rw [w64, IntKind.wrap_u64]; omega
def wdB5 (l : List Int) : Nat → List Int
  | 0 => l
  | k + 1 => (wdB5 l k).set (16 + k) (wdN5 (wdB5 l k) k)
theorem length_wdB5 (l : List Int) : ∀ k, (wdB5 l k).length = l.length
  | 0 => rfl
  | k + 1 => by rw [wdB5, List.length_set, length_wdB5 l k]
theorem ok_wdA5 (b : List Int) : ∀ k, okB 18446744073709551616 (wdA5 b k)
  | 0 => ok_zer (by decide) 80
  | k + 1 => ok_set (ok_wdA5 b k) _ _ (bits_range64 _ _ _).1 (bits_range64 _ _ _).2
theorem ok_wdB5 {l : List Int} (h : okB 18446744073709551616 l) : ∀ k, okB 18446744073709551616 (wdB5 l k)
  | 0 => h
  | k + 1 => ok_set (ok_wdB5 h k) _ _ (w64_range _).1 (w64_range _).2

set_option maxHeartbeats 1600000 in
set_option maxRecDepth 100000 in
theorem words512_any (x : Addr) (len cap : Nat) (b : List Int) (w : World) (hr : Rd .u8 w (some x) len b) (hb : okB 256 b) (hl : 128 ≤ len) (hl2 : len ≤ 1000000) :
    Calls Try.prog 24 #[.slice (some x) len cap] w fun e w' => e = .returned (.agg (encK .u64 (wdB5 (wdA5 b 128) 64))) ∧ w.grownBy w' none := by
  have HR := Lib.hid hr
  have HB := Lib.hid hb
  have hlen : (128 : Int) ≤ (len : Int) := by omega
  clear hr hb
  have HK := Lib.hid (own_start w)
  go_enter Try.func24, Try.ntmps24
  go_wp2_with ((refine wpList_new_ints rfl HK.out _ rfl .u64 47 80 (zer 80) (length_zer _) (fun w => by go_simp; first | exact ⟨rfl, rfl⟩ | kernel_rfl) ?_))
  intro wn q hkn
  have HKN := Lib.hid hkn
  clear hkn HK
  have HK := HKN
  clear HKN
  go_wp2_with ((refine wpList_new_ints rfl HK.out _ rfl .u64 47 80 (zer 80) (length_zer _) (fun w => by go_simp; first | exact ⟨rfl, rfl⟩ | kernel_rfl) ?_))
  intro wn p hkn
  have HKN := Lib.hid hkn
  clear hkn HK
  have HK := HKN
  clear HKN
  go_wp2_with fail
  go_loopw [10] (fun v wr => ∃ k : Nat, k ≤ 128 ∧ v = .int .i64 k ∧ Hid (Own w wr [.ints p .u64 47 80 (wdA5 b k), .ints q .u64 47 80 (zer 80)])) (fun v _ => 128 - (intOf v).toNat)
  case atStart => exact ⟨0, by omega, rfl, HK⟩
  case round =>
    obtain ⟨k, hk, rfl, HK'⟩ := hrel
    clear HK
    have HK := HK'
    clear HK'
    by_cases hlt : k < 128
    · have hk0 : (0 : Int) ≤ k := by omega
      have hk1 : (k : Int) < 128 := by omega
      go_wp2_with fail
      refine wp_region_grow [(2, 0), (2, 1), (2, 2), (2, 3), (2, 4), (1, 5), (2, 6), (2, 7), (2, 8), (2, 9), (1, 10), (2, 11), (2, 12), (2, 13), (3, 14)] (by kernel_rfl) (by kernel_rfl) (fun _ _ _ _ _ h => h) (fun _ _ _ _ _ h => h) ?_
      refine gSeq_own HK.out fun wn hkn gn ein => ?_
      have HKN := Lib.hid hkn
      clear hkn HK
      have HK := HKN
      clear HKN
      clear gn ein
      have hr := HR.out.kept HK.out.grown
      have c0 := rd_at hr k (by omega)
      have r0 := ok_getD (B := 256) (by decide) HB.out k
      obtain ⟨b0, hb0⟩ : ∃ y, y = b.getD k 0 := ⟨_, rfl⟩
      rw [← hb0] at c0 r0
      have HX := Lib.hid (show wdA5 b (k + 1) = (wdA5 b k).set (k / 8) (bits .or .u64 (IntKind.u64.wrap ((wdA5 b k).getD (k / 8) 0 * 256)) b0) by rw [wdA5, wd5, hb0])
      clear hr hb0
      have h1 : (k : Int) < len := by omega
      have h2 : 0 ≤ (k : Int) / 8 := by omega
      have h3 : (k : Int) / 8 < 80 := by omega
      have t0 : ((k : Int) / 8).toNat = k / 8 := by omega
      have t1 : (k : Int).tdiv 8 = (k : Int) / 8 := Int.tdiv_eq_ediv_of_nonneg hk0
      have z0 : IntKind.i64.wrap ((k : Int) / 8) = (k : Int) / 8 := IntWalk.i64_in _ (by omega)
      have y0 : IntKind.u64.wrap b0 = b0 := IntWalk.u64_in _ (by omega)
      (repeat (first | (refine gSeq_get_int rfl (by rfl) HK.out _ _ rfl _ _ rfl _ _ _ _ (by first | exact Has.here _ | exact Has.next _ (Has.here _) | exact Has.next _ (Has.next _ (Has.here _)) | exact Has.next _ (Has.next _ (Has.next _ (Has.here _))) | exact Has.next _ (Has.next _ (Has.next _ (Has.next _ (Has.here _)))) | exact Has.next _ (Has.next _ (Has.next _ (Has.next _ (Has.next _ (Has.here _))))) | exact Has.next _ (Has.next _ (Has.next _ (Has.next _ (Has.next _ (Has.next _ (Has.here _)))))) | exact Has.next _ (Has.next _ (Has.next _ (Has.next _ (Has.next _ (Has.next _ (Has.next _ (Has.here _))))))) | exact Has.next _ (Has.next _ (Has.next _ (Has.next _ (Has.next _ (Has.next _ (Has.next _ (Has.next _ (Has.here _)))))))) | exact Has.next _ (Has.next _ (Has.next _ (Has.next _ (Has.next _ (Has.next _ (Has.next _ (Has.next _ (Has.next _ (Has.here _)))))))))) rfl (by omega) ?_; (try simp only [Act.put, Act.eval, List.setIfInBounds_toArray, List.set_cons_zero, List.set_cons_succ, Array.getD_eq_getD_getElem?, List.getElem?_toArray, List.getElem?_cons_succ, List.getElem?_cons_zero, Option.getD_some])) | (refine gSeq_skip rfl (by rfl) ?_; (try simp only [Act.put, Act.eval, List.setIfInBounds_toArray, List.set_cons_zero, List.set_cons_succ, Array.getD_eq_getD_getElem?, List.getElem?_toArray, List.getElem?_cons_succ, List.getElem?_cons_zero, Option.getD_some])) | (refine gSeq_move _ rfl rfl (by rfl) ?_; (try simp only [Act.put, Act.eval, List.setIfInBounds_toArray, List.set_cons_zero, List.set_cons_succ, Array.getD_eq_getD_getElem?, List.getElem?_toArray, List.getElem?_cons_succ, List.getElem?_cons_zero, Option.getD_some])) | (refine gSeq_assign _ rfl rfl (by rfl) ?_; (try simp only [Act.put, Act.eval, List.setIfInBounds_toArray, List.set_cons_zero, List.set_cons_succ, Array.getD_eq_getD_getElem?, List.getElem?_toArray, List.getElem?_cons_succ, List.getElem?_cons_zero, Option.getD_some])) | (refine gSeq_pure rfl (by rfl) ?_ ?_ ?_; (rotate_left; (intro w'; (try (have d0 := hG.cell c0 (by simp))); go_simp; (first | done | with_reducible rfl)); (try simp only [Act.put, Act.eval, List.setIfInBounds_toArray, List.set_cons_zero, List.set_cons_succ, Array.getD_eq_getD_getElem?, List.getElem?_toArray, List.getElem?_cons_succ, List.getElem?_cons_zero, Option.getD_some]))) | ((refine gSeq_put_int rfl (by rfl) HK.out _ _ _ rfl _ _ _ _ rfl rfl _ _ _ (by first | exact Upd.here _ | exact Upd.next _ (Upd.here _) | exact Upd.next _ (Upd.next _ (Upd.here _)) | exact Upd.next _ (Upd.next _ (Upd.next _ (Upd.here _))) | exact Upd.next _ (Upd.next _ (Upd.next _ (Upd.next _ (Upd.here _)))) | exact Upd.next _ (Upd.next _ (Upd.next _ (Upd.next _ (Upd.next _ (Upd.here _))))) | exact Upd.next _ (Upd.next _ (Upd.next _ (Upd.next _ (Upd.next _ (Upd.next _ (Upd.here _)))))) | exact Upd.next _ (Upd.next _ (Upd.next _ (Upd.next _ (Upd.next _ (Upd.next _ (Upd.next _ (Upd.here _))))))) | exact Upd.next _ (Upd.next _ (Upd.next _ (Upd.next _ (Upd.next _ (Upd.next _ (Upd.next _ (Upd.next _ (Upd.here _)))))))) | exact Upd.next _ (Upd.next _ (Upd.next _ (Upd.next _ (Upd.next _ (Upd.next _ (Upd.next _ (Upd.next _ (Upd.next _ (Upd.here _)))))))))) (by omega) (by kernel_rfl) ?_; (intro wn hkn; have HKN := Lib.hid hkn; clear hkn; clear HK; have HK := HKN; clear HKN); (try simp only [Act.put, Act.eval, List.setIfInBounds_toArray, List.set_cons_zero, List.set_cons_succ, Array.getD_eq_getD_getElem?, List.getElem?_toArray, List.getElem?_cons_succ, List.getElem?_cons_zero, Option.getD_some]))) | (refine gSeq_still rfl (by rfl) ?_ ?_ ?_; (rotate_left; (intro w' hG; (try (have d0 := hG.cell c0 (by simp))); go_simp; (first | done | with_reducible rfl)); (try simp only [Act.put, Act.eval, List.setIfInBounds_toArray, List.set_cons_zero, List.set_cons_succ, Array.getD_eq_getD_getElem?, List.getElem?_toArray, List.getElem?_cons_succ, List.getElem?_cons_zero, Option.getD_some])))))
      refine gSeq_nil ?_
      have HK' : Hid (Own w wn [.ints p .u64 47 80 (wdA5 b (k + 1)), .ints q .u64 47 80 (zer 80)]) := by rw [HX.out]; exact HK
      clear HK
      have HK := HK'
      clear HK' t0 t1 z0 y0 c0
      go_wp2_with fail
      exact ⟨⟨k + 1, by omega, by go_num, HK⟩, by simp [intOf]; omega⟩
    · have : k = 128 := by omega
      subst this
      rw [show ((128 : Nat) : Int) = 128 from rfl]
      go_wp2_with fail
      clear hlt hk
      go_loopw [5] (fun v wr => ∃ k : Nat, k ≤ 64 ∧ v = .int .i64 (16 + (k : Int)) ∧ Hid (Own w wr [.ints p .u64 47 80 (wdB5 (wdA5 b 128) k), .ints q .u64 47 80 (zer 80)])) (fun v _ => 80 - (intOf v).toNat)
      case atStart => exact ⟨0, by omega, rfl, HK⟩
      case round =>
        obtain ⟨k, hk, rfl, HK'⟩ := hrel
        clear HK
        have HK := HK'
        clear HK'
        by_cases hlt : k < 64
        · obtain ⟨l, hl0⟩ : ∃ l, l = wdB5 (wdA5 b 128) k := ⟨_, rfl⟩
          have HO := Lib.hid (show okB 18446744073709551616 l by rw [hl0]; exact ok_wdB5 (ok_wdA5 b 128) k)
          have HX := Lib.hid (show wdB5 (wdA5 b 128) (k + 1) = l.set (16 + k) (wdN5 l k) by rw [wdB5, hl0])
          rw [← hl0] at HK
          clear hl0
          have h0 : (16 : Int) + k < 80 := by omega
          have h1 : (0 : Int) ≤ 16 + k := by omega
          have hk0 : (0 : Int) ≤ k := by omega
          go_wp2_with fail
          refine wp_region_grow [(2, 0), (2, 1), (2, 2), (1, 3), (2, 4), (2, 5), (2, 6), (1, 7), (2, 8), (2, 9)] (by kernel_rfl) (by kernel_rfl) (fun _ _ _ _ _ h => h) (fun _ _ _ _ _ h => h) ?_
          refine gSeq_own HK.out fun wn hkn gn ein => ?_
          have HKN := Lib.hid hkn
          clear hkn HK
          have HK := HKN
          clear HKN
          clear gn ein
          have z0 : IntKind.i64.wrap (16 + (k : Int) - 15) = (k : Int) + 1 := by rw [IntWalk.i64_in _ (by omega)]; omega
          have z1 : IntKind.i64.wrap (16 + (k : Int) - 2) = (k : Int) + 14 := by rw [IntWalk.i64_in _ (by omega)]; omega
          have z2 : IntKind.i64.wrap (16 + (k : Int) - 16) = (k : Int) := by rw [IntWalk.i64_in _ (by omega)]; omega
          have z3 : IntKind.i64.wrap (16 + (k : Int) - 7) = (k : Int) + 9 := by rw [IntWalk.i64_in _ (by omega)]; omega
          have t0 : ((k : Int) + 1).toNat = k + 1 := by omega
          have t1 : ((k : Int) + 14).toNat = k + 14 := by omega
          have t2 : ((k : Int) + 9).toNat = k + 9 := by omega
          have t3 : (16 + (k : Int)).toNat = 16 + k := by omega
          have h2 : (k : Int) + 1 < 80 := by omega
          have h3 : (k : Int) + 14 < 80 := by omega
          have h4 : (k : Int) + 9 < 80 := by omega
          have h5 : (k : Int) < 80 := by omega
          have h6 : (0 : Int) ≤ (k : Int) + 1 := by omega
          have h7 : (0 : Int) ≤ (k : Int) + 14 := by omega
          have h8 : (0 : Int) ≤ (k : Int) + 9 := by omega
          (repeat (first | (refine gSeq_get_int rfl (by rfl) HK.out _ _ rfl _ _ rfl _ _ _ _ (by first | exact Has.here _ | exact Has.next _ (Has.here _) | exact Has.next _ (Has.next _ (Has.here _)) | exact Has.next _ (Has.next _ (Has.next _ (Has.here _))) | exact Has.next _ (Has.next _ (Has.next _ (Has.next _ (Has.here _)))) | exact Has.next _ (Has.next _ (Has.next _ (Has.next _ (Has.next _ (Has.here _))))) | exact Has.next _ (Has.next _ (Has.next _ (Has.next _ (Has.next _ (Has.next _ (Has.here _)))))) | exact Has.next _ (Has.next _ (Has.next _ (Has.next _ (Has.next _ (Has.next _ (Has.next _ (Has.here _))))))) | exact Has.next _ (Has.next _ (Has.next _ (Has.next _ (Has.next _ (Has.next _ (Has.next _ (Has.next _ (Has.here _)))))))) | exact Has.next _ (Has.next _ (Has.next _ (Has.next _ (Has.next _ (Has.next _ (Has.next _ (Has.next _ (Has.next _ (Has.here _)))))))))) rfl (by omega) ?_; (try simp only [Act.put, Act.eval, List.setIfInBounds_toArray, List.set_cons_zero, List.set_cons_succ, Array.getD_eq_getD_getElem?, List.getElem?_toArray, List.getElem?_cons_succ, List.getElem?_cons_zero, Option.getD_some])) | (refine gSeq_skip rfl (by rfl) ?_; (try simp only [Act.put, Act.eval, List.setIfInBounds_toArray, List.set_cons_zero, List.set_cons_succ, Array.getD_eq_getD_getElem?, List.getElem?_toArray, List.getElem?_cons_succ, List.getElem?_cons_zero, Option.getD_some])) | (refine gSeq_move _ rfl rfl (by rfl) ?_; (try simp only [Act.put, Act.eval, List.setIfInBounds_toArray, List.set_cons_zero, List.set_cons_succ, Array.getD_eq_getD_getElem?, List.getElem?_toArray, List.getElem?_cons_succ, List.getElem?_cons_zero, Option.getD_some])) | (refine gSeq_assign _ rfl rfl (by rfl) ?_; (try simp only [Act.put, Act.eval, List.setIfInBounds_toArray, List.set_cons_zero, List.set_cons_succ, Array.getD_eq_getD_getElem?, List.getElem?_toArray, List.getElem?_cons_succ, List.getElem?_cons_zero, Option.getD_some])) | (refine gSeq_pure rfl (by rfl) ?_ ?_ ?_; (rotate_left; (intro w'; (skip); go_simp; (first | done | with_reducible rfl)); (try simp only [Act.put, Act.eval, List.setIfInBounds_toArray, List.set_cons_zero, List.set_cons_succ, Array.getD_eq_getD_getElem?, List.getElem?_toArray, List.getElem?_cons_succ, List.getElem?_cons_zero, Option.getD_some]))) | (fail) | (refine gSeq_still rfl (by rfl) ?_ ?_ ?_; (rotate_left; (intro w' hG; (skip); go_simp; (first | done | with_reducible rfl)); (try simp only [Act.put, Act.eval, List.setIfInBounds_toArray, List.set_cons_zero, List.set_cons_succ, Array.getD_eq_getD_getElem?, List.getElem?_toArray, List.getElem?_cons_succ, List.getElem?_cons_zero, Option.getD_some])))))
          refine gSeq_nil ?_
          clear z0 z1 z2 z3 t0 t1 t2 t3
          have e1 := ok_getD (by decide) HO.out (k + 1)
          have e2 := ok_getD (by decide) HO.out (k + 14)
          obtain ⟨x1, hx1⟩ : ∃ y, y = l.getD (k + 1) 0 := ⟨_, rfl⟩
          obtain ⟨x14, hx14⟩ : ∃ y, y = l.getD (k + 14) 0 := ⟨_, rfl⟩
          rw [← hx1] at e1 ⊢
          rw [← hx14] at e2 ⊢
          have HX1 := Lib.hid hx1
          have HX14 := Lib.hid hx14
          obtain ⟨e3, e4⟩ := e1
          obtain ⟨e5, e6⟩ := e2
          clear hx1 hx14
          go_wp2_with (first | ((go_at_call 25; with_reducible refine (rotl64_1 _ e3 e4 _).mono ?_); (rintro e w1 ⟨rfl, hww⟩; subst hww)) | ((go_at_call 25; with_reducible refine (rotl64_8 _ e3 e4 _).mono ?_); (rintro e w1 ⟨rfl, hww⟩; subst hww)) | ((go_at_call 25; with_reducible refine (rotl64_19 _ e5 e6 _).mono ?_); (rintro e w1 ⟨rfl, hww⟩; subst hww)) | ((go_at_call 25; with_reducible refine (rotl64_61 _ e5 e6 _).mono ?_); (rintro e w1 ⟨rfl, hww⟩; subst hww)))
          refine wp_region_grow [(2, 0), (2, 1), (2, 2), (2, 3), (1, 4), (2, 5), (2, 6), (2, 7), (2, 8), (2, 9), (1, 10), (2, 11), (2, 12), (2, 13), (2, 14), (3, 15)] (by kernel_rfl) (by kernel_rfl) (fun _ _ _ _ _ h => h) (fun _ _ _ _ _ h => h) ?_
          refine gSeq_own HK.out fun wn hkn gn ein => ?_
          have HKN := Lib.hid hkn
          clear hkn HK
          have HK := HKN
          clear HKN
          clear gn ein
          have z2 : IntKind.i64.wrap (16 + (k : Int) - 16) = (k : Int) := by rw [IntWalk.i64_in _ (by omega)]; omega
          have z3 : IntKind.i64.wrap (16 + (k : Int) - 7) = (k : Int) + 9 := by rw [IntWalk.i64_in _ (by omega)]; omega
          have t2 : ((k : Int) + 9).toNat = k + 9 := by omega
          have t3 : (16 + (k : Int)).toNat = 16 + k := by omega
          (repeat (first | (refine gSeq_get_int rfl (by rfl) HK.out _ _ rfl _ _ rfl _ _ _ _ (by first | exact Has.here _ | exact Has.next _ (Has.here _) | exact Has.next _ (Has.next _ (Has.here _)) | exact Has.next _ (Has.next _ (Has.next _ (Has.here _))) | exact Has.next _ (Has.next _ (Has.next _ (Has.next _ (Has.here _)))) | exact Has.next _ (Has.next _ (Has.next _ (Has.next _ (Has.next _ (Has.here _))))) | exact Has.next _ (Has.next _ (Has.next _ (Has.next _ (Has.next _ (Has.next _ (Has.here _)))))) | exact Has.next _ (Has.next _ (Has.next _ (Has.next _ (Has.next _ (Has.next _ (Has.next _ (Has.here _))))))) | exact Has.next _ (Has.next _ (Has.next _ (Has.next _ (Has.next _ (Has.next _ (Has.next _ (Has.next _ (Has.here _)))))))) | exact Has.next _ (Has.next _ (Has.next _ (Has.next _ (Has.next _ (Has.next _ (Has.next _ (Has.next _ (Has.next _ (Has.here _)))))))))) rfl (by omega) ?_; (try simp only [Act.put, Act.eval, List.setIfInBounds_toArray, List.set_cons_zero, List.set_cons_succ, Array.getD_eq_getD_getElem?, List.getElem?_toArray, List.getElem?_cons_succ, List.getElem?_cons_zero, Option.getD_some])) | (refine gSeq_skip rfl (by rfl) ?_; (try simp only [Act.put, Act.eval, List.setIfInBounds_toArray, List.set_cons_zero, List.set_cons_succ, Array.getD_eq_getD_getElem?, List.getElem?_toArray, List.getElem?_cons_succ, List.getElem?_cons_zero, Option.getD_some])) | (refine gSeq_move _ rfl rfl (by rfl) ?_; (try simp only [Act.put, Act.eval, List.setIfInBounds_toArray, List.set_cons_zero, List.set_cons_succ, Array.getD_eq_getD_getElem?, List.getElem?_toArray, List.getElem?_cons_succ, List.getElem?_cons_zero, Option.getD_some])) | (refine gSeq_assign _ rfl rfl (by rfl) ?_; (try simp only [Act.put, Act.eval, List.setIfInBounds_toArray, List.set_cons_zero, List.set_cons_succ, Array.getD_eq_getD_getElem?, List.getElem?_toArray, List.getElem?_cons_succ, List.getElem?_cons_zero, Option.getD_some])) | (refine gSeq_pure rfl (by rfl) ?_ ?_ ?_; (rotate_left; (intro w'; (skip); go_simp; (first | done | with_reducible rfl)); (try simp only [Act.put, Act.eval, List.setIfInBounds_toArray, List.set_cons_zero, List.set_cons_succ, Array.getD_eq_getD_getElem?, List.getElem?_toArray, List.getElem?_cons_succ, List.getElem?_cons_zero, Option.getD_some]))) | ((refine gSeq_put_int rfl (by rfl) HK.out _ _ _ rfl _ _ _ _ rfl rfl _ _ _ (by first | exact Upd.here _ | exact Upd.next _ (Upd.here _) | exact Upd.next _ (Upd.next _ (Upd.here _)) | exact Upd.next _ (Upd.next _ (Upd.next _ (Upd.here _))) | exact Upd.next _ (Upd.next _ (Upd.next _ (Upd.next _ (Upd.here _)))) | exact Upd.next _ (Upd.next _ (Upd.next _ (Upd.next _ (Upd.next _ (Upd.here _))))) | exact Upd.next _ (Upd.next _ (Upd.next _ (Upd.next _ (Upd.next _ (Upd.next _ (Upd.here _)))))) | exact Upd.next _ (Upd.next _ (Upd.next _ (Upd.next _ (Upd.next _ (Upd.next _ (Upd.next _ (Upd.here _))))))) | exact Upd.next _ (Upd.next _ (Upd.next _ (Upd.next _ (Upd.next _ (Upd.next _ (Upd.next _ (Upd.next _ (Upd.here _)))))))) | exact Upd.next _ (Upd.next _ (Upd.next _ (Upd.next _ (Upd.next _ (Upd.next _ (Upd.next _ (Upd.next _ (Upd.next _ (Upd.here _)))))))))) (by omega) (by kernel_rfl) ?_; (intro wn hkn; have HKN := Lib.hid hkn; clear hkn; clear HK; have HK := HKN; clear HKN); (try simp only [Act.put, Act.eval, List.setIfInBounds_toArray, List.set_cons_zero, List.set_cons_succ, Array.getD_eq_getD_getElem?, List.getElem?_toArray, List.getElem?_cons_succ, List.getElem?_cons_zero, Option.getD_some]))) | (refine gSeq_still rfl (by rfl) ?_ ?_ ?_; (rotate_left; (intro w' hG; (skip); go_simp; (first | done | with_reducible rfl)); (try simp only [Act.put, Act.eval, List.setIfInBounds_toArray, List.set_cons_zero, List.set_cons_succ, Array.getD_eq_getD_getElem?, List.getElem?_toArray, List.getElem?_cons_succ, List.getElem?_cons_zero, Option.getD_some])))))
          refine gSeq_nil ?_
          clear z2 z3 t2 t3
          have HK' : Hid (Own w wn [.ints p .u64 47 80 (wdB5 (wdA5 b 128) (k + 1)), .ints q .u64 47 80 (zer 80)]) := by rw [HX.out, wdN5, ← HX1.out, ← HX14.out]; exact HK
          clear HK
          have HK := HK'
          clear HK'
          go_wp2_with fail
          exact ⟨⟨k + 1, by omega, by go_num, HK⟩, by simp [intOf]; omega⟩
        · have : k = 64 := by omega
          subst this
          clear hlt hk
          go_wp2_with (first | (refine wpList_get_row rfl HK.out 47 _ rfl _ rfl _ _ _ _ (by first | exact Has.here _ | exact Has.next _ (Has.here _) | exact Has.next _ (Has.next _ (Has.here _)) | exact Has.next _ (Has.next _ (Has.next _ (Has.here _))) | exact Has.next _ (Has.next _ (Has.next _ (Has.next _ (Has.here _)))) | exact Has.next _ (Has.next _ (Has.next _ (Has.next _ (Has.next _ (Has.here _))))) | exact Has.next _ (Has.next _ (Has.next _ (Has.next _ (Has.next _ (Has.next _ (Has.here _)))))) | exact Has.next _ (Has.next _ (Has.next _ (Has.next _ (Has.next _ (Has.next _ (Has.next _ (Has.here _))))))) | exact Has.next _ (Has.next _ (Has.next _ (Has.next _ (Has.next _ (Has.next _ (Has.next _ (Has.next _ (Has.here _)))))))) | exact Has.next _ (Has.next _ (Has.next _ (Has.next _ (Has.next _ (Has.next _ (Has.next _ (Has.next _ (Has.next _ (Has.here _)))))))))) _ Try.underlying47 rfl (by kernel_rfl) ?_) | (refine wpList_put_row rfl HK.out 47 _ _ rfl _ _ (wdB5 (wdA5 b 128) 64) rfl rfl _ _ _ (by first | exact Upd.here _ | exact Upd.next _ (Upd.here _) | exact Upd.next _ (Upd.next _ (Upd.here _)) | exact Upd.next _ (Upd.next _ (Upd.next _ (Upd.here _))) | exact Upd.next _ (Upd.next _ (Upd.next _ (Upd.next _ (Upd.here _)))) | exact Upd.next _ (Upd.next _ (Upd.next _ (Upd.next _ (Upd.next _ (Upd.here _))))) | exact Upd.next _ (Upd.next _ (Upd.next _ (Upd.next _ (Upd.next _ (Upd.next _ (Upd.here _)))))) | exact Upd.next _ (Upd.next _ (Upd.next _ (Upd.next _ (Upd.next _ (Upd.next _ (Upd.next _ (Upd.here _))))))) | exact Upd.next _ (Upd.next _ (Upd.next _ (Upd.next _ (Upd.next _ (Upd.next _ (Upd.next _ (Upd.next _ (Upd.here _)))))))) | exact Upd.next _ (Upd.next _ (Upd.next _ (Upd.next _ (Upd.next _ (Upd.next _ (Upd.next _ (Upd.next _ (Upd.next _ (Upd.here _)))))))))) (by rw [length_wdB5, length_wdA5]) (by kernel_rfl) ?_; (intro wn hkn; have HKN := Lib.hid hkn; clear hkn; clear HK; have HK := HKN; clear HKN)))
          exact bodyPost_ret (results_own rfl _ HK.out _ rfl (by first | exact Has.here _ | exact Has.next _ (Has.here _) | exact Has.next _ (Has.next _ (Has.here _)) | exact Has.next _ (Has.next _ (Has.next _ (Has.here _))) | exact Has.next _ (Has.next _ (Has.next _ (Has.next _ (Has.here _)))) | exact Has.next _ (Has.next _ (Has.next _ (Has.next _ (Has.next _ (Has.here _))))) | exact Has.next _ (Has.next _ (Has.next _ (Has.next _ (Has.next _ (Has.next _ (Has.here _)))))) | exact Has.next _ (Has.next _ (Has.next _ (Has.next _ (Has.next _ (Has.next _ (Has.next _ (Has.here _))))))) | exact Has.next _ (Has.next _ (Has.next _ (Has.next _ (Has.next _ (Has.next _ (Has.next _ (Has.next _ (Has.here _)))))))) | exact Has.next _ (Has.next _ (Has.next _ (Has.next _ (Has.next _ (Has.next _ (Has.next _ (Has.next _ (Has.next _ (Has.here _)))))))))) _ Try.underlying47 rfl (by kernel_rfl)) rfl ⟨rfl, HK.out.grown⟩
end Go.Proofs.Ytncdbgpmhkiedaa
