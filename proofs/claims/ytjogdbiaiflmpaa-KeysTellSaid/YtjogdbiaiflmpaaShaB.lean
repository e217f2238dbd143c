/- SHA-256's words of a block: what they are; walked. -/
import Derived.Test.YtjogdbiaiflmpaaShaA
import Derived.IntWalk
namespace Go.Proofs.Ytjogdbiaiflmpaa
set_option linter.unusedVariables false
set_option linter.unusedSimpArgs false
open Go.RowKit Go.Proofs.YtjogdbiaiflmpaaL

def word32 (a b c d : Int) : Int := bits .or .u32 (bits .or .u32 (bits .or .u32 (a * 16777216) (b * 65536)) (c * 256)) d
/-- The first k words of a block. -/
def wdA (b : List Int) : Nat → List Int
  | 0 => List.replicate 64 0
  | k + 1 => (wdA b k).set k (word32 (b.getD (4 * k) 0) (b.getD (4 * k + 1) 0) (b.getD (4 * k + 2) 0) (b.getD (4 * k + 3) 0))
theorem length_wdA (b : List Int) : ∀ k, (wdA b k).length = 64
  | 0 => by rw [wdA, List.length_replicate]
  | k + 1 => by rw [wdA, List.length_set, length_wdA b k]

def sg0 (x : Int) : Int := bits .xor .u32 (bits .xor .u32 (rr32 x 7) (rr32 x 18)) (x / 8)
def sg1 (x : Int) : Int := bits .xor .u32 (bits .xor .u32 (rr32 x 17) (rr32 x 19)) (x / 1024)
def w32 (x : Int) : Int := IntKind.u32.wrap x
def wdN (l : List Int) (k : Nat) : Int := w32 (w32 (w32 (l.getD k 0 + sg0 (l.getD (k + 1) 0)) + l.getD (k + 9) 0) + sg1 (l.getD (k + 14) 0))
theorem w32_range (x : Int) : 0 ≤ w32 x ∧ w32 x < 4294967296 := by rw [w32, IntKind.wrap_u32]; omega
def wdB (l : List Int) : Nat → List Int
  | 0 => l
  | k + 1 => (wdB l k).set (16 + k) (wdN (wdB l k) k)
theorem length_wdB (l : List Int) : ∀ k, (wdB l k).length = l.length
  | 0 => rfl
  | k + 1 => by rw [wdB, List.length_set, length_wdB l k]
theorem ok_wdA (b : List Int) : ∀ k, okB 4294967296 (wdA b k)
  | 0 => fun x hx => by rw [wdA] at hx; rw [List.eq_of_mem_replicate hx]; decide
  | k + 1 => ok_set (ok_wdA b k) _ _ (bits_range32 _ _ _).1 (bits_range32 _ _ _).2
theorem ok_wdB {l : List Int} (h : okB 4294967296 l) : ∀ k, okB 4294967296 (wdB l k)
  | 0 => h
  | k + 1 => ok_set (ok_wdB h k) _ _ (w32_range _).1 (w32_range _).2
theorem rd_at {k : IntKind} {w : World} {x : Addr} {len : Nat} {xs : List Int} (h : Rd k w (some x) len xs) (i : Nat) (hi : i < len) : w.cell? (x.add i) = some (.int k (xs.getD i 0)) := by
  obtain ⟨y, hy, hc⟩ := h.2 i hi
  injection hy with hy
  rw [hy]; exact hc

set_option maxHeartbeats 1600000 in
set_option maxRecDepth 100000 in
theorem words256_any (x : Addr) (len cap : Nat) (b : List Int) (w : World) (hr : Rd .u8 w (some x) len b) (hb : okB 256 b) (hl : 64 ≤ len) (hl2 : len ≤ 1000000) :
    Calls Try.prog 27 #[.slice (some x) len cap] w fun e w' => e = .returned (.agg (encK .u32 (wdB (wdA b 16) 48))) ∧ w.grownBy w' none := by
  have HR := Lib.hid hr
  have HB := Lib.hid hb
  have hlen : (64 : Int) ≤ (len : Int) := by omega
  clear hr hb
  have HK := Lib.hid (own_start w)
  go_enter Try.func27, Try.ntmps27
  go_wp2_with ((refine wpList_new_ints rfl HK.out _ rfl .u32 49 64 (zer 64) (length_zer _) (fun w => by go_simp; first | exact ⟨rfl, rfl⟩ | kernel_rfl) ?_))
  intro wn q hkn
  have HKN := Lib.hid hkn
  clear hkn HK
  have HK := HKN
  clear HKN
  go_wp2_with ((refine wpList_new_ints rfl HK.out _ rfl .u32 49 64 (zer 64) (length_zer _) (fun w => by go_simp; first | exact ⟨rfl, rfl⟩ | kernel_rfl) ?_))
  intro wn p hkn
  have HKN := Lib.hid hkn
  clear hkn HK
  have HK := HKN
  clear HKN
  go_wp2_with fail
  go_loopw [10] (fun v wr => ∃ k : Nat, k ≤ 16 ∧ v = .int .i64 k ∧ Hid (Own w wr [.ints p .u32 49 64 (wdA b k), .ints q .u32 49 64 (List.replicate 64 0)])) (fun v _ => 16 - (intOf v).toNat)
  case atStart => exact ⟨0, by omega, rfl, HK⟩
  case round =>
    obtain ⟨k, hk, rfl, HK'⟩ := hrel
    clear HK
    have HK := HK'
    clear HK'
    by_cases hlt : k < 16
    · go_wp2_with fail
      refine wp_region_grow [(2, 0), (2, 1), (2, 2), (2, 3), (2, 4), (1, 5), (2, 6), (2, 7), (2, 8), (2, 9), (2, 10), (2, 11), (2, 12), (1, 13), (2, 14), (2, 15), (2, 16), (2, 17), (2, 18), (2, 19), (2, 20), (2, 21), (1, 22), (2, 23), (2, 24), (2, 25), (2, 26), (2, 27), (2, 28), (2, 29), (2, 30), (1, 31), (2, 32), (2, 33), (2, 34), (3, 35)] (by kernel_rfl) (by kernel_rfl) (fun _ _ _ _ _ h => h) (fun _ _ _ _ _ h => h) ?_
      refine gSeq_own HK.out fun wn hkn gn ein => ?_
      have HKN := Lib.hid hkn
      clear hkn HK
      have HK := HKN
      clear HKN
      clear gn ein
      have hr := HR.out.kept HK.out.grown
      have c0 := rd_at hr (4 * k) (by omega)
      have c1 := rd_at hr (4 * k + 1) (by omega)
      have c2 := rd_at hr (4 * k + 2) (by omega)
      have c3 := rd_at hr (4 * k + 3) (by omega)
      have r0 := ok_getD (B := 256) (by decide) HB.out (4 * k)
      have r1 := ok_getD (B := 256) (by decide) HB.out (4 * k + 1)
      have r2 := ok_getD (B := 256) (by decide) HB.out (4 * k + 2)
      have r3 := ok_getD (B := 256) (by decide) HB.out (4 * k + 3)
      obtain ⟨b0, hb0⟩ : ∃ y, y = b.getD (4 * k) 0 := ⟨_, rfl⟩
      obtain ⟨b1, hb1⟩ : ∃ y, y = b.getD (4 * k + 1) 0 := ⟨_, rfl⟩
      obtain ⟨b2, hb2⟩ : ∃ y, y = b.getD (4 * k + 2) 0 := ⟨_, rfl⟩
      obtain ⟨b3, hb3⟩ : ∃ y, y = b.getD (4 * k + 3) 0 := ⟨_, rfl⟩
      rw [← hb0] at c0 r0
      rw [← hb1] at c1 r1
      rw [← hb2] at c2 r2
      rw [← hb3] at c3 r3
      have HX := Lib.hid (show wdA b (k + 1) = (wdA b k).set k (word32 b0 b1 b2 b3) by rw [wdA, hb0, hb1, hb2, hb3])
      clear hr hb0 hb1 hb2 hb3
      simp only [Addr.add_succ'] at c1 c2 c3
      have h0 : 0 ≤ 4 * (k : Int) := by omega
      have h1 : 4 * (k : Int) + 3 < len := by omega
      have h2 : 0 ≤ 4 * (k : Int) + 1 := by omega
      have h3 : 0 ≤ 4 * (k : Int) + 2 := by omega
      have h4 : 0 ≤ 4 * (k : Int) + 3 := by omega
      have h5 : 4 * (k : Int) < len := by omega
      have h6 : 4 * (k : Int) + 1 < len := by omega
      have h7 : 4 * (k : Int) + 2 < len := by omega
      have t0 : (4 * (k : Int)).toNat = 4 * k := by omega
      have t1 : (4 * (k : Int) + 1).toNat = 4 * k + 1 := by omega
      have t2 : (4 * (k : Int) + 2).toNat = 4 * k + 2 := by omega
      have t3 : (4 * (k : Int) + 3).toNat = 4 * k + 3 := by omega
      have z0 : IntKind.i64.wrap (4 * (k : Int)) = 4 * (k : Int) := IntWalk.i64_in _ (by omega)
      have z1 : IntKind.i64.wrap (4 * (k : Int) + 1) = 4 * (k : Int) + 1 := IntWalk.i64_in _ (by omega)
      have z2 : IntKind.i64.wrap (4 * (k : Int) + 2) = 4 * (k : Int) + 2 := IntWalk.i64_in _ (by omega)
      have z3 : IntKind.i64.wrap (4 * (k : Int) + 3) = 4 * (k : Int) + 3 := IntWalk.i64_in _ (by omega)
      have h8 : 0 ≤ (k : Int) := by omega
      have h9 : (k : Int) < 64 := by omega
      have y0 : IntKind.u32.wrap b0 = b0 := IntWalk.u32_in _ (by omega)
      have y1 : IntKind.u32.wrap b1 = b1 := IntWalk.u32_in _ (by omega)
      have y2 : IntKind.u32.wrap b2 = b2 := IntWalk.u32_in _ (by omega)
      have y3 : IntKind.u32.wrap b3 = b3 := IntWalk.u32_in _ (by omega)
      have y4 : IntKind.u32.wrap (b0 * 16777216) = b0 * 16777216 := IntWalk.u32_in _ (by omega)
      have y5 : IntKind.u32.wrap (b1 * 65536) = b1 * 65536 := IntWalk.u32_in _ (by omega)
      have y6 : IntKind.u32.wrap (b2 * 256) = b2 * 256 := IntWalk.u32_in _ (by omega)
      (repeat (first | (refine gSeq_skip rfl (by rfl) ?_; (try simp only [Act.put, Act.eval, List.setIfInBounds_toArray, List.set_cons_zero, List.set_cons_succ, Array.getD_eq_getD_getElem?, List.getElem?_toArray, List.getElem?_cons_succ, List.getElem?_cons_zero, Option.getD_some])) | (refine gSeq_move _ rfl rfl (by rfl) ?_; (try simp only [Act.put, Act.eval, List.setIfInBounds_toArray, List.set_cons_zero, List.set_cons_succ, Array.getD_eq_getD_getElem?, List.getElem?_toArray, List.getElem?_cons_succ, List.getElem?_cons_zero, Option.getD_some])) | (refine gSeq_assign _ rfl rfl (by rfl) ?_; (try simp only [Act.put, Act.eval, List.setIfInBounds_toArray, List.set_cons_zero, List.set_cons_succ, Array.getD_eq_getD_getElem?, List.getElem?_toArray, List.getElem?_cons_succ, List.getElem?_cons_zero, Option.getD_some])) | ((refine gSeq_put_int rfl (by rfl) HK.out _ _ _ rfl _ _ _ _ rfl rfl _ _ _ (by first | exact Upd.here _ | exact Upd.next _ (Upd.here _) | exact Upd.next _ (Upd.next _ (Upd.here _)) | exact Upd.next _ (Upd.next _ (Upd.next _ (Upd.here _))) | exact Upd.next _ (Upd.next _ (Upd.next _ (Upd.next _ (Upd.here _)))) | exact Upd.next _ (Upd.next _ (Upd.next _ (Upd.next _ (Upd.next _ (Upd.here _))))) | exact Upd.next _ (Upd.next _ (Upd.next _ (Upd.next _ (Upd.next _ (Upd.next _ (Upd.here _)))))) | exact Upd.next _ (Upd.next _ (Upd.next _ (Upd.next _ (Upd.next _ (Upd.next _ (Upd.next _ (Upd.here _))))))) | exact Upd.next _ (Upd.next _ (Upd.next _ (Upd.next _ (Upd.next _ (Upd.next _ (Upd.next _ (Upd.next _ (Upd.here _)))))))) | exact Upd.next _ (Upd.next _ (Upd.next _ (Upd.next _ (Upd.next _ (Upd.next _ (Upd.next _ (Upd.next _ (Upd.next _ (Upd.here _)))))))))) (by omega) (by kernel_rfl) ?_; (intro wn hkn; have HKN := Lib.hid hkn; clear hkn; clear HK; have HK := HKN; clear HKN); (try simp only [Act.put, Act.eval, List.setIfInBounds_toArray, List.set_cons_zero, List.set_cons_succ, Array.getD_eq_getD_getElem?, List.getElem?_toArray, List.getElem?_cons_succ, List.getElem?_cons_zero, Option.getD_some]))) | (refine gSeq_pure rfl (by rfl) ?_ ?_ ?_; (rotate_left; (intro w'; (try (have d0 := hG.cell c0 (by simp); have d1 := hG.cell c1 (by simp); have d2 := hG.cell c2 (by simp); have d3 := hG.cell c3 (by simp))); go_simp; (first | done | with_reducible rfl)); (try simp only [Act.put, Act.eval, List.setIfInBounds_toArray, List.set_cons_zero, List.set_cons_succ, Array.getD_eq_getD_getElem?, List.getElem?_toArray, List.getElem?_cons_succ, List.getElem?_cons_zero, Option.getD_some]))) | (refine gSeq_still rfl (by rfl) ?_ ?_ ?_; (rotate_left; (intro w' hG; (try (have d0 := hG.cell c0 (by simp); have d1 := hG.cell c1 (by simp); have d2 := hG.cell c2 (by simp); have d3 := hG.cell c3 (by simp))); go_simp; (first | done | with_reducible rfl)); (try simp only [Act.put, Act.eval, List.setIfInBounds_toArray, List.set_cons_zero, List.set_cons_succ, Array.getD_eq_getD_getElem?, List.getElem?_toArray, List.getElem?_cons_succ, List.getElem?_cons_zero, Option.getD_some])))))
      refine gSeq_nil ?_
      have HK' : Hid (Own w wn [.ints p .u32 49 64 (wdA b (k + 1)), .ints q .u32 49 64 (List.replicate 64 0)]) := by rw [HX.out]; exact HK
      clear HK
      have HK := HK'
      clear HK' t0 t1 t2 t3 z0 z1 z2 z3 y0 y1 y2 y3 y4 y5 y6 c0 c1 c2 c3
      go_wp2_with fail
      exact ⟨⟨k + 1, by omega, by go_num, HK⟩, by simp [intOf]; omega⟩
    · have : k = 16 := by omega
      subst this
      rw [show ((16 : Nat) : Int) = 16 from rfl]
      go_wp2_with fail
      clear hlt hk
      go_loopw [5] (fun v wr => ∃ k : Nat, k ≤ 48 ∧ v = .int .i64 (16 + (k : Int)) ∧ Hid (Own w wr [.ints p .u32 49 64 (wdB (wdA b 16) k), .ints q .u32 49 64 (List.replicate 64 0)])) (fun v _ => 64 - (intOf v).toNat)
      case atStart => exact ⟨0, by omega, rfl, HK⟩
      case round =>
        obtain ⟨k, hk, rfl, HK'⟩ := hrel
        clear HK
        have HK := HK'
        clear HK'
        by_cases hlt : k < 48
        · obtain ⟨l, hl0⟩ : ∃ l, l = wdB (wdA b 16) k := ⟨_, rfl⟩
          have HO := Lib.hid (show okB 4294967296 l by rw [hl0]; exact ok_wdB (ok_wdA b 16) k)
          have HX := Lib.hid (show wdB (wdA b 16) (k + 1) = l.set (16 + k) (wdN l k) by rw [wdB, hl0])
          rw [← hl0] at HK
          clear hl0
          have h0 : (16 : Int) + k < 64 := by omega
          have h1 : (0 : Int) ≤ 16 + k := by omega
          have hk0 : (0 : Int) ≤ k := by omega
          go_wp2_with fail
          refine wp_region_grow [(2, 0), (2, 1), (2, 2), (1, 3), (2, 4), (2, 5), (2, 6), (1, 7), (2, 8), (2, 9)] (by kernel_rfl) (by kernel_rfl) (fun _ _ _ _ _ h => h) (fun _ _ _ _ _ h => h) ?_
          refine gSeq_own HK.out fun wn hkn gn ein => ?_
          have HKN := Lib.hid hkn
          clear hkn HK
          have HK := HKN
          clear HKN
          clear gn ein
          have z0 : IntKind.i64.wrap (16 + (k : Int) - 15) = (k : Int) + 1 := by rw [IntWalk.i64_in _ (by omega)]; omega
          have z1 : IntKind.i64.wrap (16 + (k : Int) - 2) = (k : Int) + 14 := by rw [IntWalk.i64_in _ (by omega)]; omega
          have z2 : IntKind.i64.wrap (16 + (k : Int) - 16) = (k : Int) := by rw [IntWalk.i64_in _ (by omega)]; omega
          have z3 : IntKind.i64.wrap (16 + (k : Int) - 7) = (k : Int) + 9 := by rw [IntWalk.i64_in _ (by omega)]; omega
          have t0 : ((k : Int) + 1).toNat = k + 1 := by omega
          have t1 : ((k : Int) + 14).toNat = k + 14 := by omega
          have t2 : ((k : Int) + 9).toNat = k + 9 := by omega
          have t3 : (16 + (k : Int)).toNat = 16 + k := by omega
          have h2 : (k : Int) + 1 < 64 := by omega
          have h3 : (k : Int) + 14 < 64 := by omega
          have h4 : (k : Int) + 9 < 64 := by omega
          have h5 : (k : Int) < 64 := by omega
          have h6 : (0 : Int) ≤ (k : Int) + 1 := by omega
          have h7 : (0 : Int) ≤ (k : Int) + 14 := by omega
          have h8 : (0 : Int) ≤ (k : Int) + 9 := by omega
          (repeat (first | (refine gSeq_get_int rfl (by rfl) HK.out _ _ rfl _ _ rfl _ _ _ _ (by first | exact Has.here _ | exact Has.next _ (Has.here _) | exact Has.next _ (Has.next _ (Has.here _)) | exact Has.next _ (Has.next _ (Has.next _ (Has.here _))) | exact Has.next _ (Has.next _ (Has.next _ (Has.next _ (Has.here _)))) | exact Has.next _ (Has.next _ (Has.next _ (Has.next _ (Has.next _ (Has.here _))))) | exact Has.next _ (Has.next _ (Has.next _ (Has.next _ (Has.next _ (Has.next _ (Has.here _)))))) | exact Has.next _ (Has.next _ (Has.next _ (Has.next _ (Has.next _ (Has.next _ (Has.next _ (Has.here _))))))) | exact Has.next _ (Has.next _ (Has.next _ (Has.next _ (Has.next _ (Has.next _ (Has.next _ (Has.next _ (Has.here _)))))))) | exact Has.next _ (Has.next _ (Has.next _ (Has.next _ (Has.next _ (Has.next _ (Has.next _ (Has.next _ (Has.next _ (Has.here _)))))))))) rfl (by omega) ?_; (try simp only [Act.put, Act.eval, List.setIfInBounds_toArray, List.set_cons_zero, List.set_cons_succ, Array.getD_eq_getD_getElem?, List.getElem?_toArray, List.getElem?_cons_succ, List.getElem?_cons_zero, Option.getD_some])) | (refine gSeq_skip rfl (by rfl) ?_; (try simp only [Act.put, Act.eval, List.setIfInBounds_toArray, List.set_cons_zero, List.set_cons_succ, Array.getD_eq_getD_getElem?, List.getElem?_toArray, List.getElem?_cons_succ, List.getElem?_cons_zero, Option.getD_some])) | (refine gSeq_move _ rfl rfl (by rfl) ?_; (try simp only [Act.put, Act.eval, List.setIfInBounds_toArray, List.set_cons_zero, List.set_cons_succ, Array.getD_eq_getD_getElem?, List.getElem?_toArray, List.getElem?_cons_succ, List.getElem?_cons_zero, Option.getD_some])) | (refine gSeq_assign _ rfl rfl (by rfl) ?_; (try simp only [Act.put, Act.eval, List.setIfInBounds_toArray, List.set_cons_zero, List.set_cons_succ, Array.getD_eq_getD_getElem?, List.getElem?_toArray, List.getElem?_cons_succ, List.getElem?_cons_zero, Option.getD_some])) | (refine gSeq_pure rfl (by rfl) ?_ ?_ ?_; (rotate_left; (intro w'; (skip); go_simp; (first | done | with_reducible rfl)); (try simp only [Act.put, Act.eval, List.setIfInBounds_toArray, List.set_cons_zero, List.set_cons_succ, Array.getD_eq_getD_getElem?, List.getElem?_toArray, List.getElem?_cons_succ, List.getElem?_cons_zero, Option.getD_some]))) | (fail) | (refine gSeq_still rfl (by rfl) ?_ ?_ ?_; (rotate_left; (intro w' hG; (skip); go_simp; (first | done | with_reducible rfl)); (try simp only [Act.put, Act.eval, List.setIfInBounds_toArray, List.set_cons_zero, List.set_cons_succ, Array.getD_eq_getD_getElem?, List.getElem?_toArray, List.getElem?_cons_succ, List.getElem?_cons_zero, Option.getD_some])))))
          refine gSeq_nil ?_
          clear z0 z1 z2 z3 t0 t1 t2 t3
          have e1 := ok_getD (by decide) HO.out (k + 1)
          have e2 := ok_getD (by decide) HO.out (k + 14)
          obtain ⟨x1, hx1⟩ : ∃ y, y = l.getD (k + 1) 0 := ⟨_, rfl⟩
          obtain ⟨x14, hx14⟩ : ∃ y, y = l.getD (k + 14) 0 := ⟨_, rfl⟩
          rw [← hx1] at e1 ⊢
          rw [← hx14] at e2 ⊢
          have HX1 := Lib.hid hx1
          have HX14 := Lib.hid hx14
          obtain ⟨e3, e4⟩ := e1
          obtain ⟨e5, e6⟩ := e2
          clear hx1 hx14
          go_wp2_with (first | ((go_at_call 28; with_reducible refine (rotl32_7 _ e3 e4 _).mono ?_); (rintro e w1 ⟨rfl, hww⟩; subst hww)) | ((go_at_call 28; with_reducible refine (rotl32_18 _ e3 e4 _).mono ?_); (rintro e w1 ⟨rfl, hww⟩; subst hww)) | ((go_at_call 28; with_reducible refine (rotl32_17 _ e5 e6 _).mono ?_); (rintro e w1 ⟨rfl, hww⟩; subst hww)) | ((go_at_call 28; with_reducible refine (rotl32_19 _ e5 e6 _).mono ?_); (rintro e w1 ⟨rfl, hww⟩; subst hww)))
          refine wp_region_grow [(2, 0), (2, 1), (2, 2), (2, 3), (1, 4), (2, 5), (2, 6), (2, 7), (2, 8), (2, 9), (1, 10), (2, 11), (2, 12), (2, 13), (2, 14), (3, 15)] (by kernel_rfl) (by kernel_rfl) (fun _ _ _ _ _ h => h) (fun _ _ _ _ _ h => h) ?_
          refine gSeq_own HK.out fun wn hkn gn ein => ?_
          have HKN := Lib.hid hkn
          clear hkn HK
          have HK := HKN
          clear HKN
          clear gn ein
          have z2 : IntKind.i64.wrap (16 + (k : Int) - 16) = (k : Int) := by rw [IntWalk.i64_in _ (by omega)]; omega
          have z3 : IntKind.i64.wrap (16 + (k : Int) - 7) = (k : Int) + 9 := by rw [IntWalk.i64_in _ (by omega)]; omega
          have t2 : ((k : Int) + 9).toNat = k + 9 := by omega
          have t3 : (16 + (k : Int)).toNat = 16 + k := by omega
          (repeat (first | (refine gSeq_get_int rfl (by rfl) HK.out _ _ rfl _ _ rfl _ _ _ _ (by first | exact Has.here _ | exact Has.next _ (Has.here _) | exact Has.next _ (Has.next _ (Has.here _)) | exact Has.next _ (Has.next _ (Has.next _ (Has.here _))) | exact Has.next _ (Has.next _ (Has.next _ (Has.next _ (Has.here _)))) | exact Has.next _ (Has.next _ (Has.next _ (Has.next _ (Has.next _ (Has.here _))))) | exact Has.next _ (Has.next _ (Has.next _ (Has.next _ (Has.next _ (Has.next _ (Has.here _)))))) | exact Has.next _ (Has.next _ (Has.next _ (Has.next _ (Has.next _ (Has.next _ (Has.next _ (Has.here _))))))) | exact Has.next _ (Has.next _ (Has.next _ (Has.next _ (Has.next _ (Has.next _ (Has.next _ (Has.next _ (Has.here _)))))))) | exact Has.next _ (Has.next _ (Has.next _ (Has.next _ (Has.next _ (Has.next _ (Has.next _ (Has.next _ (Has.next _ (Has.here _)))))))))) rfl (by omega) ?_; (try simp only [Act.put, Act.eval, List.setIfInBounds_toArray, List.set_cons_zero, List.set_cons_succ, Array.getD_eq_getD_getElem?, List.getElem?_toArray, List.getElem?_cons_succ, List.getElem?_cons_zero, Option.getD_some])) | (refine gSeq_skip rfl (by rfl) ?_; (try simp only [Act.put, Act.eval, List.setIfInBounds_toArray, List.set_cons_zero, List.set_cons_succ, Array.getD_eq_getD_getElem?, List.getElem?_toArray, List.getElem?_cons_succ, List.getElem?_cons_zero, Option.getD_some])) | (refine gSeq_move _ rfl rfl (by rfl) ?_; (try simp only [Act.put, Act.eval, List.setIfInBounds_toArray, List.set_cons_zero, List.set_cons_succ, Array.getD_eq_getD_getElem?, List.getElem?_toArray, List.getElem?_cons_succ, List.getElem?_cons_zero, Option.getD_some])) | (refine gSeq_assign _ rfl rfl (by rfl) ?_; (try simp only [Act.put, Act.eval, List.setIfInBounds_toArray, List.set_cons_zero, List.set_cons_succ, Array.getD_eq_getD_getElem?, List.getElem?_toArray, List.getElem?_cons_succ, List.getElem?_cons_zero, Option.getD_some])) | (refine gSeq_pure rfl (by rfl) ?_ ?_ ?_; (rotate_left; (intro w'; (skip); go_simp; (first | done | with_reducible rfl)); (try simp only [Act.put, Act.eval, List.setIfInBounds_toArray, List.set_cons_zero, List.set_cons_succ, Array.getD_eq_getD_getElem?, List.getElem?_toArray, List.getElem?_cons_succ, List.getElem?_cons_zero, Option.getD_some]))) | ((refine gSeq_put_int rfl (by rfl) HK.out _ _ _ rfl _ _ _ _ rfl rfl _ _ _ (by first | exact Upd.here _ | exact Upd.next _ (Upd.here _) | exact Upd.next _ (Upd.next _ (Upd.here _)) | exact Upd.next _ (Upd.next _ (Upd.next _ (Upd.here _))) | exact Upd.next _ (Upd.next _ (Upd.next _ (Upd.next _ (Upd.here _)))) | exact Upd.next _ (Upd.next _ (Upd.next _ (Upd.next _ (Upd.next _ (Upd.here _))))) | exact Upd.next _ (Upd.next _ (Upd.next _ (Upd.next _ (Upd.next _ (Upd.next _ (Upd.here _)))))) | exact Upd.next _ (Upd.next _ (Upd.next _ (Upd.next _ (Upd.next _ (Upd.next _ (Upd.next _ (Upd.here _))))))) | exact Upd.next _ (Upd.next _ (Upd.next _ (Upd.next _ (Upd.next _ (Upd.next _ (Upd.next _ (Upd.next _ (Upd.here _)))))))) | exact Upd.next _ (Upd.next _ (Upd.next _ (Upd.next _ (Upd.next _ (Upd.next _ (Upd.next _ (Upd.next _ (Upd.next _ (Upd.here _)))))))))) (by omega) (by kernel_rfl) ?_; (intro wn hkn; have HKN := Lib.hid hkn; clear hkn; clear HK; have HK := HKN; clear HKN); (try simp only [Act.put, Act.eval, List.setIfInBounds_toArray, List.set_cons_zero, List.set_cons_succ, Array.getD_eq_getD_getElem?, List.getElem?_toArray, List.getElem?_cons_succ, List.getElem?_cons_zero, Option.getD_some]))) | (refine gSeq_still rfl (by rfl) ?_ ?_ ?_; (rotate_left; (intro w' hG; (skip); go_simp; (first | done | with_reducible rfl)); (try simp only [Act.put, Act.eval, List.setIfInBounds_toArray, List.set_cons_zero, List.set_cons_succ, Array.getD_eq_getD_getElem?, List.getElem?_toArray, List.getElem?_cons_succ, List.getElem?_cons_zero, Option.getD_some])))))
          refine gSeq_nil ?_
          clear z2 z3 t2 t3
          have HK' : Hid (Own w wn [.ints p .u32 49 64 (wdB (wdA b 16) (k + 1)), .ints q .u32 49 64 (List.replicate 64 0)]) := by rw [HX.out, wdN, ← HX1.out, ← HX14.out]; exact HK
          clear HK
          have HK := HK'
          clear HK'
          go_wp2_with fail
          exact ⟨⟨k + 1, by omega, by go_num, HK⟩, by simp [intOf]; omega⟩
        · have : k = 48 := by omega
          subst this
          clear hlt hk
          go_wp2_with (first | (refine wpList_get_row rfl HK.out 49 _ rfl _ rfl _ _ _ _ (by first | exact Has.here _ | exact Has.next _ (Has.here _) | exact Has.next _ (Has.next _ (Has.here _)) | exact Has.next _ (Has.next _ (Has.next _ (Has.here _))) | exact Has.next _ (Has.next _ (Has.next _ (Has.next _ (Has.here _)))) | exact Has.next _ (Has.next _ (Has.next _ (Has.next _ (Has.next _ (Has.here _))))) | exact Has.next _ (Has.next _ (Has.next _ (Has.next _ (Has.next _ (Has.next _ (Has.here _)))))) | exact Has.next _ (Has.next _ (Has.next _ (Has.next _ (Has.next _ (Has.next _ (Has.next _ (Has.here _))))))) | exact Has.next _ (Has.next _ (Has.next _ (Has.next _ (Has.next _ (Has.next _ (Has.next _ (Has.next _ (Has.here _)))))))) | exact Has.next _ (Has.next _ (Has.next _ (Has.next _ (Has.next _ (Has.next _ (Has.next _ (Has.next _ (Has.next _ (Has.here _)))))))))) _ Try.underlying49 rfl (by kernel_rfl) ?_) | (refine wpList_put_row rfl HK.out 49 _ _ rfl _ _ (wdB (wdA b 16) 48) rfl rfl _ _ _ (by first | exact Upd.here _ | exact Upd.next _ (Upd.here _) | exact Upd.next _ (Upd.next _ (Upd.here _)) | exact Upd.next _ (Upd.next _ (Upd.next _ (Upd.here _))) | exact Upd.next _ (Upd.next _ (Upd.next _ (Upd.next _ (Upd.here _)))) | exact Upd.next _ (Upd.next _ (Upd.next _ (Upd.next _ (Upd.next _ (Upd.here _))))) | exact Upd.next _ (Upd.next _ (Upd.next _ (Upd.next _ (Upd.next _ (Upd.next _ (Upd.here _)))))) | exact Upd.next _ (Upd.next _ (Upd.next _ (Upd.next _ (Upd.next _ (Upd.next _ (Upd.next _ (Upd.here _))))))) | exact Upd.next _ (Upd.next _ (Upd.next _ (Upd.next _ (Upd.next _ (Upd.next _ (Upd.next _ (Upd.next _ (Upd.here _)))))))) | exact Upd.next _ (Upd.next _ (Upd.next _ (Upd.next _ (Upd.next _ (Upd.next _ (Upd.next _ (Upd.next _ (Upd.next _ (Upd.here _)))))))))) (by rw [length_wdB, length_wdA]) (by kernel_rfl) ?_; (intro wn hkn; have HKN := Lib.hid hkn; clear hkn; clear HK; have HK := HKN; clear HKN)))
          exact bodyPost_ret (results_own rfl _ HK.out _ rfl (by first | exact Has.here _ | exact Has.next _ (Has.here _) | exact Has.next _ (Has.next _ (Has.here _)) | exact Has.next _ (Has.next _ (Has.next _ (Has.here _))) | exact Has.next _ (Has.next _ (Has.next _ (Has.next _ (Has.here _)))) | exact Has.next _ (Has.next _ (Has.next _ (Has.next _ (Has.next _ (Has.here _))))) | exact Has.next _ (Has.next _ (Has.next _ (Has.next _ (Has.next _ (Has.next _ (Has.here _)))))) | exact Has.next _ (Has.next _ (Has.next _ (Has.next _ (Has.next _ (Has.next _ (Has.next _ (Has.here _))))))) | exact Has.next _ (Has.next _ (Has.next _ (Has.next _ (Has.next _ (Has.next _ (Has.next _ (Has.next _ (Has.here _)))))))) | exact Has.next _ (Has.next _ (Has.next _ (Has.next _ (Has.next _ (Has.next _ (Has.next _ (Has.next _ (Has.next _ (Has.here _)))))))))) _ Try.underlying49 rfl (by kernel_rfl)) rfl ⟨rfl, HK.out.grown⟩
end Go.Proofs.Ytjogdbiaiflmpaa
