/- HMAC's padding of a key, walked. -/
import Derived.Test.YtjogdbiaiflmpaaHkA
import Derived.Test.YtjogdbiaiflmpaaVal
import Derived.Deep.Cut
namespace Go.Proofs.Ytjogdbiaiflmpaa
set_option linter.unusedVariables false
set_option linter.unusedSimpArgs false
open Go.RowKit Go.Proofs.YtjogdbiaiflmpaaL

theorem parts_cell {w : World} {s : Nat} {T : TypeId} {L : List Bs} (h : w.heap[s]? = some (.cells (L.map Bs.val).toArray T (0, 0))) : ∀ i b, L[i]? = some b → ∃ x, some (⟨s, 0, none⟩ : Addr) = some x ∧ w.cell? (x.add i) = some b.val :=
  fun i b hb => ⟨_, rfl, by
    rw [Addr.add_mid, Nat.zero_add]
    exact row_cell h i _ (by simp [hb])⟩
theorem sum256_row (s : Nat) (L : List Bs) (n : Nat) (w : World) (h : w.heap[s]? = some (.cells (L.map Bs.val).toArray 22 (0, 0))) (hok : ∀ b ∈ L, b.ok w) (hn : L.length = n) (hlen : n ≤ 30) :
    Calls Try.prog 22 #[.slice (some ⟨s, 0, none⟩) n n] w fun e w' => e = .returned (.agg (encK .u8 (sum32 (catB L)))) ∧ w.grownBy w' none :=
  sum256_any _ n n L w hn (parts_cell h) hok hlen
theorem one_ok {w : World} {B : Bs} (h : B.ok w) : ∀ b ∈ [B], b.ok w := fun b hb => by rw [List.mem_singleton] at hb; subst hb; exact h
theorem cat_one (B : Bs) : catB [B] = B.xs := List.append_nil _
theorem pad_copied (xs : List Int) (n : Nat) (hl : xs.length = n) (h : n ≤ 64) : (zer 64).take 0 ++ xs.take n ++ (zer 64).drop (0 + n) = padTo xs := by
  rw [List.take_zero, List.nil_append, List.take_of_length_le (by omega), padTo, hl, Nat.zero_add, zer, List.drop_replicate, zer]

set_option maxHeartbeats 4000000 in
set_option maxRecDepth 100000 in
theorem pad_any (B : Bs) (y : Int) (w : World) (hb : B.ok w) (hy0 : 0 ≤ y) (hy1 : y < 256) :
    Calls Try.prog 23 #[B.val, .int .u8 y] w fun e w' => ∃ v, e = .returned v ∧ w'.ownsRow w.heap.size 5 1 v 64 ((xorL y (kpad B.xs)).map (Value.int .u8)) ∧ w.grownBy w' none := by
  obtain ⟨ad, n, cap, xs⟩ := B
  have HB := Lib.hid (fun (w' : World) (g : w.grownBy w' none) => Bs.ok_keep hb g)
  have hn3 : n ≤ 3000 := hb.2.2.2
  have hxl : xs.length = n := hb.1.1
  have HXL := Lib.hid hxl
  clear hb
  show Calls Try.prog _ #[.slice ad n cap, .int .u8 y] w fun e w' => ∃ v, e = .returned v ∧ w'.ownsRow w.heap.size 5 1 v 64 ((xorL y (padTo (kcore xs))).map (Value.int .u8)) ∧ w.grownBy w' none
  have HC1 := Lib.hid (fun (h : n ≤ 64) => show kcore xs = xs by rw [kcore, if_pos (by omega)])
  have HC2 := Lib.hid (fun (h : ¬ n ≤ 64) => show kcore xs = sum32 xs by rw [kcore, if_neg (by omega)])
  obtain ⟨kc, hkc⟩ : ∃ kc, kc = kcore xs := ⟨_, rfl⟩
  rw [← hkc] at HC1 HC2 ⊢
  clear hkc hxl
  obtain ⟨l, hl⟩ : ∃ l, l = padTo kc := ⟨_, rfl⟩
  rw [← hl]
  have HLL := Lib.hid hl
  clear hl
  have hni : (n : Int) ≤ 3000 := by omega
  have HK := Lib.hid (own_start w)
  go_enter Try.func23, Try.ntmps23
  go_upto_if 10 with fail
  generalize hbb : decide (64 < (n : Int)) = bb
  have HBB := Lib.hid hbb
  clear hbb
  go_cut [0, 5] from 11 (fun s0 s5 wx => ∃ (ad' : Option Addr) (n' cap' : Nat) (L0 : List It), s0 = .slice ad' n' cap' ∧ n' ≤ 64 ∧ Hid (kc.length = n') ∧ Hid (Own w wx L0) ∧ Hid (∀ w' x, Own w w' (x :: L0) → Rd .u8 w' ad' n' kc))
  case first =>
    cases bb with
    | true =>
      have h64 : ¬ n ≤ 64 := by have := of_decide_eq_true HBB.out; omega
      have HKC := Lib.hid (HC2.out h64)
      clear HBB h64
      go_wp2_with fail
      obtain ⟨sb, hsb⟩ : ∃ sb, w.heap.size = sb := ⟨_, rfl⟩
      have hkb := HK.out.blk (.cells #[Value.slice ad n cap] 22 (0, 0)) hsb
      rw [hsb]
      clear hsb
      generalize w.alloc (.cells #[Value.slice ad n cap] 22 (0, 0)) = wn at hkb ⊢
      clear HK
      have HK := Lib.hid hkb
      clear hkb
      refine (sum256_row _ [⟨ad, n, cap, xs⟩] 1 _ (HK.out.at (.here _)) (one_ok (HB.out _ HK.out.grown)) rfl (by decide)).mono ?_
      rintro e wn ⟨rfl, hg⟩
      rw [show catB [(⟨ad, n, cap, xs⟩ : Bs)] = xs from cat_one _, ← HKC.out]
      have hkb := (HK.out.sub (List.Sublist.cons _ (List.Sublist.refl _))).grow hg
      clear hg
      clear HK
      have HK := Lib.hid hkb
      clear hkb
      have HSL := Lib.hid (show kc.length = 32 by rw [HKC.out, length_sum32])
      go_wp2_with ((refine wpList_new_ints rfl HK.out _ rfl .u8 26 32 (zer 32) (length_zer _) (fun w => by go_simp; first | exact ⟨rfl, rfl⟩ | kernel_rfl) ?_))
      intro wn ph hkn
      have HKN := Lib.hid hkn
      clear hkn HK
      have HK := HKN
      clear HKN
      go_wp2_with (refine wpList_put_row rfl HK.out 26 _ _ rfl _ _ kc rfl rfl _ _ _ (by first | exact Upd.here _ | exact Upd.next _ (Upd.here _) | exact Upd.next _ (Upd.next _ (Upd.here _)) | exact Upd.next _ (Upd.next _ (Upd.next _ (Upd.here _))) | exact Upd.next _ (Upd.next _ (Upd.next _ (Upd.next _ (Upd.here _)))) | exact Upd.next _ (Upd.next _ (Upd.next _ (Upd.next _ (Upd.next _ (Upd.here _))))) | exact Upd.next _ (Upd.next _ (Upd.next _ (Upd.next _ (Upd.next _ (Upd.next _ (Upd.here _)))))) | exact Upd.next _ (Upd.next _ (Upd.next _ (Upd.next _ (Upd.next _ (Upd.next _ (Upd.next _ (Upd.here _))))))) | exact Upd.next _ (Upd.next _ (Upd.next _ (Upd.next _ (Upd.next _ (Upd.next _ (Upd.next _ (Upd.next _ (Upd.here _)))))))) | exact Upd.next _ (Upd.next _ (Upd.next _ (Upd.next _ (Upd.next _ (Upd.next _ (Upd.next _ (Upd.next _ (Upd.next _ (Upd.here _)))))))))) (by exact HSL.out) (by kernel_rfl) ?_; (intro wn hkn; have HKN := Lib.hid hkn; clear hkn; clear HK; have HK := HKN; clear HKN))
      go_meet
      case rel => exact ⟨some ⟨ph, 0, none⟩, 32, 32, _, rfl, by decide, HSL, HK, Lib.hid (fun w' x hk => hk.rd (.next _ (.here _)))⟩
    | false =>
      have h64 : n ≤ 64 := by have := of_decide_eq_false HBB.out; omega
      have HKC := Lib.hid (HC1.out h64)
      clear HBB
      go_wp2_with fail
      go_meet
      case rel => exact ⟨ad, n, cap, [], rfl, h64, Lib.hid (by rw [HKC.out]; exact HXL.out), HK, Lib.hid (fun w' x hk => by rw [HKC.out]; exact (HB.out w' hk.grown).1)⟩
  case rest =>
    obtain ⟨ad', n', cap', L0, rfl, hn', HKL, HK', HRD⟩ := hcut
    clear HK
    have HK := HK'
    clear HK' HC1 HC2 HB HXL hn3 hni HBB
    have hni : (n' : Int) ≤ 64 := by omega
    go_wp2_with (refine Go.Proofs.YtjogdbiaiflmpaaL.wpList_make_ints rfl HK.out _ _ 22 rfl 5 .u8 1 Try.underlying22 (by kernel_rfl) 64 _ rfl rfl rfl (by decide) (by decide) ?_)
    intro wn p hk
    clear HK
    have HK := Lib.hid hk
    clear hk
    go_wp2_with (refine wpList_stop 18 rfl ?_)
    rintro w' rfl
    (refine Go.Proofs.YtjogdbiaiflmpaaL.wpList_copy_own rfl HK.out _ _ 22 22 rfl 5 p 0 64 64 ad' n' cap' .u8 5 64 (zer 64) kc Try.underlying22 (by kernel_rfl) rfl rfl (HRD.out _ _ HK.out) n' (by omega) (by omega) (by first | exact Upd.here _ | exact Upd.next _ (Upd.here _) | exact Upd.next _ (Upd.next _ (Upd.here _)) | exact Upd.next _ (Upd.next _ (Upd.next _ (Upd.here _))) | exact Upd.next _ (Upd.next _ (Upd.next _ (Upd.next _ (Upd.here _)))) | exact Upd.next _ (Upd.next _ (Upd.next _ (Upd.next _ (Upd.next _ (Upd.here _))))) | exact Upd.next _ (Upd.next _ (Upd.next _ (Upd.next _ (Upd.next _ (Upd.next _ (Upd.here _)))))) | exact Upd.next _ (Upd.next _ (Upd.next _ (Upd.next _ (Upd.next _ (Upd.next _ (Upd.next _ (Upd.here _))))))) | exact Upd.next _ (Upd.next _ (Upd.next _ (Upd.next _ (Upd.next _ (Upd.next _ (Upd.next _ (Upd.next _ (Upd.here _)))))))) | exact Upd.next _ (Upd.next _ (Upd.next _ (Upd.next _ (Upd.next _ (Upd.next _ (Upd.next _ (Upd.next _ (Upd.next _ (Upd.here _)))))))))) ?_)
    intro wn hk
    rw [pad_copied kc n' HKL.out hn', ← HLL.out] at hk
    clear HK
    have HK := Lib.hid hk
    clear hk
    have HPL := Lib.hid (show l.length = 64 by rw [HLL.out]; exact length_padTo (by rw [HKL.out]; exact hn'))
    clear HRD HKL HLL
    go_wp2_with fail
    go_loopw [21] (fun v wr => ∃ (j : Nat), j ≤ 64 ∧ v = .int .i64 j ∧ Hid (Own w wr (.ints p .u8 5 64 (xorN y l j) :: L0))) (fun v _ => 64 - (intOf v).toNat)
    case atStart => exact ⟨0, by omega, rfl, HK⟩
    case round =>
      obtain ⟨j, hj, rfl, HK'⟩ := hrel
      clear HK
      have HK := HK'
      clear HK'
      by_cases hlt : j < 64
      · have hj0 : (0 : Int) ≤ j := by omega
        have hj1 : (j : Int) < 64 := by omega
        obtain ⟨A, hA⟩ : ∃ A, A = xorN y l j := ⟨_, rfl⟩
        rw [← hA] at HK
        have HNA := Lib.hid (show xorN y l (j + 1) = A.set j (bits .xor .u8 (A.getD j 0) y) by rw [xorN, hA])
        clear hA
        go_wp2_with (first | (refine wpList_get_int rfl HK.out _ _ rfl _ _ rfl _ _ _ _ (by first | exact Has.here _ | exact Has.next _ (Has.here _) | exact Has.next _ (Has.next _ (Has.here _)) | exact Has.next _ (Has.next _ (Has.next _ (Has.here _))) | exact Has.next _ (Has.next _ (Has.next _ (Has.next _ (Has.here _)))) | exact Has.next _ (Has.next _ (Has.next _ (Has.next _ (Has.next _ (Has.here _))))) | exact Has.next _ (Has.next _ (Has.next _ (Has.next _ (Has.next _ (Has.next _ (Has.here _)))))) | exact Has.next _ (Has.next _ (Has.next _ (Has.next _ (Has.next _ (Has.next _ (Has.next _ (Has.here _))))))) | exact Has.next _ (Has.next _ (Has.next _ (Has.next _ (Has.next _ (Has.next _ (Has.next _ (Has.next _ (Has.here _)))))))) | exact Has.next _ (Has.next _ (Has.next _ (Has.next _ (Has.next _ (Has.next _ (Has.next _ (Has.next _ (Has.next _ (Has.here _)))))))))) rfl (by omega) ?_) | (refine wpList_put_int rfl HK.out _ _ _ rfl _ _ _ _ rfl rfl _ _ _ (by first | exact Upd.here _ | exact Upd.next _ (Upd.here _) | exact Upd.next _ (Upd.next _ (Upd.here _)) | exact Upd.next _ (Upd.next _ (Upd.next _ (Upd.here _))) | exact Upd.next _ (Upd.next _ (Upd.next _ (Upd.next _ (Upd.here _)))) | exact Upd.next _ (Upd.next _ (Upd.next _ (Upd.next _ (Upd.next _ (Upd.here _))))) | exact Upd.next _ (Upd.next _ (Upd.next _ (Upd.next _ (Upd.next _ (Upd.next _ (Upd.here _)))))) | exact Upd.next _ (Upd.next _ (Upd.next _ (Upd.next _ (Upd.next _ (Upd.next _ (Upd.next _ (Upd.here _))))))) | exact Upd.next _ (Upd.next _ (Upd.next _ (Upd.next _ (Upd.next _ (Upd.next _ (Upd.next _ (Upd.next _ (Upd.here _)))))))) | exact Upd.next _ (Upd.next _ (Upd.next _ (Upd.next _ (Upd.next _ (Upd.next _ (Upd.next _ (Upd.next _ (Upd.next _ (Upd.here _)))))))))) (by omega) (by kernel_rfl) ?_; (intro wn hkn; have HKN := Lib.hid hkn; clear hkn; clear HK; have HK := HKN; clear HKN)))
        have HK' : Hid (Own w wn (.ints p .u8 5 64 (xorN y l (j + 1)) :: L0)) := by rw [HNA.out]; exact HK
        exact ⟨⟨j + 1, by omega, by go_num, HK'⟩, by simp [intOf]; omega⟩
      · have hj2 : j = 64 := by omega
        subst hj2
        clear hlt hj
        rw [show ((64 : Nat) : Int) = 64 from rfl]
        have hk := HK.out
        rw [show xorN y l 64 = xorL y l by have := xorN_all y l; rw [HPL.out] at this; exact this] at hk
        clear HK
        have HK := Lib.hid hk
        clear hk
        go_wp2_with fail
        have ho := (HK.out.ints_sl (.here _) (by unfold maxLen; decide)).get (.here _)
        exact bodyPost_ret (results_tmp rfl _ _ _) rfl ⟨.slice (some ⟨p, 0, none⟩) 64 64, rfl, ho, HK.out.grown⟩
end Go.Proofs.Ytjogdbiaiflmpaa
