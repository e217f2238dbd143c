/- The reference's nonce, its noughts up to whole blocks, its eight bytes of a number, walked. -/
import Derived.Test.YthhijeokeljcjaaAeE
import Derived.Test.YthhijeokeljcjaaPolM
namespace Go.Proofs.Ythhijeokeljcjaa
set_option linter.unusedVariables false
set_option linter.unusedSimpArgs false
open Go.RowKit Go.Proofs.YthhijeokeljcjaaL

def nonceP (n : Int) (k : Nat) : List Int := zer 4 ++ digB 256 k n ++ zer (8 - k)
theorem length_nonceP (n : Int) (k : Nat) (h : k ≤ 8) : (nonceP n k).length = 12 := by simp [nonceP, length_zer, length_digB]; omega
theorem nonceP_next (n : Int) (k : Nat) (hk : k < 8) : nonceP n (k + 1) = (nonceP n k).set (4 + k) (n / 256 ^ k % 256) := by
  have hl : (zer 4 ++ digB 256 k n).length = 4 + k := by simp [length_zer, length_digB]
  have hz : zer (8 - k) = 0 :: zer (8 - (k + 1)) := by
    rw [zer, zer, show 8 - k = (8 - (k + 1)) + 1 by omega, List.replicate_succ]
  unfold nonceP
  rw [List.set_append_right _ _ (by omega), hl, Nat.sub_self, hz, List.set_cons_zero, digB_next 256 (by decide)]
  simp

set_option maxHeartbeats 8000000 in
set_option maxRecDepth 100000 in
theorem rnonce_any (n : Int) (w : World) (hn0 : 0 ≤ n) (hn1 : n < 18446744073709551616) :
    Calls Try.prog 17 #[.int .u64 n] w fun e w' => e = .returned (.agg (encK .u8 (nonceL n))) ∧ w.grownBy w' none := by
  have HN0 := Lib.hid hn0
  clear hn1
  have HNL := Lib.hid (length_nonceL n)
  have HK := Lib.hid (own_start w)
  go_enter Try.func17, Try.ntmps17
  go_wp2_with ((refine wpList_new_ints rfl HK.out _ rfl .u8 38 12 (zer 12) (length_zer _) (fun w => by go_simp; first | exact ⟨rfl, rfl⟩ | kernel_rfl) ?_))
  intro wn p2 hkn
  have HKN := Lib.hid hkn
  clear hkn HK
  have HK := HKN
  clear HKN
  go_wp2_with ((refine wpList_new_ints rfl HK.out _ rfl .u8 38 12 (zer 12) (length_zer _) (fun w => by go_simp; first | exact ⟨rfl, rfl⟩ | kernel_rfl) ?_))
  intro wn p3 hkn
  have HKN := Lib.hid hkn
  clear hkn HK
  have HK := HKN
  clear HKN
  go_wp2_with fail
  go_loopw [4] (fun i wr => ∃ (k : Nat), k ≤ 8 ∧ i = .int .i64 k ∧ Hid (Own w wr [.ints p3 .u8 38 12 (nonceP n k), .ints p2 .u8 38 12 (zer 12)])) (fun v _ => 8 - (intOf v).toNat)
  case atStart => exact ⟨0, by omega, rfl, HK⟩
  case round =>
    obtain ⟨k, hk, rfl, HK'⟩ := hrel
    clear HK
    have HK := HK'
    clear HK'
    by_cases hlt : k < 8
    · have hk8 : (k : Int) < 8 := by omega
      have hk0 : (0 : Int) ≤ k := by omega
      have hk1 : 0 ≤ 8 * (k : Int) := by omega
      have hk2 : 4 + (k : Int) < 12 := by omega
      have hk3 : (0 : Int) ≤ 4 + (k : Int) := by omega
      have hk4 : (4 + (k : Int)).toNat = 4 + k := by omega
      have HD := Lib.hid (nonceP_next n k hlt)
      go_wp2_with (refine wpList_put_int rfl HK.out _ _ _ rfl _ _ _ _ rfl rfl _ _ _ (by first | exact Upd.here _ | exact Upd.next _ (Upd.here _) | exact Upd.next _ (Upd.next _ (Upd.here _)) | exact Upd.next _ (Upd.next _ (Upd.next _ (Upd.here _))) | exact Upd.next _ (Upd.next _ (Upd.next _ (Upd.next _ (Upd.here _)))) | exact Upd.next _ (Upd.next _ (Upd.next _ (Upd.next _ (Upd.next _ (Upd.here _))))) | exact Upd.next _ (Upd.next _ (Upd.next _ (Upd.next _ (Upd.next _ (Upd.next _ (Upd.here _)))))) | exact Upd.next _ (Upd.next _ (Upd.next _ (Upd.next _ (Upd.next _ (Upd.next _ (Upd.next _ (Upd.here _))))))) | exact Upd.next _ (Upd.next _ (Upd.next _ (Upd.next _ (Upd.next _ (Upd.next _ (Upd.next _ (Upd.next _ (Upd.here _)))))))) | exact Upd.next _ (Upd.next _ (Upd.next _ (Upd.next _ (Upd.next _ (Upd.next _ (Upd.next _ (Upd.next _ (Upd.next _ (Upd.here _)))))))))) (by omega) (by kernel_rfl) ?_; (intro wn hkn; have HKN := Lib.hid hkn; clear hkn; clear HK; have HK := HKN; clear HKN))
      have hk := HK.out
      rw [pow8, ← HD.out] at hk
      clear HK
      have HK := Lib.hid hk
      clear hk
      exact ⟨⟨k + 1, by omega, by go_num, HK⟩, by simp [intOf]; omega⟩
    · have hk2 : k = 8 := by omega
      subst hk2
      clear hlt hk
      rw [show ((8 : Nat) : Int) = 8 from rfl]
      have hk := HK.out
      rw [show nonceP n 8 = nonceL n by simp [nonceP, nonceL, le8, zer]] at hk
      clear HK
      have HK := Lib.hid hk
      clear hk
      go_wp2_with (first | (refine wpList_get_row rfl HK.out 38 _ rfl _ rfl _ _ _ _ (by first | exact Has.here _ | exact Has.next _ (Has.here _) | exact Has.next _ (Has.next _ (Has.here _)) | exact Has.next _ (Has.next _ (Has.next _ (Has.here _))) | exact Has.next _ (Has.next _ (Has.next _ (Has.next _ (Has.here _)))) | exact Has.next _ (Has.next _ (Has.next _ (Has.next _ (Has.next _ (Has.here _))))) | exact Has.next _ (Has.next _ (Has.next _ (Has.next _ (Has.next _ (Has.next _ (Has.here _)))))) | exact Has.next _ (Has.next _ (Has.next _ (Has.next _ (Has.next _ (Has.next _ (Has.next _ (Has.here _))))))) | exact Has.next _ (Has.next _ (Has.next _ (Has.next _ (Has.next _ (Has.next _ (Has.next _ (Has.next _ (Has.here _)))))))) | exact Has.next _ (Has.next _ (Has.next _ (Has.next _ (Has.next _ (Has.next _ (Has.next _ (Has.next _ (Has.next _ (Has.here _)))))))))) _ Try.underlying38 rfl (by kernel_rfl) ?_) | (refine wpList_put_row rfl HK.out 38 _ _ rfl _ _ (nonceL n) rfl rfl _ _ _ (by first | exact Upd.here _ | exact Upd.next _ (Upd.here _) | exact Upd.next _ (Upd.next _ (Upd.here _)) | exact Upd.next _ (Upd.next _ (Upd.next _ (Upd.here _))) | exact Upd.next _ (Upd.next _ (Upd.next _ (Upd.next _ (Upd.here _)))) | exact Upd.next _ (Upd.next _ (Upd.next _ (Upd.next _ (Upd.next _ (Upd.here _))))) | exact Upd.next _ (Upd.next _ (Upd.next _ (Upd.next _ (Upd.next _ (Upd.next _ (Upd.here _)))))) | exact Upd.next _ (Upd.next _ (Upd.next _ (Upd.next _ (Upd.next _ (Upd.next _ (Upd.next _ (Upd.here _))))))) | exact Upd.next _ (Upd.next _ (Upd.next _ (Upd.next _ (Upd.next _ (Upd.next _ (Upd.next _ (Upd.next _ (Upd.here _)))))))) | exact Upd.next _ (Upd.next _ (Upd.next _ (Upd.next _ (Upd.next _ (Upd.next _ (Upd.next _ (Upd.next _ (Upd.next _ (Upd.here _)))))))))) (by exact HNL.out) (by kernel_rfl) ?_; (intro wn hkn; have HKN := Lib.hid hkn; clear hkn; clear HK; have HK := HKN; clear HKN)))
      exact bodyPost_ret (results_own rfl _ HK.out _ rfl (by first | exact Has.here _ | exact Has.next _ (Has.here _) | exact Has.next _ (Has.next _ (Has.here _)) | exact Has.next _ (Has.next _ (Has.next _ (Has.here _))) | exact Has.next _ (Has.next _ (Has.next _ (Has.next _ (Has.here _)))) | exact Has.next _ (Has.next _ (Has.next _ (Has.next _ (Has.next _ (Has.here _))))) | exact Has.next _ (Has.next _ (Has.next _ (Has.next _ (Has.next _ (Has.next _ (Has.here _)))))) | exact Has.next _ (Has.next _ (Has.next _ (Has.next _ (Has.next _ (Has.next _ (Has.next _ (Has.here _))))))) | exact Has.next _ (Has.next _ (Has.next _ (Has.next _ (Has.next _ (Has.next _ (Has.next _ (Has.next _ (Has.here _)))))))) | exact Has.next _ (Has.next _ (Has.next _ (Has.next _ (Has.next _ (Has.next _ (Has.next _ (Has.next _ (Has.next _ (Has.here _)))))))))) _ Try.underlying38 rfl (by kernel_rfl)) rfl ⟨rfl, HK.out.grown⟩

set_option maxHeartbeats 8000000 in
set_option maxRecDepth 100000 in
theorem rfill_own {w0 : World} {L : List It} {a : Option Addr} {n c : Nat} {xs : List Int} {w : World} (hk : Own w0 w (.sl 5 .u8 a n c xs :: L)) (hn : n ≤ 30000) :
    Calls Try.prog 25 #[.slice a n c] w fun e w' => ∃ a' c', e = .returned (.slice a' (n + fillN n) c') ∧ Own w0 w' (.sl 5 .u8 a' (n + fillN n) c' (xs ++ zer (fillN n)) :: L) := by
  have HK := Lib.hid hk
  clear hk
  obtain ⟨m, hm⟩ : ∃ m, m = fillN n := ⟨_, rfl⟩
  have hm16 : m < 16 := by rw [hm]; unfold fillN; omega
  have HM := Lib.hid (show (16 - (n : Int) % 16) % 16 = m by rw [hm]; unfold fillN; omega)
  rw [← hm]
  clear hm
  have hn3 : (n : Int) ≤ 30000 := by omega
  have hb1 : n + m ≤ maxLen := by unfold maxLen; omega
  have hb2 : (n + m) * 1 ≤ 140737488355328 := by omega
  go_enter Try.func25, Try.ntmps25
  go_wp2_with (at_builtin; refine wpList_app_zeros_any rfl HK.out _ _ 24 3 rfl 5 .u8 1 Try.underlying24 Try.underlying3 (by kernel_rfl) _ _ _ _ rfl (.here _) m _ rfl HM.out hb1 hb2 ?_)
  intro a2 c2 w3 hk
  clear HK
  have HK := Lib.hid hk
  clear hk
  go_wp2_with fail
  exact bodyPost_ret (results_tmp rfl _ _ _) rfl ⟨a2, c2, rfl, HK.out⟩

set_option maxHeartbeats 8000000 in
set_option maxRecDepth 100000 in
theorem reight_any (n : Int) (w : World) (hn0 : 0 ≤ n) (hn1 : n < 9223372036854775808) :
    Calls Try.prog 26 #[.int .i64 n] w fun e w' => ∃ a c, e = .returned (.slice a 8 c) ∧ w'.ownsRow w.heap.size 5 1 (.slice a 8 c) 8 ((le8 n).map (Value.int .u8)) ∧ w.grownBy w' none := by
  have HN0 := Lib.hid hn0
  have hn2 : n < 18446744073709551616 := by omega
  clear hn1
  have HK := Lib.hid ((own_start w).nil 5 .u8)
  go_enter Try.func26, Try.ntmps26
  go_wp2_with fail
  go_loopw [3, 4] (fun v i wr => ∃ (k : Nat) (a : Option Addr) (c : Nat), k ≤ 8 ∧ i = .int .i64 k ∧ v = .slice a k c ∧ Hid (Own w wr [.sl 5 .u8 a k c (digB 256 k n)])) (fun v _ _ => 8 - (lenOf v))
  case atStart => exact ⟨0, none, 0, by omega, rfl, rfl, HK⟩
  case round =>
    obtain ⟨k, a, c, hk, rfl, rfl, HK'⟩ := hrel
    clear HK
    have HK := HK'
    clear HK'
    by_cases hlt : k < 8
    · have hk8 : (k : Int) < 8 := by omega
      have hk0 : (0 : Int) ≤ k := by omega
      have hk1 : 0 ≤ 8 * (k : Int) := by omega
      have HD := Lib.hid (digB_next 256 (by decide) k n)
      go_wp2_with (at_builtin; refine wpList_push_own rfl HK.out _ _ 24 rfl 5 (.int .u8 0) 1 Try.underlying24 (by kernel_rfl) rfl .u8 _ _ _ _ rfl (by first | exact Del.here _ | exact Del.next _ (Del.here _) | exact Del.next _ (Del.next _ (Del.here _)) | exact Del.next _ (Del.next _ (Del.next _ (Del.here _))) | exact Del.next _ (Del.next _ (Del.next _ (Del.next _ (Del.here _)))) | exact Del.next _ (Del.next _ (Del.next _ (Del.next _ (Del.next _ (Del.here _))))) | exact Del.next _ (Del.next _ (Del.next _ (Del.next _ (Del.next _ (Del.next _ (Del.here _)))))) | exact Del.next _ (Del.next _ (Del.next _ (Del.next _ (Del.next _ (Del.next _ (Del.next _ (Del.here _))))))) | exact Del.next _ (Del.next _ (Del.next _ (Del.next _ (Del.next _ (Del.next _ (Del.next _ (Del.next _ (Del.here _)))))))) | exact Del.next _ (Del.next _ (Del.next _ (Del.next _ (Del.next _ (Del.next _ (Del.next _ (Del.next _ (Del.next _ (Del.here _)))))))))) _ _ _ rfl (by unfold maxLen; omega) (by omega) ?_)
      intro a2 c2 w3 hk
      rw [pow8, ← HD.out] at hk
      clear HK
      have HK := Lib.hid hk
      clear hk
      go_wp2_with fail
      exact ⟨⟨k + 1, a2, c2, by omega, by go_num, rfl, HK⟩, by simp [lenOf]; omega⟩
    · have hk2 : k = 8 := by omega
      subst hk2
      clear hlt hk
      rw [show ((8 : Nat) : Int) = 8 from rfl]
      go_wp2_with fail
      exact bodyPost_ret (results_tmp rfl _ _ _) rfl ⟨a, c, rfl, HK.out.get (.here _), HK.out.grown⟩
end Go.Proofs.Ythhijeokeljcjaa
