/- SHA-2's padding, walked. -/
import Derived.Test.YtjogdbiaiflmpaaShaB
import Derived.Test.YtjogdbiaiflmpaaCat
namespace Go.Proofs.Ytjogdbiaiflmpaa
set_option linter.unusedVariables false
set_option linter.unusedSimpArgs false
open Go.RowKit Go.Proofs.YtjogdbiaiflmpaaL

/-- How many noughts. -/
def zc (n : Nat) : Nat := (119 - n % 64) % 64
/-- The first k bytes of a length in bits. -/
def lenB8 (n : Nat) : Nat → List Int
  | 0 => []
  | k + 1 => lenB8 n k ++ [(n : Int) * 8 / 2 ^ (56 - 8 * k) % 256]
def pad1 (m : List Int) : List Int := m ++ [128]
def padZ (m : List Int) (j : Nat) : List Int := m ++ [128] ++ List.replicate j 0
def pad64 (m : List Int) : List Int := padZ m (zc m.length) ++ lenB8 m.length 8
theorem length_lenB8 (n : Nat) : ∀ k, (lenB8 n k).length = k
  | 0 => rfl
  | k + 1 => by rw [lenB8, List.length_append, length_lenB8 n k]; rfl
theorem length_padZ (m : List Int) (j : Nat) : (padZ m j).length = m.length + 1 + j := by simp [padZ]; omega
theorem zc_at (n j : Nat) (hj : j ≤ zc n) : (n + 1 + j) % 64 = 56 ↔ j = zc n := by unfold zc at *; omega
theorem padZ_next (m : List Int) (j : Nat) : padZ m j ++ [0] = padZ m (j + 1) := by rw [padZ, padZ, List.append_assoc, ← List.replicate_succ']

def lenOf : Value → Nat
  | .slice _ n _ => n
  | _ => 0

set_option maxHeartbeats 1600000 in
set_option maxRecDepth 100000 in
theorem padded_any (ad : Option Addr) (len cap : Nat) (L : List Bs) (w : World) (hl : L.length = len) (hcell : ∀ i b, L[i]? = some b → ∃ x, ad = some x ∧ w.cell? (x.add i) = some b.val) (hok : ∀ b ∈ L, b.ok w) (hlen : len ≤ 30) :
    Calls Try.prog 26 #[.slice ad len cap, .int .i64 64] w fun e w' => ∃ v, e = .returned v ∧ w'.ownsRow w.heap.size 5 1 v (lenB L + 1 + zc (lenB L) + 8) ((pad64 (catB L)).map (Value.int .u8)) ∧ w.grownBy w' none := by
  have HC := Lib.hid (concat_any ad len cap L w hl hcell hok hlen)
  have hm := lenB_le L hok
  have hm2 : lenB L ≤ 100000 := by omega
  have HML := Lib.hid (length_catB L hok)
  obtain ⟨n, hn⟩ : ∃ n, n = lenB L := ⟨_, rfl⟩
  obtain ⟨m, hmm⟩ : ∃ m, m = catB L := ⟨_, rfl⟩
  rw [← hn, ← hmm] at HC HML ⊢
  rw [← hn] at hm2
  clear hl hcell hok hlen hm hn hmm
  have HZ := Lib.hid (zc_at n)
  have hz : zc n ≤ 63 := by unfold zc; omega
  obtain ⟨z, hzz⟩ : ∃ z, z = zc n := ⟨_, rfl⟩
  rw [← hzz] at HZ hz ⊢
  have HP := Lib.hid (show pad64 m = padZ m z ++ lenB8 n 8 by rw [pad64, HML.out, hzz])
  clear hzz
  have HK := Lib.hid (own_start w)
  go_enter Try.func26, Try.ntmps26
  go_wp2_with fail
  refine HC.out.mono ?_
  rintro e w1 ⟨v, rfl, ho, hg⟩
  obtain ⟨a, c, rfl, hk⟩ := HK.out.sl hg ho
  clear HK ho hg
  have HK := Lib.hid hk
  clear hk
  have hn0 : (0 : Int) ≤ (n : Int) := by omega
  have hn1 : (n : Int) ≤ 100000 := by omega
  go_wp2_with (at_builtin; refine wpList_push_own rfl HK.out _ _ 22 rfl 5 (.int .u8 0) 1 Try.underlying22 (by kernel_rfl) rfl .u8 _ _ _ _ rfl (by first | exact Del.here _ | exact Del.next _ (Del.here _) | exact Del.next _ (Del.next _ (Del.here _)) | exact Del.next _ (Del.next _ (Del.next _ (Del.here _))) | exact Del.next _ (Del.next _ (Del.next _ (Del.next _ (Del.here _)))) | exact Del.next _ (Del.next _ (Del.next _ (Del.next _ (Del.next _ (Del.here _))))) | exact Del.next _ (Del.next _ (Del.next _ (Del.next _ (Del.next _ (Del.next _ (Del.here _)))))) | exact Del.next _ (Del.next _ (Del.next _ (Del.next _ (Del.next _ (Del.next _ (Del.next _ (Del.here _))))))) | exact Del.next _ (Del.next _ (Del.next _ (Del.next _ (Del.next _ (Del.next _ (Del.next _ (Del.next _ (Del.here _)))))))) | exact Del.next _ (Del.next _ (Del.next _ (Del.next _ (Del.next _ (Del.next _ (Del.next _ (Del.next _ (Del.next _ (Del.here _)))))))))) _ _ _ rfl (by unfold maxLen; omega) (by omega) ?_)
  intro a1 c1 w2 hk
  clear HK
  have HK := Lib.hid hk
  clear hk
  go_wp2_with fail
  go_loopw [5] (fun v wr => ∃ (j N : Nat) (a : Option Addr) (c : Nat), N = n + 1 + j ∧ j ≤ z ∧ v = .slice a N c ∧ Hid (Own w wr [.sl 5 .u8 a N c (padZ m j)])) (fun v _ => n + 65 - (lenOf v))
  case atStart => exact ⟨0, n + 1, a1, c1, by omega, by omega, rfl, by rw [padZ, List.replicate_zero, List.append_nil]; exact HK⟩
  case round =>
    obtain ⟨j, N, a, c, hN, hj, rfl, HK'⟩ := hrel
    clear HK
    have HK := HK'
    clear HK'
    have hiff := HZ.out j hj
    rw [← hN] at hiff
    have hN0 : (0 : Int) ≤ (N : Int) := by omega
    have hN1 : (N : Int) ≤ 200000 := by omega
    by_cases hlt : j = z
    · have hb : (N : Int) % 64 = 56 := by have := hiff.2 hlt; omega
      have HN0 := Lib.hid hN
      have HLT := Lib.hid hlt
      clear hiff hN hlt
      go_wp2_with fail
      have hN := HN0.out
      have hlt := HLT.out
      have hN5 : N ≤ 200000 := by omega
      obtain ⟨M, hM⟩ : ∃ M, M = padZ m j := ⟨_, rfl⟩
      rw [hlt] at hM
      rw [hlt, ← hM] at HK
      have hM' : pad64 m = M ++ lenB8 n 8 := by rw [HP.out, hM]
      have HM := Lib.hid hM'
      have HN := Lib.hid (show N = n + 1 + z by rw [hN, hlt])
      clear hM hM' hN hlt hb HP
      go_loopw [5, 7] (fun v i wr => ∃ (k N2 : Nat) (a : Option Addr) (c : Nat), N2 = N + k ∧ k ≤ 8 ∧ i = .int .i64 (56 - 8 * (k : Int)) ∧ v = .slice a N2 c ∧ Hid (Own w wr [.sl 5 .u8 a N2 c (M ++ lenB8 n k)])) (fun v _ _ => N + 9 - (lenOf v))
      case atStart => exact ⟨0, N, a, c, by omega, by omega, rfl, rfl, by rw [lenB8, List.append_nil]; exact HK⟩
      case round =>
        obtain ⟨k, N2, a, c, hN2, hk, rfl, rfl, HK'⟩ := hrel
        clear HK
        have HK := HK'
        clear HK'
        have hN3 : N2 ≤ 300000 := by omega
        have HE := Lib.hid hN2
        clear hN2
        have hk0 : 0 ≤ (k : Int) := by omega
        by_cases hlt : k < 8
        · have hk8 : (k : Int) < 8 := by omega
          have h56 : 0 ≤ 56 - 8 * (k : Int) := by omega
          go_wp2_with (at_builtin; refine wpList_push_own rfl HK.out _ _ 22 rfl 5 (.int .u8 0) 1 Try.underlying22 (by kernel_rfl) rfl .u8 _ _ _ _ rfl (by first | exact Del.here _ | exact Del.next _ (Del.here _) | exact Del.next _ (Del.next _ (Del.here _)) | exact Del.next _ (Del.next _ (Del.next _ (Del.here _))) | exact Del.next _ (Del.next _ (Del.next _ (Del.next _ (Del.here _)))) | exact Del.next _ (Del.next _ (Del.next _ (Del.next _ (Del.next _ (Del.here _))))) | exact Del.next _ (Del.next _ (Del.next _ (Del.next _ (Del.next _ (Del.next _ (Del.here _)))))) | exact Del.next _ (Del.next _ (Del.next _ (Del.next _ (Del.next _ (Del.next _ (Del.next _ (Del.here _))))))) | exact Del.next _ (Del.next _ (Del.next _ (Del.next _ (Del.next _ (Del.next _ (Del.next _ (Del.next _ (Del.here _)))))))) | exact Del.next _ (Del.next _ (Del.next _ (Del.next _ (Del.next _ (Del.next _ (Del.next _ (Del.next _ (Del.next _ (Del.here _)))))))))) _ _ _ rfl (by unfold maxLen; omega) (by omega) ?_)
          intro a2 c2 w3 hk
          clear HK
          have HK := Lib.hid hk
          clear hk
          have hs : 56 - 8 * (k : Int) - 8 = 56 - 8 * ((k + 1 : Nat) : Int) := by omega
          have HS := Lib.hid hs
          clear hs
          go_wp2_with fail
          exact ⟨⟨k + 1, N2 + 1, a2, c2, by rw [HE.out]; omega, by omega, by rw [HS.out], rfl, HK⟩, by simp [lenOf]; have := HE.out; omega⟩
        · have hk8 : k = 8 := by omega
          have hi : 56 - 8 * (k : Int) = -8 := by omega
          rw [hi]
          rw [hk8, ← HM.out] at HK
          have HN2 := Lib.hid (show N2 = n + 1 + z + 8 by rw [HE.out, HN.out, hk8])
          rw [HN2.out] at HK ⊢
          clear hi hk8 hN3 hlt
          go_wp2_with fail
          exact bodyPost_ret (results_tmp rfl _ _ _) rfl ⟨.slice a (n + 1 + z + 8) c, rfl, HK.out.get (.here _), HK.out.grown⟩
    · have hb : ¬ (N : Int) % 64 = 56 := by intro h; exact hlt (hiff.1 (by omega))
      have hjz : j + 1 ≤ z := by omega
      have hN3 : N ≤ 200000 := by omega
      have HN := Lib.hid hN
      clear hiff hN hlt
      go_wp2_with (at_builtin; refine wpList_push_own rfl HK.out _ _ 22 rfl 5 (.int .u8 0) 1 Try.underlying22 (by kernel_rfl) rfl .u8 _ _ _ _ rfl (by first | exact Del.here _ | exact Del.next _ (Del.here _) | exact Del.next _ (Del.next _ (Del.here _)) | exact Del.next _ (Del.next _ (Del.next _ (Del.here _))) | exact Del.next _ (Del.next _ (Del.next _ (Del.next _ (Del.here _)))) | exact Del.next _ (Del.next _ (Del.next _ (Del.next _ (Del.next _ (Del.here _))))) | exact Del.next _ (Del.next _ (Del.next _ (Del.next _ (Del.next _ (Del.next _ (Del.here _)))))) | exact Del.next _ (Del.next _ (Del.next _ (Del.next _ (Del.next _ (Del.next _ (Del.next _ (Del.here _))))))) | exact Del.next _ (Del.next _ (Del.next _ (Del.next _ (Del.next _ (Del.next _ (Del.next _ (Del.next _ (Del.here _)))))))) | exact Del.next _ (Del.next _ (Del.next _ (Del.next _ (Del.next _ (Del.next _ (Del.next _ (Del.next _ (Del.next _ (Del.here _)))))))))) _ _ _ rfl (by unfold maxLen; omega) (by omega) ?_)
      intro a2 c2 w3 hk
      rw [padZ_next] at hk
      clear HK
      have HK := Lib.hid hk
      clear hk
      go_wp2_with fail
      exact ⟨⟨j + 1, N + 1, a2, c2, by rw [HN.out]; omega, hjz, rfl, HK⟩, by simp [lenOf]; have := HN.out; omega⟩
end Go.Proofs.Ytjogdbiaiflmpaa
