/- The reference's padding and constants, walked. -/
import Derived.Test.YtjogdbiaiflmpaaShaE
namespace Go.Proofs.Ytjogdbiaiflmpaa
set_option linter.unusedVariables false
set_option linter.unusedSimpArgs false
open Go.RowKit Go.Proofs.YtjogdbiaiflmpaaL

theorem grown_drawn {w w' : World} (h : Drawn w w') : w.grownBy w' none := by obtain ⟨n, rfl⟩ := h; exact grown_drewN _ _ _

set_option maxHeartbeats 1600000 in
set_option maxRecDepth 100000 in
theorem rpad_any (B : Bs) (w : World) (hb : B.ok w) :
    Calls Try.prog 20 #[B.val] w fun e w' => ∃ v, e = .returned v ∧ w'.ownsRow w.heap.size 5 1 v (B.len + 1 + zc B.len + 8) ((pad64 B.xs).map (Value.int .u8)) ∧ w.grownBy w' none := by
  have HSRC := Lib.hid (Bs.src hb)
  have hm2 := hb.2.2.2
  have HML := Lib.hid hb.1.1
  obtain ⟨n, hn⟩ : ∃ n, n = B.len := ⟨_, rfl⟩
  obtain ⟨m, hmm⟩ : ∃ m, m = B.xs := ⟨_, rfl⟩
  have hv : B.val = .slice B.ad n B.cap := by rw [hn]; rfl
  rw [← hn, ← hmm] at HML ⊢
  rw [← hn] at hm2
  rw [← hmm] at HSRC
  rw [hv] at HSRC ⊢
  obtain ⟨ad, had⟩ : ∃ ad, ad = B.ad := ⟨_, rfl⟩
  obtain ⟨cap, hcap⟩ : ∃ cap, cap = B.cap := ⟨_, rfl⟩
  rw [← had, ← hcap] at HSRC ⊢
  clear hv hmm hn had hcap hb
  have HZ := Lib.hid (zc_at n)
  have hz : zc n ≤ 63 := by unfold zc; omega
  obtain ⟨z, hzz⟩ : ∃ z, z = zc n := ⟨_, rfl⟩
  rw [← hzz] at HZ hz ⊢
  have HP := Lib.hid (show pad64 m = padZ m z ++ lenB8 n 8 by rw [pad64, HML.out, hzz])
  clear hzz
  have HK := Lib.hid ((own_start w).nil 5 .u8)
  go_enter Try.func20, Try.ntmps20
  have hn0 : (0 : Int) ≤ (n : Int) := by omega
  have hn1 : (n : Int) ≤ 100000 := by omega
  go_wp2_with (at_builtin; refine wpList_app_own rfl HK.out _ _ 22 rfl 5 (.int .u8 0) 1 Try.underlying22 (by kernel_rfl) rfl .u8 _ _ _ _ rfl (by first | exact Del.here _ | exact Del.next _ (Del.here _) | exact Del.next _ (Del.next _ (Del.here _)) | exact Del.next _ (Del.next _ (Del.next _ (Del.here _))) | exact Del.next _ (Del.next _ (Del.next _ (Del.next _ (Del.here _)))) | exact Del.next _ (Del.next _ (Del.next _ (Del.next _ (Del.next _ (Del.here _))))) | exact Del.next _ (Del.next _ (Del.next _ (Del.next _ (Del.next _ (Del.next _ (Del.here _)))))) | exact Del.next _ (Del.next _ (Del.next _ (Del.next _ (Del.next _ (Del.next _ (Del.next _ (Del.here _))))))) | exact Del.next _ (Del.next _ (Del.next _ (Del.next _ (Del.next _ (Del.next _ (Del.next _ (Del.next _ (Del.here _)))))))) | exact Del.next _ (Del.next _ (Del.next _ (Del.next _ (Del.next _ (Del.next _ (Del.next _ (Del.next _ (Del.next _ (Del.here _)))))))))) _ n m rfl HML.out HSRC.out (by unfold maxLen; omega) (by omega) ?_)
  intro a1 c1 w2 hk
  clear HK
  have HK := Lib.hid hk
  clear hk
  go_wp2_with (at_builtin; refine wpList_push_own rfl HK.out _ _ 22 rfl 5 (.int .u8 0) 1 Try.underlying22 (by kernel_rfl) rfl .u8 _ _ _ _ rfl (by first | exact Del.here _ | exact Del.next _ (Del.here _) | exact Del.next _ (Del.next _ (Del.here _)) | exact Del.next _ (Del.next _ (Del.next _ (Del.here _))) | exact Del.next _ (Del.next _ (Del.next _ (Del.next _ (Del.here _)))) | exact Del.next _ (Del.next _ (Del.next _ (Del.next _ (Del.next _ (Del.here _))))) | exact Del.next _ (Del.next _ (Del.next _ (Del.next _ (Del.next _ (Del.next _ (Del.here _)))))) | exact Del.next _ (Del.next _ (Del.next _ (Del.next _ (Del.next _ (Del.next _ (Del.next _ (Del.here _))))))) | exact Del.next _ (Del.next _ (Del.next _ (Del.next _ (Del.next _ (Del.next _ (Del.next _ (Del.next _ (Del.here _)))))))) | exact Del.next _ (Del.next _ (Del.next _ (Del.next _ (Del.next _ (Del.next _ (Del.next _ (Del.next _ (Del.next _ (Del.here _)))))))))) _ _ _ rfl (by unfold maxLen; omega) (by omega) ?_)
  intro a2 c2 w3 hk
  clear HK
  have HK := Lib.hid hk
  clear hk
  go_wp2_with fail
  go_loopw [3] (fun v wr => ∃ (j N : Nat) (a : Option Addr) (c : Nat), N = n + 1 + j ∧ j ≤ z ∧ v = .slice a N c ∧ Hid (Own w wr [.sl 5 .u8 a N c (padZ m j)])) (fun v _ => n + 65 - (lenOf v))
  case atStart => exact ⟨0, n + 1, a2, c2, by omega, by omega, rfl, by rw [padZ, List.replicate_zero, List.append_nil]; exact HK⟩
  case round =>
    obtain ⟨j, N, a, c, hN, hj, rfl, HK'⟩ := hrel
    clear HK
    have HK := HK'
    clear HK'
    have hiff := HZ.out j hj
    rw [← hN] at hiff
    have hN0 : (0 : Int) ≤ (N : Int) := by omega
    have hN1 : (N : Int) ≤ 200000 := by omega
    by_cases hlt : j = z
    · have hb : (N : Int) % 64 = 56 := by have := hiff.2 hlt; omega
      have HN0 := Lib.hid hN
      have HLT := Lib.hid hlt
      clear hiff hN hlt
      go_wp2_with fail
      have hN := HN0.out
      have hlt := HLT.out
      have hN5 : N ≤ 200000 := by omega
      obtain ⟨M, hM⟩ : ∃ M, M = padZ m j := ⟨_, rfl⟩
      rw [hlt] at hM
      rw [hlt, ← hM] at HK
      have hM' : pad64 m = M ++ lenB8 n 8 := by rw [HP.out, hM]
      have HM := Lib.hid hM'
      have HN := Lib.hid (show N = n + 1 + z by rw [hN, hlt])
      clear hM hM' hN hlt hb HP
      go_loopw [3, 5] (fun v i wr => ∃ (k N2 : Nat) (a : Option Addr) (c : Nat), N2 = N + k ∧ k ≤ 8 ∧ i = .int .i64 (7 - (k : Int)) ∧ v = .slice a N2 c ∧ Hid (Own w wr [.sl 5 .u8 a N2 c (M ++ lenB8 n k)])) (fun v _ _ => N + 9 - (lenOf v))
      case atStart => exact ⟨0, N, a, c, by omega, by omega, rfl, rfl, by rw [lenB8, List.append_nil]; exact HK⟩
      case round =>
        obtain ⟨k, N2, a, c, hN2, hk, rfl, rfl, HK'⟩ := hrel
        clear HK
        have HK := HK'
        clear HK'
        have hN3 : N2 ≤ 300000 := by omega
        have HE := Lib.hid hN2
        clear hN2
        have hk0 : 0 ≤ (k : Int) := by omega
        by_cases hlt : k < 8
        · have hk8 : (k : Int) < 8 := by omega
          have h56 : 0 ≤ 7 - (k : Int) := by omega
          have h57 : 0 ≤ 8 * (7 - (k : Int)) := by omega
          go_wp2_with (at_builtin; refine wpList_push_own rfl HK.out _ _ 22 rfl 5 (.int .u8 0) 1 Try.underlying22 (by kernel_rfl) rfl .u8 _ _ _ _ rfl (by first | exact Del.here _ | exact Del.next _ (Del.here _) | exact Del.next _ (Del.next _ (Del.here _)) | exact Del.next _ (Del.next _ (Del.next _ (Del.here _))) | exact Del.next _ (Del.next _ (Del.next _ (Del.next _ (Del.here _)))) | exact Del.next _ (Del.next _ (Del.next _ (Del.next _ (Del.next _ (Del.here _))))) | exact Del.next _ (Del.next _ (Del.next _ (Del.next _ (Del.next _ (Del.next _ (Del.here _)))))) | exact Del.next _ (Del.next _ (Del.next _ (Del.next _ (Del.next _ (Del.next _ (Del.next _ (Del.here _))))))) | exact Del.next _ (Del.next _ (Del.next _ (Del.next _ (Del.next _ (Del.next _ (Del.next _ (Del.next _ (Del.here _)))))))) | exact Del.next _ (Del.next _ (Del.next _ (Del.next _ (Del.next _ (Del.next _ (Del.next _ (Del.next _ (Del.next _ (Del.here _)))))))))) _ _ _ rfl (by unfold maxLen; omega) (by omega) ?_)
          intro a2 c2 w3 hk
          clear HK
          have HK := Lib.hid hk
          clear hk
          have hk := HK.out
          have HE8 := Lib.hid (show 8 * (7 - k) = 56 - 8 * k by omega)
          rw [HE8.out] at hk
          clear HK
          have HK := Lib.hid hk
          clear hk
          have hs : 7 - (k : Int) - 1 = 7 - ((k + 1 : Nat) : Int) := by omega
          have HS := Lib.hid hs
          clear hs
          go_wp2_with fail
          exact ⟨⟨k + 1, N2 + 1, a2, c2, by rw [HE.out]; omega, by omega, by rw [HS.out], rfl, HK⟩, by simp [lenOf]; have := HE.out; omega⟩
        · have hk8 : k = 8 := by omega
          have hi : 7 - (k : Int) = -1 := by omega
          rw [hi]
          rw [hk8, ← HM.out] at HK
          have HN2 := Lib.hid (show N2 = n + 1 + z + 8 by rw [HE.out, HN.out, hk8])
          rw [HN2.out] at HK ⊢
          clear hi hk8 hN3 hlt
          go_wp2_with fail
          exact bodyPost_ret (results_tmp rfl _ _ _) rfl ⟨.slice a (n + 1 + z + 8) c, rfl, HK.out.get (.here _), HK.out.grown⟩
    · have hb : ¬ (N : Int) % 64 = 56 := by intro h; exact hlt (hiff.1 (by omega))
      have hjz : j + 1 ≤ z := by omega
      have hN3 : N ≤ 200000 := by omega
      have HN := Lib.hid hN
      clear hiff hN hlt
      go_wp2_with (at_builtin; refine wpList_push_own rfl HK.out _ _ 22 rfl 5 (.int .u8 0) 1 Try.underlying22 (by kernel_rfl) rfl .u8 _ _ _ _ rfl (by first | exact Del.here _ | exact Del.next _ (Del.here _) | exact Del.next _ (Del.next _ (Del.here _)) | exact Del.next _ (Del.next _ (Del.next _ (Del.here _))) | exact Del.next _ (Del.next _ (Del.next _ (Del.next _ (Del.here _)))) | exact Del.next _ (Del.next _ (Del.next _ (Del.next _ (Del.next _ (Del.here _))))) | exact Del.next _ (Del.next _ (Del.next _ (Del.next _ (Del.next _ (Del.next _ (Del.here _)))))) | exact Del.next _ (Del.next _ (Del.next _ (Del.next _ (Del.next _ (Del.next _ (Del.next _ (Del.here _))))))) | exact Del.next _ (Del.next _ (Del.next _ (Del.next _ (Del.next _ (Del.next _ (Del.next _ (Del.next _ (Del.here _)))))))) | exact Del.next _ (Del.next _ (Del.next _ (Del.next _ (Del.next _ (Del.next _ (Del.next _ (Del.next _ (Del.next _ (Del.here _)))))))))) _ _ _ rfl (by unfold maxLen; omega) (by omega) ?_)
      intro a2 c2 w3 hk
      rw [padZ_next] at hk
      clear HK
      have HK := Lib.hid hk
      clear hk
      go_wp2_with fail
      exact ⟨⟨j + 1, N + 1, a2, c2, by rw [HN.out]; omega, hjz, rfl, HK⟩, by simp [lenOf]; have := HN.out; omega⟩

def H64 : List Int := [7640891576956012808, 13503953896175478587, 4354685564936845355, 11912009170470909681, 5840696475078001361, 11170449401992604703, 2270897969802886507, 6620516959819538809]
def K64 : List Int := [4794697086780616226, 8158064640168781261, 13096744586834688815, 16840607885511220156, 4131703408338449720, 6480981068601479193, 10538285296894168987, 12329834152419229976, 15566598209576043074, 1334009975649890238, 2608012711638119052, 6128411473006802146, 8268148722764581231, 9286055187155687089, 11230858885718282805, 13951009754708518548, 16472876342353939154, 17275323862435702243, 1135362057144423861, 2597628984639134821, 3308224258029322869, 5365058923640841347, 6679025012923562964, 8573033837759648693, 10970295158949994411, 12119686244451234320, 12683024718118986047, 13788192230050041572, 14330467153632333762, 15395433587784984357, 489312712824947311, 1452737877330783856, 2861767655752347644, 3322285676063803686, 5560940570517711597, 5996557281743188959, 7280758554555802590, 8532644243296465576, 9350256976987008742, 10552545826968843579, 11727347734174303076, 12113106623233404929, 14000437183269869457, 14369950271660146224, 15101387698204529176, 15463397548674623760, 17586052441742319658, 1182934255886127544, 1847814050463011016, 2177327727835720531, 2830643537854262169, 3796741975233480872, 4115178125766777443, 5681478168544905931, 6601373596472566643, 7507060721942968483, 8399075790359081724, 8693463985226723168, 9568029438360202098, 10144078919501101548, 10430055236837252648, 11840083180663258601, 13761210420658862357, 14299343276471374635, 14566680578165727644, 15097957966210449927, 16922976911328602910, 17689382322260857208, 500013540394364858, 748580250866718886, 1242879168328830382, 1977374033974150939, 2944078676154940804, 3659926193048069267, 4368137639120453308, 4836135668995329356, 5532061633213252278, 6448918945643986474, 6902733635092675308, 7801388544844847127]
set_option maxHeartbeats 400000 in
theorem rstart_any (w : World) : Calls Try.prog 19 #[] w fun e w' => e = .returned (.agg (encK .u64 H64)) ∧ w.grownBy w' none := by
  have HK := Lib.hid (own_start w)
  go_enter Try.func19, Try.ntmps19
  go_wp2_with ((refine wpList_new_ints rfl HK.out _ rfl .u64 43 8 (zer 8) (length_zer _) (fun w => by go_simp; first | exact ⟨rfl, rfl⟩ | kernel_rfl) ?_))
  intro wn p hkn
  have HKN := Lib.hid hkn
  clear hkn HK
  have HK := HKN
  clear HKN
  go_wp2_with (refine wpList_put_row rfl HK.out 43 _ _ rfl _ _ H64 rfl rfl _ _ _ (by first | exact Upd.here _ | exact Upd.next _ (Upd.here _) | exact Upd.next _ (Upd.next _ (Upd.here _)) | exact Upd.next _ (Upd.next _ (Upd.next _ (Upd.here _))) | exact Upd.next _ (Upd.next _ (Upd.next _ (Upd.next _ (Upd.here _)))) | exact Upd.next _ (Upd.next _ (Upd.next _ (Upd.next _ (Upd.next _ (Upd.here _))))) | exact Upd.next _ (Upd.next _ (Upd.next _ (Upd.next _ (Upd.next _ (Upd.next _ (Upd.here _)))))) | exact Upd.next _ (Upd.next _ (Upd.next _ (Upd.next _ (Upd.next _ (Upd.next _ (Upd.next _ (Upd.here _))))))) | exact Upd.next _ (Upd.next _ (Upd.next _ (Upd.next _ (Upd.next _ (Upd.next _ (Upd.next _ (Upd.next _ (Upd.here _)))))))) | exact Upd.next _ (Upd.next _ (Upd.next _ (Upd.next _ (Upd.next _ (Upd.next _ (Upd.next _ (Upd.next _ (Upd.next _ (Upd.here _)))))))))) (by rfl) (by kernel_rfl) ?_; (intro wn hkn; have HKN := Lib.hid hkn; clear hkn; clear HK; have HK := HKN; clear HKN))
  exact bodyPost_ret (results_own rfl _ HK.out _ rfl (by first | exact Has.here _ | exact Has.next _ (Has.here _) | exact Has.next _ (Has.next _ (Has.here _)) | exact Has.next _ (Has.next _ (Has.next _ (Has.here _))) | exact Has.next _ (Has.next _ (Has.next _ (Has.next _ (Has.here _)))) | exact Has.next _ (Has.next _ (Has.next _ (Has.next _ (Has.next _ (Has.here _))))) | exact Has.next _ (Has.next _ (Has.next _ (Has.next _ (Has.next _ (Has.next _ (Has.here _)))))) | exact Has.next _ (Has.next _ (Has.next _ (Has.next _ (Has.next _ (Has.next _ (Has.next _ (Has.here _))))))) | exact Has.next _ (Has.next _ (Has.next _ (Has.next _ (Has.next _ (Has.next _ (Has.next _ (Has.next _ (Has.here _)))))))) | exact Has.next _ (Has.next _ (Has.next _ (Has.next _ (Has.next _ (Has.next _ (Has.next _ (Has.next _ (Has.next _ (Has.here _)))))))))) _ Try.underlying43 rfl (by kernel_rfl)) rfl ⟨rfl, HK.out.grown⟩
set_option maxHeartbeats 1600000 in
set_option maxRecDepth 100000 in
theorem kays_any (w : World) : Calls Try.prog 18 #[] w fun e w' => ∃ v, e = .returned v ∧ w'.ownsRow w.heap.size 42 1 v 80 (K64.map (Value.int .u64)) ∧ w.grownBy w' none := by
  go_enter Try.func18, Try.ntmps18
  go_wp2_with fail
  refine bodyPost_ret (results_tmp rfl _ _ _) rfl ⟨_, rfl, ⟨rfl, .inr ⟨w.heap.size, 80, _, rfl, Nat.le_refl _, alloc_at _ _ rfl, by decide, by unfold maxLen; decide, rfl, rfl⟩⟩, World.grownBy_alloc _ _ _⟩
end Go.Proofs.Ytjogdbiaiflmpaa
