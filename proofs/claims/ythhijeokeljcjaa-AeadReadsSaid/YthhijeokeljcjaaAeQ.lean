/- law9's known, walked. -/
import Derived.Test.YthhijeokeljcjaaAeP
import Derived.Lib.SlBytesConst
namespace Go.Proofs.Ythhijeokeljcjaa
set_option linter.unusedVariables false
set_option linter.unusedSimpArgs false
open Go.RowKit Go.Proofs.YthhijeokeljcjaaL

set_option maxHeartbeats 8000000 in
set_option maxRecDepth 100000 in
theorem known_any (w : World) : Calls Try.prog 6 #[] w fun e w' => e = .returned (.bool true) ∧ w.grownBy w' none := by
  have kc := fun (w : World) (C : Array Value) (n c : Nat) => Lib.run_convert_bytes_const (P := Try.prog) w 24 5 C n c Try.underlying24 Try.underlying5
  have HKL := Lib.hid length_kKey
  have HKO := Lib.hid ok_kKey
  have HK := Lib.hid (own_start w)
  go_enter Try.func6, Try.ntmps6
  go_wp2_with ((refine wpList_new_ints rfl HK.out _ rfl .u8 22 32 (zer 32) (length_zer _) (fun w => by go_simp; first | exact ⟨rfl, rfl⟩ | kernel_rfl) ?_))
  intro wn p1 hkn
  have HKN := Lib.hid hkn
  clear hkn HK
  have HK := HKN
  clear HKN
  go_wp2_with (first | (refine wpList_put_row rfl HK.out 22 _ _ rfl _ _ kKey rfl rfl _ _ _ (by first | exact Upd.here _ | exact Upd.next _ (Upd.here _) | exact Upd.next _ (Upd.next _ (Upd.here _)) | exact Upd.next _ (Upd.next _ (Upd.next _ (Upd.here _))) | exact Upd.next _ (Upd.next _ (Upd.next _ (Upd.next _ (Upd.here _)))) | exact Upd.next _ (Upd.next _ (Upd.next _ (Upd.next _ (Upd.next _ (Upd.here _))))) | exact Upd.next _ (Upd.next _ (Upd.next _ (Upd.next _ (Upd.next _ (Upd.next _ (Upd.here _)))))) | exact Upd.next _ (Upd.next _ (Upd.next _ (Upd.next _ (Upd.next _ (Upd.next _ (Upd.next _ (Upd.here _))))))) | exact Upd.next _ (Upd.next _ (Upd.next _ (Upd.next _ (Upd.next _ (Upd.next _ (Upd.next _ (Upd.next _ (Upd.here _)))))))) | exact Upd.next _ (Upd.next _ (Upd.next _ (Upd.next _ (Upd.next _ (Upd.next _ (Upd.next _ (Upd.next _ (Upd.next _ (Upd.here _)))))))))) (by exact HKL.out) (by kernel_rfl) ?_; (intro wn hkn; have HKN := Lib.hid hkn; clear hkn; clear HK; have HK := HKN; clear HKN)) | (refine wpList_get_row rfl HK.out 22 _ rfl _ rfl _ _ _ _ (by first | exact Has.here _ | exact Has.next _ (Has.here _) | exact Has.next _ (Has.next _ (Has.here _)) | exact Has.next _ (Has.next _ (Has.next _ (Has.here _))) | exact Has.next _ (Has.next _ (Has.next _ (Has.next _ (Has.here _)))) | exact Has.next _ (Has.next _ (Has.next _ (Has.next _ (Has.next _ (Has.here _))))) | exact Has.next _ (Has.next _ (Has.next _ (Has.next _ (Has.next _ (Has.next _ (Has.here _)))))) | exact Has.next _ (Has.next _ (Has.next _ (Has.next _ (Has.next _ (Has.next _ (Has.next _ (Has.here _))))))) | exact Has.next _ (Has.next _ (Has.next _ (Has.next _ (Has.next _ (Has.next _ (Has.next _ (Has.next _ (Has.here _)))))))) | exact Has.next _ (Has.next _ (Has.next _ (Has.next _ (Has.next _ (Has.next _ (Has.next _ (Has.next _ (Has.next _ (Has.here _)))))))))) _ Try.underlying22 rfl (by kernel_rfl) ?_) | (refine wpList_stop 11 rfl ?_))
  obtain ⟨sb, hsb⟩ : ∃ sb, wn.heap.size = sb := ⟨_, rfl⟩
  have hkb := HK.out.blk (.cells #[Value.int .u8 109] 5 (1, 2)) hsb
  rw [hsb]
  rintro wa hwa
  rw [← hwa] at hkb
  clear hwa hsb
  obtain ⟨s1, hse⟩ : ∃ s, s = sb := ⟨_, rfl⟩
  rw [← hse] at hkb ⊢
  clear hse
  clear HK
  have HK := Lib.hid hkb
  clear hkb
  go_wp2_with (refine wpList_stop 13 rfl ?_)
  obtain ⟨sb, hsb⟩ : ∃ sb, wa.heap.size = sb := ⟨_, rfl⟩
  have hkb := HK.out.blk (.cells #[Value.int .u8 97, Value.int .u8 98] 5 (2, 3)) hsb
  rw [hsb]
  rintro wb hwa
  rw [← hwa] at hkb
  clear hwa hsb
  obtain ⟨s2, hse⟩ : ∃ s, s = sb := ⟨_, rfl⟩
  rw [← hse] at hkb ⊢
  clear hse
  clear HK
  have HK := Lib.hid hkb
  clear hkb
  go_wp2_with fail
  have q4 := seal_any kKey 2 ⟨some ⟨s1, 0, none⟩, 1, 1, [109]⟩ ⟨some ⟨s2, 0, none⟩, 2, 2, [97, 98]⟩ wb HKL.out HKO.out (by decide) (by decide) (own_lit HK.out (.next _ (.here _)) rfl (by unfold okB; decide) (by decide)) (own_lit HK.out (.here _) rfl (by unfold okB; decide) (by decide))
  obtain ⟨C, hC⟩ : ∃ C, C = sealL kKey 2 [109] [97, 98] := ⟨_, rfl⟩
  rw [show sealL kKey 2 (⟨some ⟨s1, 0, none⟩, 1, 1, [109]⟩ : Bs).xs (⟨some ⟨s2, 0, none⟩, 2, 2, [97, 98]⟩ : Bs).xs = C from hC.symm] at q4
  have HCO := Lib.hid (show okB 256 C by rw [hC]; exact ok_sealL _ _ _ _)
  have HCE := Lib.hid (show encL kKey 2 (C.take 2) = [97, 98] by rw [hC, seal_take _ _ _ _ 2 rfl]; exact encL_twice _ _ (by unfold okB; decide))
  have HT2 := Lib.hid (show (tagL kKey 2 [109] (C.take 2) == C.drop 2) = true by rw [hC, seal_take _ _ _ _ 2 rfl, seal_drop _ _ _ _ 2 rfl]; exact beq_self_eq_true _)
  have HT3 := Lib.hid (show (tagL kKey 3 [109] (C.take 2) == C.drop 2) = false by rw [hC, seal_take _ _ _ _ 2 rfl, seal_drop _ _ _ _ 2 rfl]; exact kT)
  clear hC
  refine q4.mono ?_
  clear q4
  rintro e wc ⟨a, c, rfl, ho, hg⟩
  have hkb := own_back HK.out hg ho
  clear ho hg
  clear HK
  have HK := Lib.hid hkb
  clear hkb
  have HCC := Lib.hid (HK.out.cap (.here _)).1
  go_wp2_with (refine wpList_get_row rfl HK.out 22 _ rfl _ rfl _ _ _ _ (by first | exact Has.here _ | exact Has.next _ (Has.here _) | exact Has.next _ (Has.next _ (Has.here _)) | exact Has.next _ (Has.next _ (Has.next _ (Has.here _))) | exact Has.next _ (Has.next _ (Has.next _ (Has.next _ (Has.here _)))) | exact Has.next _ (Has.next _ (Has.next _ (Has.next _ (Has.next _ (Has.here _))))) | exact Has.next _ (Has.next _ (Has.next _ (Has.next _ (Has.next _ (Has.next _ (Has.here _)))))) | exact Has.next _ (Has.next _ (Has.next _ (Has.next _ (Has.next _ (Has.next _ (Has.next _ (Has.here _))))))) | exact Has.next _ (Has.next _ (Has.next _ (Has.next _ (Has.next _ (Has.next _ (Has.next _ (Has.next _ (Has.here _)))))))) | exact Has.next _ (Has.next _ (Has.next _ (Has.next _ (Has.next _ (Has.next _ (Has.next _ (Has.next _ (Has.next _ (Has.here _)))))))))) _ Try.underlying22 rfl (by kernel_rfl) ?_)
  obtain ⟨s3, hsb⟩ : ∃ s, wc.heap.size = s := ⟨_, rfl⟩
  have hkb := HK.out.blk (.cells #[Value.int .u8 109] 5 (1, 2)) hsb
  rw [hsb]
  clear hsb
  generalize wc.alloc (.cells #[Value.int .u8 109] 5 (1, 2)) = wd at hkb ⊢
  clear HK
  have HK := Lib.hid hkb
  clear hkb
  have q4 := open_long true kKey 2 ⟨some ⟨s3, 0, none⟩, 1, 1, [109]⟩ ⟨a, 18, c, C⟩ 2 wd HKL.out HKO.out (by decide) (by decide) (own_lit HK.out (.here _) rfl (by unfold okB; decide) (by decide)) (own_bs HK.out (.next _ (.here _)) HCO.out (by decide)) HCC.out rfl HT2.out
  rw [show encL kKey 2 ((⟨a, 18, c, C⟩ : Bs).xs.take 2) = [97, 98] from HCE.out] at q4
  refine q4.mono ?_
  clear q4
  rintro e we ⟨h1, -, hg⟩
  obtain ⟨a2, c2, rfl, ho⟩ := h1 rfl
  have hkb := own_back HK.out hg ho
  clear ho hg h1
  clear HK
  have HK := Lib.hid hkb
  clear hkb
  go_wp2_with (refine wpList_get_row rfl HK.out 22 _ rfl _ rfl _ _ _ _ (by first | exact Has.here _ | exact Has.next _ (Has.here _) | exact Has.next _ (Has.next _ (Has.here _)) | exact Has.next _ (Has.next _ (Has.next _ (Has.here _))) | exact Has.next _ (Has.next _ (Has.next _ (Has.next _ (Has.here _)))) | exact Has.next _ (Has.next _ (Has.next _ (Has.next _ (Has.next _ (Has.here _))))) | exact Has.next _ (Has.next _ (Has.next _ (Has.next _ (Has.next _ (Has.next _ (Has.here _)))))) | exact Has.next _ (Has.next _ (Has.next _ (Has.next _ (Has.next _ (Has.next _ (Has.next _ (Has.here _))))))) | exact Has.next _ (Has.next _ (Has.next _ (Has.next _ (Has.next _ (Has.next _ (Has.next _ (Has.next _ (Has.here _)))))))) | exact Has.next _ (Has.next _ (Has.next _ (Has.next _ (Has.next _ (Has.next _ (Has.next _ (Has.next _ (Has.next _ (Has.here _)))))))))) _ Try.underlying22 rfl (by kernel_rfl) ?_)
  obtain ⟨s4, hsb⟩ : ∃ s, we.heap.size = s := ⟨_, rfl⟩
  have hkb := HK.out.blk (.cells #[Value.int .u8 109] 5 (1, 2)) hsb
  rw [hsb]
  clear hsb
  generalize we.alloc (.cells #[Value.int .u8 109] 5 (1, 2)) = wf at hkb ⊢
  clear HK
  have HK := Lib.hid hkb
  clear hkb
  have q4 := open_long false kKey 3 ⟨some ⟨s4, 0, none⟩, 1, 1, [109]⟩ ⟨a, 18, c, C⟩ 2 wf HKL.out HKO.out (by decide) (by decide) (own_lit HK.out (.here _) rfl (by unfold okB; decide) (by decide)) (own_bs HK.out (.next _ (.next _ (.next _ (.here _)))) HCO.out (by decide)) HCC.out rfl HT3.out
  refine q4.mono ?_
  clear q4
  rintro e wg ⟨-, h2, hg⟩
  obtain rfl := h2 rfl
  have hkb := HK.out.grow hg
  clear hg h2
  clear HK
  have HK := Lib.hid hkb
  clear hkb
  have hab : (str8 [97, 98]).toList = [97, 98] := by decide +kernel
  go_wp2_with (refine wpList_run rfl (run_str rfl Try.underlying24 Try.underlying5 Try.underlying9 rfl (HK.out.rdsl (.next _ (.here _)))) ?_)
  exact bodyPost_ret (results_tmp rfl _ _ _) rfl ⟨rfl, HK.out.grown⟩
end Go.Proofs.Ythhijeokeljcjaa
