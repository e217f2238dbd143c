/- law13's known, walked. -/
import Derived.Test.YtmankjhopfilaaaPkO
import Derived.Lib.SlBytesConst
namespace Go.Proofs.Ytmankjhopfilaaa
set_option linter.unusedVariables false
set_option linter.unusedSimpArgs false
open Go.RowKit Go.Proofs.YtmankjhopfilaaaL

def kP : Pk := ⟨false, 0, 0, 0, 0, 3, 17, ⟨false, 0, 0⟩, ⟨false, 0, 0⟩⟩
def kB : List Int := [69, 0, 0, 22, 0, 0, 0, 0, 3, 17, 183, 216, 0, 0, 0, 0, 0, 0, 0, 0, 97, 98]
def kC : List Int := [69, 0, 0, 22, 0, 0, 0, 0, 2, 17, 184, 216, 0, 0, 0, 0, 0, 0, 0, 0, 97, 98]
theorem kP_put : putE kP 2 = 0 ∧ putL kP [97, 98] = kB := by decide +kernel
theorem kB_sum : sumdL kB = kB := by decide +kernel
theorem kC_sum : sumdL kC = kC := by decide +kernel
theorem kB_par : (par kB).err = 0 ∧ (par kB).p.ttl = 3 := by decide +kernel
theorem kC_par : (par kC).err = 0 ∧ (par kC).p.ttl = 2 ∧ (par kC).b = [97, 98] := by decide +kernel
theorem kB_hop : hop kB = some kC := by decide +kernel
theorem kSum : csum [255, 255] = 0 := by decide +kernel
theorem Rs.val_eq (r : Rs) (v : Value) : r.p.val v = .agg #[.bool r.p.v6, .int .u8 r.p.cls, .int .u32 r.p.flow, .int .u16 r.p.id, .int .u16 r.p.frag, .int .u8 r.p.ttl, .int .u8 r.p.proto, .bool r.p.src.v6, .int .u64 r.p.src.hi, .int .u64 r.p.src.lo, .bool r.p.dst.v6, .int .u64 r.p.dst.hi, .int .u64 r.p.dst.lo, v] := rfl
theorem kP_ok : kP.ok := ⟨by decide, by decide, by decide, by decide, by decide, by decide, ⟨by decide, by decide, by decide, by decide⟩, ⟨by decide, by decide, by decide, by decide⟩⟩

set_option maxHeartbeats 8000000 in
set_option maxRecDepth 100000 in
theorem known_any (w : World) : Calls Try.prog 10 #[] w fun e w' => e = .returned (.bool true) ∧ w.grownBy w' none := by
  have kc := fun (w : World) (C : Array Value) (n c : Nat) => Lib.run_convert_bytes_const (P := Try.prog) w 27 5 C n c Try.underlying27 Try.underlying5
  have HK := Lib.hid (own_start w)
  go_enter Try.func10, Try.ntmps10
  go_wp2_with fail
  obtain ⟨s1, hsb⟩ : ∃ s, w.heap.size = s := ⟨_, rfl⟩
  have hkb := HK.out.blk (.cells #[Value.int .u8 97, Value.int .u8 98] 5 (2, 3)) hsb
  rw [hsb]
  clear hsb
  generalize w.alloc (.cells #[Value.int .u8 97, Value.int .u8 98] 5 (2, 3)) = wa at hkb ⊢
  clear HK
  have HK := Lib.hid hkb
  clear hkb
  have q4 := put_any kP ⟨some ⟨s1, 0, none⟩, 2, 2, [97, 98]⟩ wa kP_ok (own_lit HK.out (.here _) rfl (by unfold okB; decide) (by decide))
  rw [show putL kP (⟨some ⟨s1, 0, none⟩, 2, 2, [97, 98]⟩ : Bs).xs = kB from kP_put.2, show putE kP (⟨some ⟨s1, 0, none⟩, 2, 2, [97, 98]⟩ : Bs).len = 0 from kP_put.1] at q4
  refine q4.mono ?_
  clear q4
  rintro e wb ⟨a, m, c, rfl, ho, hg⟩
  have hkb := own_back HK.out hg ho
  clear ho hg
  have hm : kB.length = m := hkb.lensl (.here _)
  obtain rfl : m = 22 := hm.symm
  clear hm
  have hcc := (hkb.cap (.here _)).1
  have HCC := Lib.hid hcc
  clear hcc
  obtain ⟨KB, hKB⟩ : ∃ s, s = kB := ⟨_, rfl⟩
  have HKB := Lib.hid hKB
  rw [← hKB] at hkb
  have HKO := Lib.hid (show okB 256 KB by rw [hKB]; unfold okB kB; decide)
  clear hKB
  clear HK
  have HK := Lib.hid hkb
  clear hkb
  go_wp2_with fail
  obtain ⟨⟨err1, ⟨v1, cls1, flow1, id1, frag1, ttl1, proto1, ⟨s61, sh1, sl1⟩, ⟨d61, dh1, dl1⟩⟩, B1⟩, hR1⟩ : ∃ R, R = par KB := ⟨_, rfl⟩
  have e1 : err1 = 0 := by have := kB_par.1; rw [← HKB.out, ← hR1] at this; exact this
  have e2 : ttl1 = 3 := by have := kB_par.2; rw [← HKB.out, ← hR1] at this; exact this
  subst e1 e2
  have q4 := parse_any a 22 c KB wb (own_bs HK.out (.here _) HKO.out (by decide)) HCC.out
  rw [← hR1] at q4
  refine q4.mono ?_
  clear q4 hR1
  rintro e wc ⟨a1, c1, rfl, ho, hg⟩
  have hkb := HK.out.grow hg
  clear ho hg
  clear HK
  have HK := Lib.hid hkb
  clear hkb
  rw [Rs.val_eq]
  dsimp only
  have HKZ := Lib.hid (own_alloc HK.out (Obj.cells #[Value.bool false, .int .u8 0, .int .u32 0, .int .u16 0, .int .u16 0, .int .u8 0, .int .u8 0, .bool false, .int .u64 0, .int .u64 0, .bool false, .int .u64 0, .int .u64 0, .slice none 0 0] 29 (0, 0)))
  go_upto_region 3 with (refine wpList_put_blk rfl HKZ.out 29 _ _ rfl wc.heap.size #[.bool v1, .int .u8 cls1, .int .u32 flow1, .int .u16 id1, .int .u16 frag1, .int .u8 3, .int .u8 proto1, .bool s61, .int .u64 sh1, .int .u64 sl1, .bool d61, .int .u64 dh1, .int .u64 dl1, .slice a1 B1.length c1] rfl rfl _ _ (.here _) rfl (by kernel_rfl) (by simp [Value.oneCell']) ?_; (intro wn hkn; have HKN := Lib.hid hkn; clear hkn HKZ; clear HK; have HK := HKN; clear HKN))
  obtain ⟨p1, hp⟩ : ∃ p, p = wc.heap.size := ⟨_, rfl⟩
  rw [← hp] at HK ⊢
  clear hp
  go_wp2_with fail
  have q4 := hop_any a 22 c KB _ (own_bs HK.out (.next _ (.here _)) HKO.out (by decide)) HCC.out
  rw [show hop KB = some kC by rw [HKB.out]; exact kB_hop] at q4
  refine q4.mono ?_
  clear q4
  rintro e wd ⟨a2, m, c2, rfl, ho, hg⟩
  have hkb := own_back HK.out hg ho
  clear ho hg
  have hm : kC.length = m := hkb.lensl (.here _)
  obtain rfl : m = 22 := hm.symm
  clear hm
  have hcc := (hkb.cap (.here _)).1
  have HCD := Lib.hid hcc
  clear hcc
  obtain ⟨KC, hKC⟩ : ∃ s, s = kC := ⟨_, rfl⟩
  have HKC := Lib.hid hKC
  rw [show (Option.getD (some kC) ([] : List Int)) = KC from hKC.symm] at hkb
  have HKP := Lib.hid (show okB 256 KC by rw [hKC]; unfold okB kC; decide)
  clear hKC
  clear HK
  have HK := Lib.hid hkb
  clear hkb
  go_wp2_with fail
  obtain ⟨⟨err2, ⟨v2, cls2, flow2, id2, frag2, ttl2, proto2, ⟨s62, sh2, sl2⟩, ⟨d62, dh2, dl2⟩⟩, B2⟩, hR2⟩ : ∃ R, R = par KC := ⟨_, rfl⟩
  have e1 : err2 = 0 := by have := kC_par.1; rw [← HKC.out, ← hR2] at this; exact this
  have e2 : ttl2 = 2 := by have := kC_par.2.1; rw [← HKC.out, ← hR2] at this; exact this
  have e3 : B2 = [97, 98] := by have := kC_par.2.2; rw [← HKC.out, ← hR2] at this; exact this
  subst e1 e2 e3
  have q4 := parse_any a2 22 c2 KC wd (own_bs HK.out (.here _) HKP.out (by decide)) HCD.out
  rw [← hR2] at q4
  refine q4.mono ?_
  clear q4 hR2
  rintro e we ⟨a3, c3, rfl, ho, hg⟩
  have hkb := own_back HK.out hg ho
  clear ho hg
  clear HK
  have HK := Lib.hid hkb
  clear hkb
  rw [Rs.val_eq]
  dsimp only
  have HKZ := Lib.hid (own_alloc HK.out (Obj.cells #[Value.bool false, .int .u8 0, .int .u32 0, .int .u16 0, .int .u16 0, .int .u8 0, .int .u8 0, .bool false, .int .u64 0, .int .u64 0, .bool false, .int .u64 0, .int .u64 0, .slice none 0 0] 29 (0, 0)))
  go_upto_region 5 with (refine wpList_put_blk rfl HKZ.out 29 _ _ rfl we.heap.size #[.bool v2, .int .u8 cls2, .int .u32 flow2, .int .u16 id2, .int .u16 frag2, .int .u8 2, .int .u8 proto2, .bool s62, .int .u64 sh2, .int .u64 sl2, .bool d62, .int .u64 dh2, .int .u64 dl2, .slice a3 2 c3] rfl rfl _ _ (.here _) rfl (by kernel_rfl) (by simp [Value.oneCell']) ?_; (intro wn hkn; have HKN := Lib.hid hkn; clear hkn HKZ; clear HK; have HK := HKN; clear HKN))
  obtain ⟨p2, hp⟩ : ∃ p, p = we.heap.size := ⟨_, rfl⟩
  rw [← hp] at HK ⊢
  clear hp
  have hb := HK.out.at (.here _)
  have d5 : _ = some (Value.int .u8 2) := cell_blk hb 5
  have d13 : _ = some (Value.slice a3 2 c3) := cell_blk hb 13
  clear hb
  have hb := HK.out.at (.next _ (.next _ (.next _ (.here _))))
  have c5 : _ = some (Value.int .u8 3) := cell_blk hb 5
  clear hb
  have hab : (str8 [97, 98]).toList = [97, 98] := by decide +kernel
  go_wp2_with (refine wpList_run rfl (run_str rfl Try.underlying27 Try.underlying5 Try.underlying9 rfl (HK.out.rdsl (.next _ (.here _)))) ?_)
  have hk1 := own_alloc HK.out (Obj.cells #[Value.int .u8 255, .int .u8 255] 5 (0, 0))
  have hk2 := own_alloc hk1 (Obj.cells #[.slice (some ⟨wn.heap.size, 0, none⟩) 2 2] 27 (0, 0))
  rw [show (wn.alloc (Obj.cells #[Value.int .u8 255, .int .u8 255] 5 (0, 0))).heap.size = wn.heap.size + 1 from Array.size_push _] at hk2
  clear d5 d13 c5 hab hk1
  clear HK
  have HK := Lib.hid hk2
  clear hk2
  generalize (wn.alloc (Obj.cells #[Value.int .u8 255, .int .u8 255] 5 (0, 0))).alloc (Obj.cells #[.slice (some ⟨wn.heap.size, 0, none⟩) 2 2] 27 (0, 0)) = wx at HK ⊢
  have b1 := own_lit HK.out (xs := [255, 255]) (n := 2) (.next _ (.here _)) rfl (by unfold okB; decide) (by decide)
  have q4 := sum_any (some ⟨wn.heap.size + 1, 0, none⟩) 1 1 [⟨some ⟨wn.heap.size, 0, none⟩, 2, 2, [255, 255]⟩] wx rfl (own_parts (bs := [⟨some ⟨wn.heap.size, 0, none⟩, 2, 2, [255, 255]⟩]) HK.out (.here _) rfl) (one_ok b1) (by decide) (by rw [cat_one]; exact (by unfold okB; decide : okB 256 [255, 255]))
  rw [cat_one, kSum] at q4
  refine q4.mono ?_
  clear q4 b1
  rintro e wy ⟨rfl, hg⟩
  have hkb := HK.out.grow hg
  clear hg
  clear HK
  have HK := Lib.hid hkb
  clear hkb
  go_wp2_with fail
  exact bodyPost_ret (results_tmp rfl _ _ _) rfl ⟨rfl, HK.out.grown⟩
end Go.Proofs.Ytmankjhopfilaaa
