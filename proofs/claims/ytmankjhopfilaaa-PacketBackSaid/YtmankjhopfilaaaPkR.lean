/- Put, the reference's: of what is not right, or too long. -/
import Derived.Test.YtmankjhopfilaaaPkJ
namespace Go.Proofs.Ytmankjhopfilaaa
set_option linter.unusedVariables false
set_option linter.unusedSimpArgs false
open Go.RowKit Go.Proofs.YtmankjhopfilaaaL

set_option maxHeartbeats 8000000 in
set_option maxRecDepth 100000 in
theorem rput_bad_true (cls flow id frag ttl proto sh sl dh dl : Int) (s6 d6 : Bool) (ad : Option Addr) (n cp : Nat) (w : World) (hp : (⟨true, cls, flow, id, frag, ttl, proto, ⟨s6, sh, sl⟩, ⟨d6, dh, dl⟩⟩ : Pk).ok) (hr : (⟨true, cls, flow, id, frag, ttl, proto, ⟨s6, sh, sl⟩, ⟨d6, dh, dl⟩⟩ : Pk).right = false) :
    Calls Try.prog 13 #[(⟨true, cls, flow, id, frag, ttl, proto, ⟨s6, sh, sl⟩, ⟨d6, dh, dl⟩⟩ : Pk).val (.slice ad n cp)] w fun e w' => e = .returned (.tuple #[.slice none 0 0, .int .i64 20]) ∧ w.grownBy w' none := by
  have hs := hp.src
  have hd := hp.dst
  have hr : (s6 == true && d6 == true && ((⟨s6, sh, sl⟩ : Ad).right && (⟨d6, dh, dl⟩ : Ad).right && (decide (flow ≤ 1048575) && id == 0 && frag == 0))) = false := hr
  clear hp
  have HK := Lib.hid (own_start w)
  by_cases h6 : s6 = false
  · subst h6
    clear hr
    show Calls Try.prog _ #[.agg #[Value.bool true, .int .u8 cls, .int .u32 flow, .int .u16 id, .int .u16 frag, .int .u8 ttl, .int .u8 proto, .bool false, .int .u64 sh, .int .u64 sl, .bool d6, .int .u64 dh, .int .u64 dl, .slice ad n cp]] w fun e w' => e = .returned (.tuple #[.slice none 0 0, .int .i64 20]) ∧ w.grownBy w' none
    go_enter Try.func13, Try.ntmps13
    go_wp2_with fail
    exact bodyPost_ret (results_tmp2 rfl _ _ _) rfl ⟨rfl, World.grownBy_alloc _ _ _⟩
  obtain rfl : s6 = true := by cases s6 <;> first | rfl | (exact absurd rfl h6)
  clear h6
  by_cases h6 : d6 = false
  · subst h6
    clear hr
    show Calls Try.prog _ #[.agg #[Value.bool true, .int .u8 cls, .int .u32 flow, .int .u16 id, .int .u16 frag, .int .u8 ttl, .int .u8 proto, .bool true, .int .u64 sh, .int .u64 sl, .bool false, .int .u64 dh, .int .u64 dl, .slice ad n cp]] w fun e w' => e = .returned (.tuple #[.slice none 0 0, .int .i64 20]) ∧ w.grownBy w' none
    go_enter Try.func13, Try.ntmps13
    go_wp2_with fail
    exact bodyPost_ret (results_tmp2 rfl _ _ _) rfl ⟨rfl, World.grownBy_alloc _ _ _⟩
  obtain rfl : d6 = true := by cases d6 <;> first | rfl | (exact absurd rfl h6)
  clear h6
  cases h1 : (⟨true, sh, sl⟩ : Ad).right with
  | false =>
    clear hr
    show Calls Try.prog _ #[.agg #[Value.bool true, .int .u8 cls, .int .u32 flow, .int .u16 id, .int .u16 frag, .int .u8 ttl, .int .u8 proto, .bool true, .int .u64 sh, .int .u64 sl, .bool true, .int .u64 dh, .int .u64 dl, .slice ad n cp]] w fun e w' => e = .returned (.tuple #[.slice none 0 0, .int .i64 20]) ∧ w.grownBy w' none
    go_enter Try.func13, Try.ntmps13
    go_wp2_with fail
    have hk := own_alloc HK.out (Obj.cells #[Value.bool true, .int .u8 cls, .int .u32 flow, .int .u16 id, .int .u16 frag, .int .u8 ttl, .int .u8 proto, .bool true, .int .u64 sh, .int .u64 sl, .bool true, .int .u64 dh, .int .u64 dl, .slice ad n cp] 29 (0, 0))
    obtain ⟨p, hp⟩ : ∃ p, p = w.heap.size := ⟨_, rfl⟩
    rw [← hp] at hk ⊢
    clear hp
    clear HK
    have HK := Lib.hid hk
    clear hk
    refine (rrightAddr_any ⟨true, sh, sl⟩ (w.alloc (Obj.cells #[Value.bool true, .int .u8 cls, .int .u32 flow, .int .u16 id, .int .u16 frag, .int .u8 ttl, .int .u8 proto, .bool true, .int .u64 sh, .int .u64 sl, .bool true, .int .u64 dh, .int .u64 dl, .slice ad n cp] 29 (0, 0))) hs).mono ?_
    rintro e w1 ⟨rfl, hg⟩
    rw [h1]
    have hk := HK.out.grow hg
    clear hg
    clear HK
    have HK := Lib.hid hk
    clear hk
    go_wp2_with fail
    exact bodyPost_ret (results_tmp2 rfl _ _ _) rfl ⟨rfl, HK.out.grown⟩
  | true =>
  cases h2 : (⟨true, dh, dl⟩ : Ad).right with
  | false =>
    clear hr
    show Calls Try.prog _ #[.agg #[Value.bool true, .int .u8 cls, .int .u32 flow, .int .u16 id, .int .u16 frag, .int .u8 ttl, .int .u8 proto, .bool true, .int .u64 sh, .int .u64 sl, .bool true, .int .u64 dh, .int .u64 dl, .slice ad n cp]] w fun e w' => e = .returned (.tuple #[.slice none 0 0, .int .i64 20]) ∧ w.grownBy w' none
    go_enter Try.func13, Try.ntmps13
    go_wp2_with fail
    have hk := own_alloc HK.out (Obj.cells #[Value.bool true, .int .u8 cls, .int .u32 flow, .int .u16 id, .int .u16 frag, .int .u8 ttl, .int .u8 proto, .bool true, .int .u64 sh, .int .u64 sl, .bool true, .int .u64 dh, .int .u64 dl, .slice ad n cp] 29 (0, 0))
    obtain ⟨p, hp⟩ : ∃ p, p = w.heap.size := ⟨_, rfl⟩
    rw [← hp] at hk ⊢
    clear hp
    clear HK
    have HK := Lib.hid hk
    clear hk
    refine (rrightAddr_any ⟨true, sh, sl⟩ (w.alloc (Obj.cells #[Value.bool true, .int .u8 cls, .int .u32 flow, .int .u16 id, .int .u16 frag, .int .u8 ttl, .int .u8 proto, .bool true, .int .u64 sh, .int .u64 sl, .bool true, .int .u64 dh, .int .u64 dl, .slice ad n cp] 29 (0, 0))) hs).mono ?_
    rintro e w1 ⟨rfl, hg⟩
    rw [h1]
    have hk := HK.out.grow hg
    clear hg
    clear HK
    have HK := Lib.hid hk
    clear hk
    have hb := HK.out.at (.here _)
    have c0 : w1.cell? ⟨p, 0, none⟩ = some (.bool true) := cell_blk hb 0
    have c2 : w1.cell? ⟨p, 2, none⟩ = some (.int .u32 flow) := cell_blk hb 2
    have c3 : w1.cell? ⟨p, 3, none⟩ = some (.int .u16 id) := cell_blk hb 3
    have c4 : w1.cell? ⟨p, 4, none⟩ = some (.int .u16 frag) := cell_blk hb 4
    have c10 : w1.cell? ⟨p, 10, none⟩ = some (.bool true) := cell_blk hb 10
    have c11 : w1.cell? ⟨p, 11, none⟩ = some (.int .u64 dh) := cell_blk hb 11
    have c12 : w1.cell? ⟨p, 12, none⟩ = some (.int .u64 dl) := cell_blk hb 12
    have c13 : w1.cell? ⟨p, 13, none⟩ = some (.slice ad n cp) := cell_blk hb 13
    clear hb
    go_wp2_with fail
    clear c0 c2 c3 c4 c10 c11 c12 c13
    refine (rrightAddr_any ⟨true, dh, dl⟩ w1 hd).mono ?_
    rintro e w2 ⟨rfl, hg⟩
    rw [h2]
    have hk := HK.out.grow hg
    clear hg
    clear HK
    have HK := Lib.hid hk
    clear hk
    have hb := HK.out.at (.here _)
    have c0 : w2.cell? ⟨p, 0, none⟩ = some (.bool true) := cell_blk hb 0
    have c2 : w2.cell? ⟨p, 2, none⟩ = some (.int .u32 flow) := cell_blk hb 2
    have c3 : w2.cell? ⟨p, 3, none⟩ = some (.int .u16 id) := cell_blk hb 3
    have c4 : w2.cell? ⟨p, 4, none⟩ = some (.int .u16 frag) := cell_blk hb 4
    have c10 : w2.cell? ⟨p, 10, none⟩ = some (.bool true) := cell_blk hb 10
    have c11 : w2.cell? ⟨p, 11, none⟩ = some (.int .u64 dh) := cell_blk hb 11
    have c12 : w2.cell? ⟨p, 12, none⟩ = some (.int .u64 dl) := cell_blk hb 12
    have c13 : w2.cell? ⟨p, 13, none⟩ = some (.slice ad n cp) := cell_blk hb 13
    clear hb
    go_wp2_with fail
    exact bodyPost_ret (results_tmp2 rfl _ _ _) rfl ⟨rfl, HK.out.grown⟩
  | true =>
  rw [h1, h2] at hr
  by_cases hf : flow ≤ 1048575
  case neg =>
    have hf2 : 1048576 ≤ flow := by omega
    clear hr hf
    show Calls Try.prog _ #[.agg #[Value.bool true, .int .u8 cls, .int .u32 flow, .int .u16 id, .int .u16 frag, .int .u8 ttl, .int .u8 proto, .bool true, .int .u64 sh, .int .u64 sl, .bool true, .int .u64 dh, .int .u64 dl, .slice ad n cp]] w fun e w' => e = .returned (.tuple #[.slice none 0 0, .int .i64 20]) ∧ w.grownBy w' none
    go_enter Try.func13, Try.ntmps13
    go_wp2_with fail
    have hk := own_alloc HK.out (Obj.cells #[Value.bool true, .int .u8 cls, .int .u32 flow, .int .u16 id, .int .u16 frag, .int .u8 ttl, .int .u8 proto, .bool true, .int .u64 sh, .int .u64 sl, .bool true, .int .u64 dh, .int .u64 dl, .slice ad n cp] 29 (0, 0))
    obtain ⟨p, hp⟩ : ∃ p, p = w.heap.size := ⟨_, rfl⟩
    rw [← hp] at hk ⊢
    clear hp
    clear HK
    have HK := Lib.hid hk
    clear hk
    refine (rrightAddr_any ⟨true, sh, sl⟩ (w.alloc (Obj.cells #[Value.bool true, .int .u8 cls, .int .u32 flow, .int .u16 id, .int .u16 frag, .int .u8 ttl, .int .u8 proto, .bool true, .int .u64 sh, .int .u64 sl, .bool true, .int .u64 dh, .int .u64 dl, .slice ad n cp] 29 (0, 0))) hs).mono ?_
    rintro e w1 ⟨rfl, hg⟩
    rw [h1]
    have hk := HK.out.grow hg
    clear hg
    clear HK
    have HK := Lib.hid hk
    clear hk
    have hb := HK.out.at (.here _)
    have c0 : w1.cell? ⟨p, 0, none⟩ = some (.bool true) := cell_blk hb 0
    have c2 : w1.cell? ⟨p, 2, none⟩ = some (.int .u32 flow) := cell_blk hb 2
    have c3 : w1.cell? ⟨p, 3, none⟩ = some (.int .u16 id) := cell_blk hb 3
    have c4 : w1.cell? ⟨p, 4, none⟩ = some (.int .u16 frag) := cell_blk hb 4
    have c10 : w1.cell? ⟨p, 10, none⟩ = some (.bool true) := cell_blk hb 10
    have c11 : w1.cell? ⟨p, 11, none⟩ = some (.int .u64 dh) := cell_blk hb 11
    have c12 : w1.cell? ⟨p, 12, none⟩ = some (.int .u64 dl) := cell_blk hb 12
    have c13 : w1.cell? ⟨p, 13, none⟩ = some (.slice ad n cp) := cell_blk hb 13
    clear hb
    go_wp2_with fail
    clear c0 c2 c3 c4 c10 c11 c12 c13
    refine (rrightAddr_any ⟨true, dh, dl⟩ w1 hd).mono ?_
    rintro e w2 ⟨rfl, hg⟩
    rw [h2]
    have hk := HK.out.grow hg
    clear hg
    clear HK
    have HK := Lib.hid hk
    clear hk
    have hb := HK.out.at (.here _)
    have c0 : w2.cell? ⟨p, 0, none⟩ = some (.bool true) := cell_blk hb 0
    have c2 : w2.cell? ⟨p, 2, none⟩ = some (.int .u32 flow) := cell_blk hb 2
    have c3 : w2.cell? ⟨p, 3, none⟩ = some (.int .u16 id) := cell_blk hb 3
    have c4 : w2.cell? ⟨p, 4, none⟩ = some (.int .u16 frag) := cell_blk hb 4
    have c10 : w2.cell? ⟨p, 10, none⟩ = some (.bool true) := cell_blk hb 10
    have c11 : w2.cell? ⟨p, 11, none⟩ = some (.int .u64 dh) := cell_blk hb 11
    have c12 : w2.cell? ⟨p, 12, none⟩ = some (.int .u64 dl) := cell_blk hb 12
    have c13 : w2.cell? ⟨p, 13, none⟩ = some (.slice ad n cp) := cell_blk hb 13
    clear hb
    go_wp2_with fail
    exact bodyPost_ret (results_tmp2 rfl _ _ _) rfl ⟨rfl, HK.out.grown⟩
  have hf2 : ¬ 1048576 ≤ flow := by omega
  by_cases hi : id = 0
  case neg =>
    have hi2 : (id != 0) = true := by simp [hi]
    clear hr hf hi
    show Calls Try.prog _ #[.agg #[Value.bool true, .int .u8 cls, .int .u32 flow, .int .u16 id, .int .u16 frag, .int .u8 ttl, .int .u8 proto, .bool true, .int .u64 sh, .int .u64 sl, .bool true, .int .u64 dh, .int .u64 dl, .slice ad n cp]] w fun e w' => e = .returned (.tuple #[.slice none 0 0, .int .i64 20]) ∧ w.grownBy w' none
    go_enter Try.func13, Try.ntmps13
    go_wp2_with fail
    have hk := own_alloc HK.out (Obj.cells #[Value.bool true, .int .u8 cls, .int .u32 flow, .int .u16 id, .int .u16 frag, .int .u8 ttl, .int .u8 proto, .bool true, .int .u64 sh, .int .u64 sl, .bool true, .int .u64 dh, .int .u64 dl, .slice ad n cp] 29 (0, 0))
    obtain ⟨p, hp⟩ : ∃ p, p = w.heap.size := ⟨_, rfl⟩
    rw [← hp] at hk ⊢
    clear hp
    clear HK
    have HK := Lib.hid hk
    clear hk
    refine (rrightAddr_any ⟨true, sh, sl⟩ (w.alloc (Obj.cells #[Value.bool true, .int .u8 cls, .int .u32 flow, .int .u16 id, .int .u16 frag, .int .u8 ttl, .int .u8 proto, .bool true, .int .u64 sh, .int .u64 sl, .bool true, .int .u64 dh, .int .u64 dl, .slice ad n cp] 29 (0, 0))) hs).mono ?_
    rintro e w1 ⟨rfl, hg⟩
    rw [h1]
    have hk := HK.out.grow hg
    clear hg
    clear HK
    have HK := Lib.hid hk
    clear hk
    have hb := HK.out.at (.here _)
    have c0 : w1.cell? ⟨p, 0, none⟩ = some (.bool true) := cell_blk hb 0
    have c2 : w1.cell? ⟨p, 2, none⟩ = some (.int .u32 flow) := cell_blk hb 2
    have c3 : w1.cell? ⟨p, 3, none⟩ = some (.int .u16 id) := cell_blk hb 3
    have c4 : w1.cell? ⟨p, 4, none⟩ = some (.int .u16 frag) := cell_blk hb 4
    have c10 : w1.cell? ⟨p, 10, none⟩ = some (.bool true) := cell_blk hb 10
    have c11 : w1.cell? ⟨p, 11, none⟩ = some (.int .u64 dh) := cell_blk hb 11
    have c12 : w1.cell? ⟨p, 12, none⟩ = some (.int .u64 dl) := cell_blk hb 12
    have c13 : w1.cell? ⟨p, 13, none⟩ = some (.slice ad n cp) := cell_blk hb 13
    clear hb
    go_wp2_with fail
    clear c0 c2 c3 c4 c10 c11 c12 c13
    refine (rrightAddr_any ⟨true, dh, dl⟩ w1 hd).mono ?_
    rintro e w2 ⟨rfl, hg⟩
    rw [h2]
    have hk := HK.out.grow hg
    clear hg
    clear HK
    have HK := Lib.hid hk
    clear hk
    have hb := HK.out.at (.here _)
    have c0 : w2.cell? ⟨p, 0, none⟩ = some (.bool true) := cell_blk hb 0
    have c2 : w2.cell? ⟨p, 2, none⟩ = some (.int .u32 flow) := cell_blk hb 2
    have c3 : w2.cell? ⟨p, 3, none⟩ = some (.int .u16 id) := cell_blk hb 3
    have c4 : w2.cell? ⟨p, 4, none⟩ = some (.int .u16 frag) := cell_blk hb 4
    have c10 : w2.cell? ⟨p, 10, none⟩ = some (.bool true) := cell_blk hb 10
    have c11 : w2.cell? ⟨p, 11, none⟩ = some (.int .u64 dh) := cell_blk hb 11
    have c12 : w2.cell? ⟨p, 12, none⟩ = some (.int .u64 dl) := cell_blk hb 12
    have c13 : w2.cell? ⟨p, 13, none⟩ = some (.slice ad n cp) := cell_blk hb 13
    clear hb
    go_wp2_with fail
    exact bodyPost_ret (results_tmp2 rfl _ _ _) rfl ⟨rfl, HK.out.grown⟩
  have hi2 : (id != 0) = false := by simp [hi]
  have hfr : (frag != 0) = true := by
    simp [hf, hi] at hr
    simp [hr]
  clear hr hf hi
  · skip
    show Calls Try.prog _ #[.agg #[Value.bool true, .int .u8 cls, .int .u32 flow, .int .u16 id, .int .u16 frag, .int .u8 ttl, .int .u8 proto, .bool true, .int .u64 sh, .int .u64 sl, .bool true, .int .u64 dh, .int .u64 dl, .slice ad n cp]] w fun e w' => e = .returned (.tuple #[.slice none 0 0, .int .i64 20]) ∧ w.grownBy w' none
    go_enter Try.func13, Try.ntmps13
    go_wp2_with fail
    have hk := own_alloc HK.out (Obj.cells #[Value.bool true, .int .u8 cls, .int .u32 flow, .int .u16 id, .int .u16 frag, .int .u8 ttl, .int .u8 proto, .bool true, .int .u64 sh, .int .u64 sl, .bool true, .int .u64 dh, .int .u64 dl, .slice ad n cp] 29 (0, 0))
    obtain ⟨p, hp⟩ : ∃ p, p = w.heap.size := ⟨_, rfl⟩
    rw [← hp] at hk ⊢
    clear hp
    clear HK
    have HK := Lib.hid hk
    clear hk
    refine (rrightAddr_any ⟨true, sh, sl⟩ (w.alloc (Obj.cells #[Value.bool true, .int .u8 cls, .int .u32 flow, .int .u16 id, .int .u16 frag, .int .u8 ttl, .int .u8 proto, .bool true, .int .u64 sh, .int .u64 sl, .bool true, .int .u64 dh, .int .u64 dl, .slice ad n cp] 29 (0, 0))) hs).mono ?_
    rintro e w1 ⟨rfl, hg⟩
    rw [h1]
    have hk := HK.out.grow hg
    clear hg
    clear HK
    have HK := Lib.hid hk
    clear hk
    have hb := HK.out.at (.here _)
    have c0 : w1.cell? ⟨p, 0, none⟩ = some (.bool true) := cell_blk hb 0
    have c2 : w1.cell? ⟨p, 2, none⟩ = some (.int .u32 flow) := cell_blk hb 2
    have c3 : w1.cell? ⟨p, 3, none⟩ = some (.int .u16 id) := cell_blk hb 3
    have c4 : w1.cell? ⟨p, 4, none⟩ = some (.int .u16 frag) := cell_blk hb 4
    have c10 : w1.cell? ⟨p, 10, none⟩ = some (.bool true) := cell_blk hb 10
    have c11 : w1.cell? ⟨p, 11, none⟩ = some (.int .u64 dh) := cell_blk hb 11
    have c12 : w1.cell? ⟨p, 12, none⟩ = some (.int .u64 dl) := cell_blk hb 12
    have c13 : w1.cell? ⟨p, 13, none⟩ = some (.slice ad n cp) := cell_blk hb 13
    clear hb
    go_wp2_with fail
    clear c0 c2 c3 c4 c10 c11 c12 c13
    refine (rrightAddr_any ⟨true, dh, dl⟩ w1 hd).mono ?_
    rintro e w2 ⟨rfl, hg⟩
    rw [h2]
    have hk := HK.out.grow hg
    clear hg
    clear HK
    have HK := Lib.hid hk
    clear hk
    have hb := HK.out.at (.here _)
    have c0 : w2.cell? ⟨p, 0, none⟩ = some (.bool true) := cell_blk hb 0
    have c2 : w2.cell? ⟨p, 2, none⟩ = some (.int .u32 flow) := cell_blk hb 2
    have c3 : w2.cell? ⟨p, 3, none⟩ = some (.int .u16 id) := cell_blk hb 3
    have c4 : w2.cell? ⟨p, 4, none⟩ = some (.int .u16 frag) := cell_blk hb 4
    have c10 : w2.cell? ⟨p, 10, none⟩ = some (.bool true) := cell_blk hb 10
    have c11 : w2.cell? ⟨p, 11, none⟩ = some (.int .u64 dh) := cell_blk hb 11
    have c12 : w2.cell? ⟨p, 12, none⟩ = some (.int .u64 dl) := cell_blk hb 12
    have c13 : w2.cell? ⟨p, 13, none⟩ = some (.slice ad n cp) := cell_blk hb 13
    clear hb
    go_wp2_with fail
    exact bodyPost_ret (results_tmp2 rfl _ _ _) rfl ⟨rfl, HK.out.grown⟩
set_option maxHeartbeats 8000000 in
set_option maxRecDepth 100000 in
theorem rput_bad_false (cls flow id frag ttl proto sh sl dh dl : Int) (s6 d6 : Bool) (ad : Option Addr) (n cp : Nat) (w : World) (hp : (⟨false, cls, flow, id, frag, ttl, proto, ⟨s6, sh, sl⟩, ⟨d6, dh, dl⟩⟩ : Pk).ok) (hr : (⟨false, cls, flow, id, frag, ttl, proto, ⟨s6, sh, sl⟩, ⟨d6, dh, dl⟩⟩ : Pk).right = false) :
    Calls Try.prog 13 #[(⟨false, cls, flow, id, frag, ttl, proto, ⟨s6, sh, sl⟩, ⟨d6, dh, dl⟩⟩ : Pk).val (.slice ad n cp)] w fun e w' => e = .returned (.tuple #[.slice none 0 0, .int .i64 20]) ∧ w.grownBy w' none := by
  have hs := hp.src
  have hd := hp.dst
  have hr : (s6 == false && d6 == false && ((⟨s6, sh, sl⟩ : Ad).right && (⟨d6, dh, dl⟩ : Ad).right && flow == 0)) = false := hr
  clear hp
  have HK := Lib.hid (own_start w)
  by_cases h6 : s6 = true
  · subst h6
    clear hr
    show Calls Try.prog _ #[.agg #[Value.bool false, .int .u8 cls, .int .u32 flow, .int .u16 id, .int .u16 frag, .int .u8 ttl, .int .u8 proto, .bool true, .int .u64 sh, .int .u64 sl, .bool d6, .int .u64 dh, .int .u64 dl, .slice ad n cp]] w fun e w' => e = .returned (.tuple #[.slice none 0 0, .int .i64 20]) ∧ w.grownBy w' none
    go_enter Try.func13, Try.ntmps13
    go_wp2_with fail
    exact bodyPost_ret (results_tmp2 rfl _ _ _) rfl ⟨rfl, World.grownBy_alloc _ _ _⟩
  obtain rfl : s6 = false := by cases s6 <;> first | rfl | (exact absurd rfl h6)
  clear h6
  by_cases h6 : d6 = true
  · subst h6
    clear hr
    show Calls Try.prog _ #[.agg #[Value.bool false, .int .u8 cls, .int .u32 flow, .int .u16 id, .int .u16 frag, .int .u8 ttl, .int .u8 proto, .bool false, .int .u64 sh, .int .u64 sl, .bool true, .int .u64 dh, .int .u64 dl, .slice ad n cp]] w fun e w' => e = .returned (.tuple #[.slice none 0 0, .int .i64 20]) ∧ w.grownBy w' none
    go_enter Try.func13, Try.ntmps13
    go_wp2_with fail
    exact bodyPost_ret (results_tmp2 rfl _ _ _) rfl ⟨rfl, World.grownBy_alloc _ _ _⟩
  obtain rfl : d6 = false := by cases d6 <;> first | rfl | (exact absurd rfl h6)
  clear h6
  cases h1 : (⟨false, sh, sl⟩ : Ad).right with
  | false =>
    clear hr
    show Calls Try.prog _ #[.agg #[Value.bool false, .int .u8 cls, .int .u32 flow, .int .u16 id, .int .u16 frag, .int .u8 ttl, .int .u8 proto, .bool false, .int .u64 sh, .int .u64 sl, .bool false, .int .u64 dh, .int .u64 dl, .slice ad n cp]] w fun e w' => e = .returned (.tuple #[.slice none 0 0, .int .i64 20]) ∧ w.grownBy w' none
    go_enter Try.func13, Try.ntmps13
    go_wp2_with fail
    have hk := own_alloc HK.out (Obj.cells #[Value.bool false, .int .u8 cls, .int .u32 flow, .int .u16 id, .int .u16 frag, .int .u8 ttl, .int .u8 proto, .bool false, .int .u64 sh, .int .u64 sl, .bool false, .int .u64 dh, .int .u64 dl, .slice ad n cp] 29 (0, 0))
    obtain ⟨p, hp⟩ : ∃ p, p = w.heap.size := ⟨_, rfl⟩
    rw [← hp] at hk ⊢
    clear hp
    clear HK
    have HK := Lib.hid hk
    clear hk
    refine (rrightAddr_any ⟨false, sh, sl⟩ (w.alloc (Obj.cells #[Value.bool false, .int .u8 cls, .int .u32 flow, .int .u16 id, .int .u16 frag, .int .u8 ttl, .int .u8 proto, .bool false, .int .u64 sh, .int .u64 sl, .bool false, .int .u64 dh, .int .u64 dl, .slice ad n cp] 29 (0, 0))) hs).mono ?_
    rintro e w1 ⟨rfl, hg⟩
    rw [h1]
    have hk := HK.out.grow hg
    clear hg
    clear HK
    have HK := Lib.hid hk
    clear hk
    go_wp2_with fail
    exact bodyPost_ret (results_tmp2 rfl _ _ _) rfl ⟨rfl, HK.out.grown⟩
  | true =>
  cases h2 : (⟨false, dh, dl⟩ : Ad).right with
  | false =>
    clear hr
    show Calls Try.prog _ #[.agg #[Value.bool false, .int .u8 cls, .int .u32 flow, .int .u16 id, .int .u16 frag, .int .u8 ttl, .int .u8 proto, .bool false, .int .u64 sh, .int .u64 sl, .bool false, .int .u64 dh, .int .u64 dl, .slice ad n cp]] w fun e w' => e = .returned (.tuple #[.slice none 0 0, .int .i64 20]) ∧ w.grownBy w' none
    go_enter Try.func13, Try.ntmps13
    go_wp2_with fail
    have hk := own_alloc HK.out (Obj.cells #[Value.bool false, .int .u8 cls, .int .u32 flow, .int .u16 id, .int .u16 frag, .int .u8 ttl, .int .u8 proto, .bool false, .int .u64 sh, .int .u64 sl, .bool false, .int .u64 dh, .int .u64 dl, .slice ad n cp] 29 (0, 0))
    obtain ⟨p, hp⟩ : ∃ p, p = w.heap.size := ⟨_, rfl⟩
    rw [← hp] at hk ⊢
    clear hp
    clear HK
    have HK := Lib.hid hk
    clear hk
    refine (rrightAddr_any ⟨false, sh, sl⟩ (w.alloc (Obj.cells #[Value.bool false, .int .u8 cls, .int .u32 flow, .int .u16 id, .int .u16 frag, .int .u8 ttl, .int .u8 proto, .bool false, .int .u64 sh, .int .u64 sl, .bool false, .int .u64 dh, .int .u64 dl, .slice ad n cp] 29 (0, 0))) hs).mono ?_
    rintro e w1 ⟨rfl, hg⟩
    rw [h1]
    have hk := HK.out.grow hg
    clear hg
    clear HK
    have HK := Lib.hid hk
    clear hk
    have hb := HK.out.at (.here _)
    have c0 : w1.cell? ⟨p, 0, none⟩ = some (.bool false) := cell_blk hb 0
    have c2 : w1.cell? ⟨p, 2, none⟩ = some (.int .u32 flow) := cell_blk hb 2
    have c3 : w1.cell? ⟨p, 3, none⟩ = some (.int .u16 id) := cell_blk hb 3
    have c4 : w1.cell? ⟨p, 4, none⟩ = some (.int .u16 frag) := cell_blk hb 4
    have c10 : w1.cell? ⟨p, 10, none⟩ = some (.bool false) := cell_blk hb 10
    have c11 : w1.cell? ⟨p, 11, none⟩ = some (.int .u64 dh) := cell_blk hb 11
    have c12 : w1.cell? ⟨p, 12, none⟩ = some (.int .u64 dl) := cell_blk hb 12
    have c13 : w1.cell? ⟨p, 13, none⟩ = some (.slice ad n cp) := cell_blk hb 13
    clear hb
    go_wp2_with fail
    clear c0 c2 c3 c4 c10 c11 c12 c13
    refine (rrightAddr_any ⟨false, dh, dl⟩ w1 hd).mono ?_
    rintro e w2 ⟨rfl, hg⟩
    rw [h2]
    have hk := HK.out.grow hg
    clear hg
    clear HK
    have HK := Lib.hid hk
    clear hk
    have hb := HK.out.at (.here _)
    have c0 : w2.cell? ⟨p, 0, none⟩ = some (.bool false) := cell_blk hb 0
    have c2 : w2.cell? ⟨p, 2, none⟩ = some (.int .u32 flow) := cell_blk hb 2
    have c3 : w2.cell? ⟨p, 3, none⟩ = some (.int .u16 id) := cell_blk hb 3
    have c4 : w2.cell? ⟨p, 4, none⟩ = some (.int .u16 frag) := cell_blk hb 4
    have c10 : w2.cell? ⟨p, 10, none⟩ = some (.bool false) := cell_blk hb 10
    have c11 : w2.cell? ⟨p, 11, none⟩ = some (.int .u64 dh) := cell_blk hb 11
    have c12 : w2.cell? ⟨p, 12, none⟩ = some (.int .u64 dl) := cell_blk hb 12
    have c13 : w2.cell? ⟨p, 13, none⟩ = some (.slice ad n cp) := cell_blk hb 13
    clear hb
    go_wp2_with fail
    exact bodyPost_ret (results_tmp2 rfl _ _ _) rfl ⟨rfl, HK.out.grown⟩
  | true =>
  rw [h1, h2] at hr
  have hfl : (flow != 0) = true := by
    simp at hr
    simp [hr]
  clear hr
  by_cases hf : 1048576 ≤ flow
  · skip
    show Calls Try.prog _ #[.agg #[Value.bool false, .int .u8 cls, .int .u32 flow, .int .u16 id, .int .u16 frag, .int .u8 ttl, .int .u8 proto, .bool false, .int .u64 sh, .int .u64 sl, .bool false, .int .u64 dh, .int .u64 dl, .slice ad n cp]] w fun e w' => e = .returned (.tuple #[.slice none 0 0, .int .i64 20]) ∧ w.grownBy w' none
    go_enter Try.func13, Try.ntmps13
    go_wp2_with fail
    have hk := own_alloc HK.out (Obj.cells #[Value.bool false, .int .u8 cls, .int .u32 flow, .int .u16 id, .int .u16 frag, .int .u8 ttl, .int .u8 proto, .bool false, .int .u64 sh, .int .u64 sl, .bool false, .int .u64 dh, .int .u64 dl, .slice ad n cp] 29 (0, 0))
    obtain ⟨p, hp⟩ : ∃ p, p = w.heap.size := ⟨_, rfl⟩
    rw [← hp] at hk ⊢
    clear hp
    clear HK
    have HK := Lib.hid hk
    clear hk
    refine (rrightAddr_any ⟨false, sh, sl⟩ (w.alloc (Obj.cells #[Value.bool false, .int .u8 cls, .int .u32 flow, .int .u16 id, .int .u16 frag, .int .u8 ttl, .int .u8 proto, .bool false, .int .u64 sh, .int .u64 sl, .bool false, .int .u64 dh, .int .u64 dl, .slice ad n cp] 29 (0, 0))) hs).mono ?_
    rintro e w1 ⟨rfl, hg⟩
    rw [h1]
    have hk := HK.out.grow hg
    clear hg
    clear HK
    have HK := Lib.hid hk
    clear hk
    have hb := HK.out.at (.here _)
    have c0 : w1.cell? ⟨p, 0, none⟩ = some (.bool false) := cell_blk hb 0
    have c2 : w1.cell? ⟨p, 2, none⟩ = some (.int .u32 flow) := cell_blk hb 2
    have c3 : w1.cell? ⟨p, 3, none⟩ = some (.int .u16 id) := cell_blk hb 3
    have c4 : w1.cell? ⟨p, 4, none⟩ = some (.int .u16 frag) := cell_blk hb 4
    have c10 : w1.cell? ⟨p, 10, none⟩ = some (.bool false) := cell_blk hb 10
    have c11 : w1.cell? ⟨p, 11, none⟩ = some (.int .u64 dh) := cell_blk hb 11
    have c12 : w1.cell? ⟨p, 12, none⟩ = some (.int .u64 dl) := cell_blk hb 12
    have c13 : w1.cell? ⟨p, 13, none⟩ = some (.slice ad n cp) := cell_blk hb 13
    clear hb
    go_wp2_with fail
    clear c0 c2 c3 c4 c10 c11 c12 c13
    refine (rrightAddr_any ⟨false, dh, dl⟩ w1 hd).mono ?_
    rintro e w2 ⟨rfl, hg⟩
    rw [h2]
    have hk := HK.out.grow hg
    clear hg
    clear HK
    have HK := Lib.hid hk
    clear hk
    have hb := HK.out.at (.here _)
    have c0 : w2.cell? ⟨p, 0, none⟩ = some (.bool false) := cell_blk hb 0
    have c2 : w2.cell? ⟨p, 2, none⟩ = some (.int .u32 flow) := cell_blk hb 2
    have c3 : w2.cell? ⟨p, 3, none⟩ = some (.int .u16 id) := cell_blk hb 3
    have c4 : w2.cell? ⟨p, 4, none⟩ = some (.int .u16 frag) := cell_blk hb 4
    have c10 : w2.cell? ⟨p, 10, none⟩ = some (.bool false) := cell_blk hb 10
    have c11 : w2.cell? ⟨p, 11, none⟩ = some (.int .u64 dh) := cell_blk hb 11
    have c12 : w2.cell? ⟨p, 12, none⟩ = some (.int .u64 dl) := cell_blk hb 12
    have c13 : w2.cell? ⟨p, 13, none⟩ = some (.slice ad n cp) := cell_blk hb 13
    clear hb
    go_wp2_with fail
    exact bodyPost_ret (results_tmp2 rfl _ _ _) rfl ⟨rfl, HK.out.grown⟩
  · skip
    show Calls Try.prog _ #[.agg #[Value.bool false, .int .u8 cls, .int .u32 flow, .int .u16 id, .int .u16 frag, .int .u8 ttl, .int .u8 proto, .bool false, .int .u64 sh, .int .u64 sl, .bool false, .int .u64 dh, .int .u64 dl, .slice ad n cp]] w fun e w' => e = .returned (.tuple #[.slice none 0 0, .int .i64 20]) ∧ w.grownBy w' none
    go_enter Try.func13, Try.ntmps13
    go_wp2_with fail
    have hk := own_alloc HK.out (Obj.cells #[Value.bool false, .int .u8 cls, .int .u32 flow, .int .u16 id, .int .u16 frag, .int .u8 ttl, .int .u8 proto, .bool false, .int .u64 sh, .int .u64 sl, .bool false, .int .u64 dh, .int .u64 dl, .slice ad n cp] 29 (0, 0))
    obtain ⟨p, hp⟩ : ∃ p, p = w.heap.size := ⟨_, rfl⟩
    rw [← hp] at hk ⊢
    clear hp
    clear HK
    have HK := Lib.hid hk
    clear hk
    refine (rrightAddr_any ⟨false, sh, sl⟩ (w.alloc (Obj.cells #[Value.bool false, .int .u8 cls, .int .u32 flow, .int .u16 id, .int .u16 frag, .int .u8 ttl, .int .u8 proto, .bool false, .int .u64 sh, .int .u64 sl, .bool false, .int .u64 dh, .int .u64 dl, .slice ad n cp] 29 (0, 0))) hs).mono ?_
    rintro e w1 ⟨rfl, hg⟩
    rw [h1]
    have hk := HK.out.grow hg
    clear hg
    clear HK
    have HK := Lib.hid hk
    clear hk
    have hb := HK.out.at (.here _)
    have c0 : w1.cell? ⟨p, 0, none⟩ = some (.bool false) := cell_blk hb 0
    have c2 : w1.cell? ⟨p, 2, none⟩ = some (.int .u32 flow) := cell_blk hb 2
    have c3 : w1.cell? ⟨p, 3, none⟩ = some (.int .u16 id) := cell_blk hb 3
    have c4 : w1.cell? ⟨p, 4, none⟩ = some (.int .u16 frag) := cell_blk hb 4
    have c10 : w1.cell? ⟨p, 10, none⟩ = some (.bool false) := cell_blk hb 10
    have c11 : w1.cell? ⟨p, 11, none⟩ = some (.int .u64 dh) := cell_blk hb 11
    have c12 : w1.cell? ⟨p, 12, none⟩ = some (.int .u64 dl) := cell_blk hb 12
    have c13 : w1.cell? ⟨p, 13, none⟩ = some (.slice ad n cp) := cell_blk hb 13
    clear hb
    go_wp2_with fail
    clear c0 c2 c3 c4 c10 c11 c12 c13
    refine (rrightAddr_any ⟨false, dh, dl⟩ w1 hd).mono ?_
    rintro e w2 ⟨rfl, hg⟩
    rw [h2]
    have hk := HK.out.grow hg
    clear hg
    clear HK
    have HK := Lib.hid hk
    clear hk
    have hb := HK.out.at (.here _)
    have c0 : w2.cell? ⟨p, 0, none⟩ = some (.bool false) := cell_blk hb 0
    have c2 : w2.cell? ⟨p, 2, none⟩ = some (.int .u32 flow) := cell_blk hb 2
    have c3 : w2.cell? ⟨p, 3, none⟩ = some (.int .u16 id) := cell_blk hb 3
    have c4 : w2.cell? ⟨p, 4, none⟩ = some (.int .u16 frag) := cell_blk hb 4
    have c10 : w2.cell? ⟨p, 10, none⟩ = some (.bool false) := cell_blk hb 10
    have c11 : w2.cell? ⟨p, 11, none⟩ = some (.int .u64 dh) := cell_blk hb 11
    have c12 : w2.cell? ⟨p, 12, none⟩ = some (.int .u64 dl) := cell_blk hb 12
    have c13 : w2.cell? ⟨p, 13, none⟩ = some (.slice ad n cp) := cell_blk hb 13
    clear hb
    go_wp2_with fail
    exact bodyPost_ret (results_tmp2 rfl _ _ _) rfl ⟨rfl, HK.out.grown⟩
set_option maxHeartbeats 8000000 in
set_option maxRecDepth 100000 in
theorem rput_long_true (cls flow id frag ttl proto sh sl dh dl : Int) (ad : Option Addr) (n cp : Nat) (w : World) (hs : (⟨true, sh, sl⟩ : Ad).ok) (hd : (⟨true, dh, dl⟩ : Ad).ok) (h1 : (⟨true, sh, sl⟩ : Ad).right = true) (h2 : (⟨true, dh, dl⟩ : Ad).right = true) (hf0 : ¬ 1048576 ≤ flow) (hn : 1400 < 40 + n) (hn2 : n ≤ 3000) :
    Calls Try.prog 13 #[.agg #[Value.bool true, .int .u8 cls, .int .u32 flow, .int .u16 0, .int .u16 0, .int .u8 ttl, .int .u8 proto, .bool true, .int .u64 sh, .int .u64 sl, .bool true, .int .u64 dh, .int .u64 dl, .slice ad n cp]] w fun e w' => e = .returned (.tuple #[.slice none 0 0, .int .i64 23]) ∧ w.grownBy w' none := by
  have hn3 : (n : Int) ≤ 3000 := by omega
  have hn4 : (1400 : Int) < 40 + n := by omega
  clear hn hn2
  have HK := Lib.hid (own_start w)
  · skip
    show Calls Try.prog _ #[.agg #[Value.bool true, .int .u8 cls, .int .u32 flow, .int .u16 0, .int .u16 0, .int .u8 ttl, .int .u8 proto, .bool true, .int .u64 sh, .int .u64 sl, .bool true, .int .u64 dh, .int .u64 dl, .slice ad n cp]] w fun e w' => e = .returned (.tuple #[.slice none 0 0, .int .i64 23]) ∧ w.grownBy w' none
    go_enter Try.func13, Try.ntmps13
    go_wp2_with fail
    have hk := own_alloc HK.out (Obj.cells #[Value.bool true, .int .u8 cls, .int .u32 flow, .int .u16 0, .int .u16 0, .int .u8 ttl, .int .u8 proto, .bool true, .int .u64 sh, .int .u64 sl, .bool true, .int .u64 dh, .int .u64 dl, .slice ad n cp] 29 (0, 0))
    obtain ⟨p, hp⟩ : ∃ p, p = w.heap.size := ⟨_, rfl⟩
    rw [← hp] at hk ⊢
    clear hp
    clear HK
    have HK := Lib.hid hk
    clear hk
    refine (rrightAddr_any ⟨true, sh, sl⟩ (w.alloc (Obj.cells #[Value.bool true, .int .u8 cls, .int .u32 flow, .int .u16 0, .int .u16 0, .int .u8 ttl, .int .u8 proto, .bool true, .int .u64 sh, .int .u64 sl, .bool true, .int .u64 dh, .int .u64 dl, .slice ad n cp] 29 (0, 0))) hs).mono ?_
    rintro e w1 ⟨rfl, hg⟩
    rw [h1]
    have hk := HK.out.grow hg
    clear hg
    clear HK
    have HK := Lib.hid hk
    clear hk
    have hb := HK.out.at (.here _)
    have c0 : w1.cell? ⟨p, 0, none⟩ = some (.bool true) := cell_blk hb 0
    have c2 : w1.cell? ⟨p, 2, none⟩ = some (.int .u32 flow) := cell_blk hb 2
    have c3 : w1.cell? ⟨p, 3, none⟩ = some (.int .u16 0) := cell_blk hb 3
    have c4 : w1.cell? ⟨p, 4, none⟩ = some (.int .u16 0) := cell_blk hb 4
    have c10 : w1.cell? ⟨p, 10, none⟩ = some (.bool true) := cell_blk hb 10
    have c11 : w1.cell? ⟨p, 11, none⟩ = some (.int .u64 dh) := cell_blk hb 11
    have c12 : w1.cell? ⟨p, 12, none⟩ = some (.int .u64 dl) := cell_blk hb 12
    have c13 : w1.cell? ⟨p, 13, none⟩ = some (.slice ad n cp) := cell_blk hb 13
    clear hb
    go_wp2_with fail
    clear c0 c2 c3 c4 c10 c11 c12 c13
    refine (rrightAddr_any ⟨true, dh, dl⟩ w1 hd).mono ?_
    rintro e w2 ⟨rfl, hg⟩
    rw [h2]
    have hk := HK.out.grow hg
    clear hg
    clear HK
    have HK := Lib.hid hk
    clear hk
    have hb := HK.out.at (.here _)
    have c0 : w2.cell? ⟨p, 0, none⟩ = some (.bool true) := cell_blk hb 0
    have c2 : w2.cell? ⟨p, 2, none⟩ = some (.int .u32 flow) := cell_blk hb 2
    have c3 : w2.cell? ⟨p, 3, none⟩ = some (.int .u16 0) := cell_blk hb 3
    have c4 : w2.cell? ⟨p, 4, none⟩ = some (.int .u16 0) := cell_blk hb 4
    have c10 : w2.cell? ⟨p, 10, none⟩ = some (.bool true) := cell_blk hb 10
    have c11 : w2.cell? ⟨p, 11, none⟩ = some (.int .u64 dh) := cell_blk hb 11
    have c12 : w2.cell? ⟨p, 12, none⟩ = some (.int .u64 dl) := cell_blk hb 12
    have c13 : w2.cell? ⟨p, 13, none⟩ = some (.slice ad n cp) := cell_blk hb 13
    clear hb
    go_wp2_with fail
    exact bodyPost_ret (results_tmp2 rfl _ _ _) rfl ⟨rfl, HK.out.grown⟩
set_option maxHeartbeats 8000000 in
set_option maxRecDepth 100000 in
theorem rput_long_false (cls flow id frag ttl proto sh sl dh dl : Int) (ad : Option Addr) (n cp : Nat) (w : World) (hs : (⟨false, sh, sl⟩ : Ad).ok) (hd : (⟨false, dh, dl⟩ : Ad).ok) (h1 : (⟨false, sh, sl⟩ : Ad).right = true) (h2 : (⟨false, dh, dl⟩ : Ad).right = true) (hf0 : ¬ 1048576 ≤ flow) (hn : 1400 < 20 + n) (hn2 : n ≤ 3000) :
    Calls Try.prog 13 #[.agg #[Value.bool false, .int .u8 cls, .int .u32 0, .int .u16 id, .int .u16 frag, .int .u8 ttl, .int .u8 proto, .bool false, .int .u64 sh, .int .u64 sl, .bool false, .int .u64 dh, .int .u64 dl, .slice ad n cp]] w fun e w' => e = .returned (.tuple #[.slice none 0 0, .int .i64 23]) ∧ w.grownBy w' none := by
  have hn3 : (n : Int) ≤ 3000 := by omega
  have hn4 : (1400 : Int) < 20 + n := by omega
  clear hn hn2
  have HK := Lib.hid (own_start w)
  · skip
    show Calls Try.prog _ #[.agg #[Value.bool false, .int .u8 cls, .int .u32 0, .int .u16 id, .int .u16 frag, .int .u8 ttl, .int .u8 proto, .bool false, .int .u64 sh, .int .u64 sl, .bool false, .int .u64 dh, .int .u64 dl, .slice ad n cp]] w fun e w' => e = .returned (.tuple #[.slice none 0 0, .int .i64 23]) ∧ w.grownBy w' none
    go_enter Try.func13, Try.ntmps13
    go_wp2_with fail
    have hk := own_alloc HK.out (Obj.cells #[Value.bool false, .int .u8 cls, .int .u32 0, .int .u16 id, .int .u16 frag, .int .u8 ttl, .int .u8 proto, .bool false, .int .u64 sh, .int .u64 sl, .bool false, .int .u64 dh, .int .u64 dl, .slice ad n cp] 29 (0, 0))
    obtain ⟨p, hp⟩ : ∃ p, p = w.heap.size := ⟨_, rfl⟩
    rw [← hp] at hk ⊢
    clear hp
    clear HK
    have HK := Lib.hid hk
    clear hk
    refine (rrightAddr_any ⟨false, sh, sl⟩ (w.alloc (Obj.cells #[Value.bool false, .int .u8 cls, .int .u32 0, .int .u16 id, .int .u16 frag, .int .u8 ttl, .int .u8 proto, .bool false, .int .u64 sh, .int .u64 sl, .bool false, .int .u64 dh, .int .u64 dl, .slice ad n cp] 29 (0, 0))) hs).mono ?_
    rintro e w1 ⟨rfl, hg⟩
    rw [h1]
    have hk := HK.out.grow hg
    clear hg
    clear HK
    have HK := Lib.hid hk
    clear hk
    have hb := HK.out.at (.here _)
    have c0 : w1.cell? ⟨p, 0, none⟩ = some (.bool false) := cell_blk hb 0
    have c2 : w1.cell? ⟨p, 2, none⟩ = some (.int .u32 0) := cell_blk hb 2
    have c3 : w1.cell? ⟨p, 3, none⟩ = some (.int .u16 id) := cell_blk hb 3
    have c4 : w1.cell? ⟨p, 4, none⟩ = some (.int .u16 frag) := cell_blk hb 4
    have c10 : w1.cell? ⟨p, 10, none⟩ = some (.bool false) := cell_blk hb 10
    have c11 : w1.cell? ⟨p, 11, none⟩ = some (.int .u64 dh) := cell_blk hb 11
    have c12 : w1.cell? ⟨p, 12, none⟩ = some (.int .u64 dl) := cell_blk hb 12
    have c13 : w1.cell? ⟨p, 13, none⟩ = some (.slice ad n cp) := cell_blk hb 13
    clear hb
    go_wp2_with fail
    clear c0 c2 c3 c4 c10 c11 c12 c13
    refine (rrightAddr_any ⟨false, dh, dl⟩ w1 hd).mono ?_
    rintro e w2 ⟨rfl, hg⟩
    rw [h2]
    have hk := HK.out.grow hg
    clear hg
    clear HK
    have HK := Lib.hid hk
    clear hk
    have hb := HK.out.at (.here _)
    have c0 : w2.cell? ⟨p, 0, none⟩ = some (.bool false) := cell_blk hb 0
    have c2 : w2.cell? ⟨p, 2, none⟩ = some (.int .u32 0) := cell_blk hb 2
    have c3 : w2.cell? ⟨p, 3, none⟩ = some (.int .u16 id) := cell_blk hb 3
    have c4 : w2.cell? ⟨p, 4, none⟩ = some (.int .u16 frag) := cell_blk hb 4
    have c10 : w2.cell? ⟨p, 10, none⟩ = some (.bool false) := cell_blk hb 10
    have c11 : w2.cell? ⟨p, 11, none⟩ = some (.int .u64 dh) := cell_blk hb 11
    have c12 : w2.cell? ⟨p, 12, none⟩ = some (.int .u64 dl) := cell_blk hb 12
    have c13 : w2.cell? ⟨p, 13, none⟩ = some (.slice ad n cp) := cell_blk hb 13
    clear hb
    go_wp2_with fail
    exact bodyPost_ret (results_tmp2 rfl _ _ _) rfl ⟨rfl, HK.out.grown⟩
end Go.Proofs.Ytmankjhopfilaaa
