/- Packets: which are right. -/
import Derived.Test.YtmankjhopfilaaaPkF
namespace Go.Proofs.Ytmankjhopfilaaa
set_option linter.unusedVariables false
set_option linter.unusedSimpArgs false
open Go.RowKit Go.Proofs.YtmankjhopfilaaaL

/-- A packet, but for what it carries. -/
structure Pk where
  v6 : Bool
  cls : Int
  flow : Int
  id : Int
  frag : Int
  ttl : Int
  proto : Int
  src : Ad
  dst : Ad
def Pk.val (p : Pk) (b : Value) : Value := .agg #[.bool p.v6, .int .u8 p.cls, .int .u32 p.flow, .int .u16 p.id, .int .u16 p.frag, .int .u8 p.ttl, .int .u8 p.proto, .bool p.src.v6, .int .u64 p.src.hi, .int .u64 p.src.lo, .bool p.dst.v6, .int .u64 p.dst.hi, .int .u64 p.dst.lo, b]
structure Pk.ok (p : Pk) : Prop where
  cls : 0 ≤ p.cls ∧ p.cls < 256
  flow : 0 ≤ p.flow ∧ p.flow < 4294967296
  id : 0 ≤ p.id ∧ p.id < 65536
  frag : 0 ≤ p.frag ∧ p.frag < 65536
  ttl : 0 ≤ p.ttl ∧ p.ttl < 256
  proto : 0 ≤ p.proto ∧ p.proto < 256
  src : p.src.ok
  dst : p.dst.ok

set_option maxHeartbeats 8000000 in
set_option maxRecDepth 100000 in
theorem right4_any (cls flow id frag ttl proto sh sl dh dl : Int) (a : Option Addr) (n c : Nat) (w : World) (hs : (⟨false, sh, sl⟩ : Ad).ok) (hd : (⟨false, dh, dl⟩ : Ad).ok) :
    Calls Try.prog 24 #[.agg #[.bool false, .int .u8 cls, .int .u32 flow, .int .u16 id, .int .u16 frag, .int .u8 ttl, .int .u8 proto, .bool false, .int .u64 sh, .int .u64 sl, .bool false, .int .u64 dh, .int .u64 dl, .slice a n c]] w fun e w' => e = .returned (.bool ((⟨false, sh, sl⟩ : Ad).right && (⟨false, dh, dl⟩ : Ad).right && flow == 0)) ∧ w.grownBy w' none := by
  obtain ⟨r1, hr1⟩ : ∃ r, r = (⟨false, sh, sl⟩ : Ad).right := ⟨_, rfl⟩
  obtain ⟨r2, hr2⟩ : ∃ r, r = (⟨false, dh, dl⟩ : Ad).right := ⟨_, rfl⟩
  have HR1 := Lib.hid hr1
  have HR2 := Lib.hid hr2
  rw [← hr1, ← hr2]
  clear hr1 hr2
  have HK := Lib.hid (own_start w)
  go_enter Try.func24, Try.ntmps24
  go_wp2_with fail
  have hk := own_alloc HK.out (Obj.cells #[Value.bool false, .int .u8 cls, .int .u32 flow, .int .u16 id, .int .u16 frag, .int .u8 ttl, .int .u8 proto, .bool false, .int .u64 sh, .int .u64 sl, .bool false, .int .u64 dh, .int .u64 dl, .slice a n c] 29 (0, 0))
  obtain ⟨p, hp⟩ : ∃ p, p = w.heap.size := ⟨_, rfl⟩
  rw [← hp] at hk ⊢
  clear hp
  clear HK
  have HK := Lib.hid hk
  clear hk
  have q4 := rightAddr_any ⟨false, sh, sl⟩ (w.alloc (Obj.cells #[Value.bool false, .int .u8 cls, .int .u32 flow, .int .u16 id, .int .u16 frag, .int .u8 ttl, .int .u8 proto, .bool false, .int .u64 sh, .int .u64 sl, .bool false, .int .u64 dh, .int .u64 dl, .slice a n c] 29 (0, 0))) hs
  rw [← HR1.out] at q4
  refine q4.mono ?_
  rintro e w1 ⟨rfl, hg⟩
  have hk := HK.out.grow hg
  clear q4 hg
  clear HK
  have HK := Lib.hid hk
  clear hk
  have hb := HK.out.at (.here _)
  have c10 : w1.cell? ⟨p, 10, none⟩ = some (.bool false) := cell_blk hb 10
  have c11 : w1.cell? ⟨p, 11, none⟩ = some (.int .u64 dh) := cell_blk hb 11
  have c12 : w1.cell? ⟨p, 12, none⟩ = some (.int .u64 dl) := cell_blk hb 12
  clear hb
  cases r1
  · go_wp2_with fail
    exact bodyPost_ret (results_tmp rfl _ _ _) rfl ⟨rfl, HK.out.grown⟩
  · go_wp2_with fail
    clear c10 c11 c12
    have q4 := rightAddr_any ⟨false, dh, dl⟩ w1 hd
    rw [← HR2.out] at q4
    refine q4.mono ?_
    rintro e w2 ⟨rfl, hg⟩
    have hk := HK.out.grow hg
    clear q4 hg
    clear HK
    have HK := Lib.hid hk
    clear hk
    have hb := HK.out.at (.here _)
    have c0 : w2.cell? ⟨p, 0, none⟩ = some (.bool false) := cell_blk hb 0
    have c2 : w2.cell? ⟨p, 2, none⟩ = some (.int .u32 flow) := cell_blk hb 2
    clear hb
    cases r2
    · go_wp2_with fail
      exact bodyPost_ret (results_tmp rfl _ _ _) rfl ⟨rfl, HK.out.grown⟩
    · go_wp2_with fail
      exact bodyPost_ret (results_tmp rfl _ _ _) rfl ⟨rfl, HK.out.grown⟩
set_option maxHeartbeats 8000000 in
set_option maxRecDepth 100000 in
theorem right6_any (cls flow id frag ttl proto sh sl dh dl : Int) (a : Option Addr) (n c : Nat) (w : World) (hs : (⟨true, sh, sl⟩ : Ad).ok) (hd : (⟨true, dh, dl⟩ : Ad).ok) :
    Calls Try.prog 24 #[.agg #[.bool true, .int .u8 cls, .int .u32 flow, .int .u16 id, .int .u16 frag, .int .u8 ttl, .int .u8 proto, .bool true, .int .u64 sh, .int .u64 sl, .bool true, .int .u64 dh, .int .u64 dl, .slice a n c]] w fun e w' => e = .returned (.bool ((⟨true, sh, sl⟩ : Ad).right && (⟨true, dh, dl⟩ : Ad).right && (decide (flow ≤ 1048575) && id == 0 && frag == 0))) ∧ w.grownBy w' none := by
  obtain ⟨r1, hr1⟩ : ∃ r, r = (⟨true, sh, sl⟩ : Ad).right := ⟨_, rfl⟩
  obtain ⟨r2, hr2⟩ : ∃ r, r = (⟨true, dh, dl⟩ : Ad).right := ⟨_, rfl⟩
  have HR1 := Lib.hid hr1
  have HR2 := Lib.hid hr2
  rw [← hr1, ← hr2]
  clear hr1 hr2
  have HK := Lib.hid (own_start w)
  go_enter Try.func24, Try.ntmps24
  go_wp2_with fail
  have hk := own_alloc HK.out (Obj.cells #[Value.bool true, .int .u8 cls, .int .u32 flow, .int .u16 id, .int .u16 frag, .int .u8 ttl, .int .u8 proto, .bool true, .int .u64 sh, .int .u64 sl, .bool true, .int .u64 dh, .int .u64 dl, .slice a n c] 29 (0, 0))
  obtain ⟨p, hp⟩ : ∃ p, p = w.heap.size := ⟨_, rfl⟩
  rw [← hp] at hk ⊢
  clear hp
  clear HK
  have HK := Lib.hid hk
  clear hk
  have q4 := rightAddr_any ⟨true, sh, sl⟩ (w.alloc (Obj.cells #[Value.bool true, .int .u8 cls, .int .u32 flow, .int .u16 id, .int .u16 frag, .int .u8 ttl, .int .u8 proto, .bool true, .int .u64 sh, .int .u64 sl, .bool true, .int .u64 dh, .int .u64 dl, .slice a n c] 29 (0, 0))) hs
  rw [← HR1.out] at q4
  refine q4.mono ?_
  rintro e w1 ⟨rfl, hg⟩
  have hk := HK.out.grow hg
  clear q4 hg
  clear HK
  have HK := Lib.hid hk
  clear hk
  have hb := HK.out.at (.here _)
  have c10 : w1.cell? ⟨p, 10, none⟩ = some (.bool true) := cell_blk hb 10
  have c11 : w1.cell? ⟨p, 11, none⟩ = some (.int .u64 dh) := cell_blk hb 11
  have c12 : w1.cell? ⟨p, 12, none⟩ = some (.int .u64 dl) := cell_blk hb 12
  clear hb
  cases r1
  · go_wp2_with fail
    exact bodyPost_ret (results_tmp rfl _ _ _) rfl ⟨rfl, HK.out.grown⟩
  · go_wp2_with fail
    clear c10 c11 c12
    have q4 := rightAddr_any ⟨true, dh, dl⟩ w1 hd
    rw [← HR2.out] at q4
    refine q4.mono ?_
    rintro e w2 ⟨rfl, hg⟩
    have hk := HK.out.grow hg
    clear q4 hg
    clear HK
    have HK := Lib.hid hk
    clear hk
    have hb := HK.out.at (.here _)
    have c0 : w2.cell? ⟨p, 0, none⟩ = some (.bool true) := cell_blk hb 0
    have c2 : w2.cell? ⟨p, 2, none⟩ = some (.int .u32 flow) := cell_blk hb 2
    have c3 : w2.cell? ⟨p, 3, none⟩ = some (.int .u16 id) := cell_blk hb 3
    have c4 : w2.cell? ⟨p, 4, none⟩ = some (.int .u16 frag) := cell_blk hb 4
    clear hb
    cases r2
    · go_wp2_with fail
      exact bodyPost_ret (results_tmp rfl _ _ _) rfl ⟨rfl, HK.out.grown⟩
    · by_cases e1 : flow ≤ 1048575
      · by_cases e2 : id = 0
        · have e2b : (id == 0) = true := by simpa using e2
          go_wp2_with fail
          refine bodyPost_ret (results_tmp rfl _ _ _) rfl ⟨?_, HK.out.grown⟩
          simp [e1, e2]
        · have e2b : (id == 0) = false := by simpa using e2
          go_wp2_with fail
          refine bodyPost_ret (results_tmp rfl _ _ _) rfl ⟨?_, HK.out.grown⟩
          simp [e1, e2]
      · go_wp2_with fail
        refine bodyPost_ret (results_tmp rfl _ _ _) rfl ⟨?_, HK.out.grown⟩
        simp [e1]
        omega

def Pk.right (p : Pk) : Bool := p.src.v6 == p.v6 && p.dst.v6 == p.v6 && (p.src.right && p.dst.right && (if p.v6 then decide (p.flow ≤ 1048575) && p.id == 0 && p.frag == 0 else p.flow == 0))
set_option maxHeartbeats 8000000 in
set_option maxRecDepth 100000 in
theorem right_any (p : Pk) (a : Option Addr) (n c : Nat) (w : World) (hp : p.ok) : Calls Try.prog 24 #[p.val (.slice a n c)] w fun e w' => e = .returned (.bool p.right) ∧ w.grownBy w' none := by
  have hs := hp.src
  have hd := hp.dst
  clear hp
  obtain ⟨v6, cls, flow, id, frag, ttl, proto, ⟨sv, sh, sl⟩, ⟨dv, dh, dl⟩⟩ := p
  cases v6 <;> cases sv <;> cases dv
  · exact right4_any cls flow id frag ttl proto sh sl dh dl a n c w hs hd
  · show Calls Try.prog _ #[.agg #[.bool false, .int .u8 cls, .int .u32 flow, .int .u16 id, .int .u16 frag, .int .u8 ttl, .int .u8 proto, .bool false, .int .u64 sh, .int .u64 sl, .bool true, .int .u64 dh, .int .u64 dl, .slice a n c]] w fun e w' => e = .returned (.bool false) ∧ w.grownBy w' none
    go_enter Try.func24, Try.ntmps24
    go_wp2_with fail
    exact bodyPost_ret (results_tmp rfl _ _ _) rfl ⟨rfl, World.grownBy_alloc _ _ _⟩
  · show Calls Try.prog _ #[.agg #[.bool false, .int .u8 cls, .int .u32 flow, .int .u16 id, .int .u16 frag, .int .u8 ttl, .int .u8 proto, .bool true, .int .u64 sh, .int .u64 sl, .bool false, .int .u64 dh, .int .u64 dl, .slice a n c]] w fun e w' => e = .returned (.bool false) ∧ w.grownBy w' none
    go_enter Try.func24, Try.ntmps24
    go_wp2_with fail
    exact bodyPost_ret (results_tmp rfl _ _ _) rfl ⟨rfl, World.grownBy_alloc _ _ _⟩
  · show Calls Try.prog _ #[.agg #[.bool false, .int .u8 cls, .int .u32 flow, .int .u16 id, .int .u16 frag, .int .u8 ttl, .int .u8 proto, .bool true, .int .u64 sh, .int .u64 sl, .bool true, .int .u64 dh, .int .u64 dl, .slice a n c]] w fun e w' => e = .returned (.bool false) ∧ w.grownBy w' none
    go_enter Try.func24, Try.ntmps24
    go_wp2_with fail
    exact bodyPost_ret (results_tmp rfl _ _ _) rfl ⟨rfl, World.grownBy_alloc _ _ _⟩
  · show Calls Try.prog _ #[.agg #[.bool true, .int .u8 cls, .int .u32 flow, .int .u16 id, .int .u16 frag, .int .u8 ttl, .int .u8 proto, .bool false, .int .u64 sh, .int .u64 sl, .bool false, .int .u64 dh, .int .u64 dl, .slice a n c]] w fun e w' => e = .returned (.bool false) ∧ w.grownBy w' none
    go_enter Try.func24, Try.ntmps24
    go_wp2_with fail
    exact bodyPost_ret (results_tmp rfl _ _ _) rfl ⟨rfl, World.grownBy_alloc _ _ _⟩
  · show Calls Try.prog _ #[.agg #[.bool true, .int .u8 cls, .int .u32 flow, .int .u16 id, .int .u16 frag, .int .u8 ttl, .int .u8 proto, .bool false, .int .u64 sh, .int .u64 sl, .bool true, .int .u64 dh, .int .u64 dl, .slice a n c]] w fun e w' => e = .returned (.bool false) ∧ w.grownBy w' none
    go_enter Try.func24, Try.ntmps24
    go_wp2_with fail
    exact bodyPost_ret (results_tmp rfl _ _ _) rfl ⟨rfl, World.grownBy_alloc _ _ _⟩
  · show Calls Try.prog _ #[.agg #[.bool true, .int .u8 cls, .int .u32 flow, .int .u16 id, .int .u16 frag, .int .u8 ttl, .int .u8 proto, .bool true, .int .u64 sh, .int .u64 sl, .bool false, .int .u64 dh, .int .u64 dl, .slice a n c]] w fun e w' => e = .returned (.bool false) ∧ w.grownBy w' none
    go_enter Try.func24, Try.ntmps24
    go_wp2_with fail
    exact bodyPost_ret (results_tmp rfl _ _ _) rfl ⟨rfl, World.grownBy_alloc _ _ _⟩
  · exact right6_any cls flow id frag ttl proto sh sl dh dl a n c w hs hd
end Go.Proofs.Ytmankjhopfilaaa
