/- Put, the program's: whole. -/
import Derived.Test.YtmankjhopfilaaaPkI
namespace Go.Proofs.Ytmankjhopfilaaa
set_option linter.unusedVariables false
set_option linter.unusedSimpArgs false
open Go.RowKit Go.Proofs.YtmankjhopfilaaaL

set_option maxHeartbeats 8000000 in
set_option maxRecDepth 100000 in
theorem put_bad (p : Pk) (ad : Option Addr) (n cp : Nat) (w : World) (hp : p.ok) (hr : p.right = false) :
    Calls Try.prog 12 #[p.val (.slice ad n cp)] w fun e w' => e = .returned (.tuple #[.slice none 0 0, .int .i64 20]) ∧ w.grownBy w' none := by
  obtain ⟨v6, cls, flow, id, frag, ttl, proto, ⟨s6, sh, sl⟩, ⟨d6, dh, dl⟩⟩ := p
  cases v6
  · skip
    have HRT := Lib.hid (right_any (⟨false, cls, flow, id, frag, ttl, proto, ⟨s6, sh, sl⟩, ⟨d6, dh, dl⟩⟩ : Pk) ad n cp (w.alloc (Obj.cells #[Value.bool false, .int .u8 cls, .int .u32 flow, .int .u16 id, .int .u16 frag, .int .u8 ttl, .int .u8 proto, .bool s6, .int .u64 sh, .int .u64 sl, .bool d6, .int .u64 dh, .int .u64 dl, .slice ad n cp] 29 (0, 0))) hp)
    rw [hr] at HRT
    clear hp hr
    have HK := Lib.hid (own_start w)
    show Calls Try.prog _ #[.agg #[Value.bool false, .int .u8 cls, .int .u32 flow, .int .u16 id, .int .u16 frag, .int .u8 ttl, .int .u8 proto, .bool s6, .int .u64 sh, .int .u64 sl, .bool d6, .int .u64 dh, .int .u64 dl, .slice ad n cp]] w fun e w' => e = .returned (.tuple #[.slice none 0 0, .int .i64 20]) ∧ w.grownBy w' none
    go_enter Try.func12, Try.ntmps12
    go_wp2_with fail
    have hk := own_alloc HK.out (Obj.cells #[Value.bool false, .int .u8 cls, .int .u32 flow, .int .u16 id, .int .u16 frag, .int .u8 ttl, .int .u8 proto, .bool s6, .int .u64 sh, .int .u64 sl, .bool d6, .int .u64 dh, .int .u64 dl, .slice ad n cp] 29 (0, 0))
    obtain ⟨p, hp⟩ : ∃ p, p = w.heap.size := ⟨_, rfl⟩
    rw [← hp] at hk ⊢
    clear hp
    clear HK
    have HK := Lib.hid hk
    clear hk
    refine HRT.out.mono ?_
    rintro e w1 ⟨rfl, hg⟩
    have hk := HK.out.grow hg
    clear hg HRT
    clear HK
    have HK := Lib.hid hk
    clear hk
    go_wp2_with fail
    exact bodyPost_ret (results_tmp2 rfl _ _ _) rfl ⟨rfl, HK.out.grown⟩
  · skip
    have HRT := Lib.hid (right_any (⟨true, cls, flow, id, frag, ttl, proto, ⟨s6, sh, sl⟩, ⟨d6, dh, dl⟩⟩ : Pk) ad n cp (w.alloc (Obj.cells #[Value.bool true, .int .u8 cls, .int .u32 flow, .int .u16 id, .int .u16 frag, .int .u8 ttl, .int .u8 proto, .bool s6, .int .u64 sh, .int .u64 sl, .bool d6, .int .u64 dh, .int .u64 dl, .slice ad n cp] 29 (0, 0))) hp)
    rw [hr] at HRT
    clear hp hr
    have HK := Lib.hid (own_start w)
    show Calls Try.prog _ #[.agg #[Value.bool true, .int .u8 cls, .int .u32 flow, .int .u16 id, .int .u16 frag, .int .u8 ttl, .int .u8 proto, .bool s6, .int .u64 sh, .int .u64 sl, .bool d6, .int .u64 dh, .int .u64 dl, .slice ad n cp]] w fun e w' => e = .returned (.tuple #[.slice none 0 0, .int .i64 20]) ∧ w.grownBy w' none
    go_enter Try.func12, Try.ntmps12
    go_wp2_with fail
    have hk := own_alloc HK.out (Obj.cells #[Value.bool true, .int .u8 cls, .int .u32 flow, .int .u16 id, .int .u16 frag, .int .u8 ttl, .int .u8 proto, .bool s6, .int .u64 sh, .int .u64 sl, .bool d6, .int .u64 dh, .int .u64 dl, .slice ad n cp] 29 (0, 0))
    obtain ⟨p, hp⟩ : ∃ p, p = w.heap.size := ⟨_, rfl⟩
    rw [← hp] at hk ⊢
    clear hp
    clear HK
    have HK := Lib.hid hk
    clear hk
    refine HRT.out.mono ?_
    rintro e w1 ⟨rfl, hg⟩
    have hk := HK.out.grow hg
    clear hg HRT
    clear HK
    have HK := Lib.hid hk
    clear hk
    go_wp2_with fail
    exact bodyPost_ret (results_tmp2 rfl _ _ _) rfl ⟨rfl, HK.out.grown⟩

def Pk.head (p : Pk) : Nat := if p.v6 then 40 else 20
set_option maxHeartbeats 8000000 in
set_option maxRecDepth 100000 in
theorem put_long (p : Pk) (ad : Option Addr) (n cp : Nat) (w : World) (hp : p.ok) (hr : p.right = true) (hn : 1400 < p.head + n) (hn2 : n ≤ 3000) :
    Calls Try.prog 12 #[p.val (.slice ad n cp)] w fun e w' => e = .returned (.tuple #[.slice none 0 0, .int .i64 23]) ∧ w.grownBy w' none := by
  obtain ⟨v6, cls, flow, id, frag, ttl, proto, ⟨s6, sh, sl⟩, ⟨d6, dh, dl⟩⟩ := p
  have hn3 : (n : Int) ≤ 3000 := by omega
  cases v6
  · have hn4 : (1400 : Int) < 20 + n := by have h : 1400 < 20 + n := hn; omega
    clear hn hn2
    have HRT := Lib.hid (right_any (⟨false, cls, flow, id, frag, ttl, proto, ⟨s6, sh, sl⟩, ⟨d6, dh, dl⟩⟩ : Pk) ad n cp (w.alloc (Obj.cells #[Value.bool false, .int .u8 cls, .int .u32 flow, .int .u16 id, .int .u16 frag, .int .u8 ttl, .int .u8 proto, .bool s6, .int .u64 sh, .int .u64 sl, .bool d6, .int .u64 dh, .int .u64 dl, .slice ad n cp] 29 (0, 0))) hp)
    rw [hr] at HRT
    clear hp hr
    have HK := Lib.hid (own_start w)
    show Calls Try.prog _ #[.agg #[Value.bool false, .int .u8 cls, .int .u32 flow, .int .u16 id, .int .u16 frag, .int .u8 ttl, .int .u8 proto, .bool s6, .int .u64 sh, .int .u64 sl, .bool d6, .int .u64 dh, .int .u64 dl, .slice ad n cp]] w fun e w' => e = .returned (.tuple #[.slice none 0 0, .int .i64 23]) ∧ w.grownBy w' none
    go_enter Try.func12, Try.ntmps12
    go_wp2_with fail
    have hk := own_alloc HK.out (Obj.cells #[Value.bool false, .int .u8 cls, .int .u32 flow, .int .u16 id, .int .u16 frag, .int .u8 ttl, .int .u8 proto, .bool s6, .int .u64 sh, .int .u64 sl, .bool d6, .int .u64 dh, .int .u64 dl, .slice ad n cp] 29 (0, 0))
    obtain ⟨p, hp⟩ : ∃ p, p = w.heap.size := ⟨_, rfl⟩
    rw [← hp] at hk ⊢
    clear hp
    clear HK
    have HK := Lib.hid hk
    clear hk
    refine HRT.out.mono ?_
    rintro e w1 ⟨rfl, hg⟩
    have hk := HK.out.grow hg
    clear hg HRT
    clear HK
    have HK := Lib.hid hk
    clear hk
    have hb := HK.out.at (.here _)
    have c13 : w1.cell? ⟨p, 13, none⟩ = some (.slice ad n cp) := cell_blk hb 13
    clear hb
    go_wp2_with fail
    exact bodyPost_ret (results_tmp2 rfl _ _ _) rfl ⟨rfl, HK.out.grown⟩
  · have hn4 : (1400 : Int) < 40 + n := by have h : 1400 < 40 + n := hn; omega
    clear hn hn2
    have HRT := Lib.hid (right_any (⟨true, cls, flow, id, frag, ttl, proto, ⟨s6, sh, sl⟩, ⟨d6, dh, dl⟩⟩ : Pk) ad n cp (w.alloc (Obj.cells #[Value.bool true, .int .u8 cls, .int .u32 flow, .int .u16 id, .int .u16 frag, .int .u8 ttl, .int .u8 proto, .bool s6, .int .u64 sh, .int .u64 sl, .bool d6, .int .u64 dh, .int .u64 dl, .slice ad n cp] 29 (0, 0))) hp)
    rw [hr] at HRT
    clear hp hr
    have HK := Lib.hid (own_start w)
    show Calls Try.prog _ #[.agg #[Value.bool true, .int .u8 cls, .int .u32 flow, .int .u16 id, .int .u16 frag, .int .u8 ttl, .int .u8 proto, .bool s6, .int .u64 sh, .int .u64 sl, .bool d6, .int .u64 dh, .int .u64 dl, .slice ad n cp]] w fun e w' => e = .returned (.tuple #[.slice none 0 0, .int .i64 23]) ∧ w.grownBy w' none
    go_enter Try.func12, Try.ntmps12
    go_wp2_with fail
    have hk := own_alloc HK.out (Obj.cells #[Value.bool true, .int .u8 cls, .int .u32 flow, .int .u16 id, .int .u16 frag, .int .u8 ttl, .int .u8 proto, .bool s6, .int .u64 sh, .int .u64 sl, .bool d6, .int .u64 dh, .int .u64 dl, .slice ad n cp] 29 (0, 0))
    obtain ⟨p, hp⟩ : ∃ p, p = w.heap.size := ⟨_, rfl⟩
    rw [← hp] at hk ⊢
    clear hp
    clear HK
    have HK := Lib.hid hk
    clear hk
    refine HRT.out.mono ?_
    rintro e w1 ⟨rfl, hg⟩
    have hk := HK.out.grow hg
    clear hg HRT
    clear HK
    have HK := Lib.hid hk
    clear hk
    have hb := HK.out.at (.here _)
    have c13 : w1.cell? ⟨p, 13, none⟩ = some (.slice ad n cp) := cell_blk hb 13
    clear hb
    go_wp2_with fail
    exact bodyPost_ret (results_tmp2 rfl _ _ _) rfl ⟨rfl, HK.out.grown⟩

def putE (p : Pk) (n : Nat) : Int := if p.right = false then 20 else if p.head + n ≤ 1400 then 0 else 23
def putL (p : Pk) (xs : List Int) : List Int := if putE p xs.length = 0 then (if p.v6 then put6L p xs else put4L p xs) else []
theorem length_sumdL (xs : List Int) (h : 20 ≤ xs.length) : (sumdL xs).length = xs.length := by
  unfold sumdL
  rw [List.length_append, List.length_append, List.length_take, List.length_drop, length_beB, length_zerd]
  omega
theorem length_put6L (p : Pk) (xs : List Int) (h1 : p.src.v6 = true) (h2 : p.dst.v6 = true) : (put6L p xs).length = 40 + xs.length := by
  have e (A : Ad) (h : A.v6 = true) : A.bytes.length = 16 := by simp [Ad.bytes, h, length_beB]
  simp only [put6L, head6, List.length_append, length_beB, e _ h1, e _ h2, List.length_cons, List.length_nil]; omega
theorem length_put4L (p : Pk) (xs : List Int) (h1 : p.src.v6 = false) (h2 : p.dst.v6 = false) : (put4L p xs).length = 20 + xs.length := by
  have e (A : Ad) (h : A.v6 = false) : A.bytes.length = 4 := by simp [Ad.bytes, h, length_beB]
  have : (head4 p xs.length ++ (p.src.bytes ++ (p.dst.bytes ++ xs))).length = 20 + xs.length := by
    simp only [head4, List.length_append, length_beB, e _ h1, e _ h2, List.length_cons, List.length_nil]; omega
  rw [put4L, length_sumdL _ (by omega), this]
theorem Pk.right_v6 {p : Pk} (h : p.right = true) : p.src.v6 = p.v6 ∧ p.dst.v6 = p.v6 := by
  unfold Pk.right at h
  simp only [Bool.and_eq_true, beq_iff_eq] at h
  exact h.1
theorem length_putL (p : Pk) (xs : List Int) (h : putE p xs.length = 0) : (putL p xs).length = p.head + xs.length := by
  have hr : p.right = true := by
    unfold putE at h
    split at h
    · cases h
    · rename_i hh; simpa using hh
  obtain ⟨h1, h2⟩ := Pk.right_v6 hr
  rw [putL, if_pos h, Pk.head]
  by_cases hv : p.v6 = true
  · rw [if_pos hv, if_pos hv, length_put6L _ _ (h1.trans hv) (h2.trans hv)]
  · have hv' : p.v6 = false := by simpa using hv
    rw [if_neg hv, if_neg hv, length_put4L _ _ (h1.trans hv') (h2.trans hv')]
theorem own_nil_row (w : World) (base : Nat) (e : TypeId) : w.ownsRow base e 1 (.slice none 0 0) 0 [] := ⟨rfl, .inl ⟨rfl, rfl⟩⟩

theorem put_any (p : Pk) (b : Bs) (w : World) (hp : p.ok) (hb : b.ok w) :
    Calls Try.prog 12 #[p.val b.val] w fun e w' => ∃ a m c, e = .returned (.tuple #[.slice a m c, .int .i64 (putE p b.len)]) ∧ w'.ownsRow w.heap.size 5 1 (.slice a m c) m ((putL p b.xs).map (Value.int .u8)) ∧ w.grownBy w' none := by
  obtain ⟨ad, n, cp, xs⟩ := b
  have hl : xs.length = n := hb.1.1
  have hn : n ≤ 3000 := hb.2.2.2
  show Calls Try.prog _ #[p.val (.slice ad n cp)] w fun e w' => ∃ a m c, e = .returned (.tuple #[.slice a m c, .int .i64 (putE p n)]) ∧ w'.ownsRow w.heap.size 5 1 (.slice a m c) m ((putL p xs).map (Value.int .u8)) ∧ w.grownBy w' none
  cases hr : p.right with
  | false =>
    have he : putE p n = 20 := by simp [putE, hr]
    have hL : putL p xs = [] := by rw [putL, if_neg (by rw [hl, he]; decide)]
    rw [he, hL]
    refine (put_bad p ad n cp w hp hr).mono ?_
    rintro e w' ⟨rfl, hg⟩
    exact ⟨_, _, _, rfl, own_nil_row _ _ _, hg⟩
  | true =>
    by_cases hn1 : p.head + n ≤ 1400
    · have he : putE p n = 0 := by simp [putE, hr, hn1]
      have hL : putL p xs = if p.v6 then put6L p xs else put4L p xs := by rw [putL, if_pos (by rw [hl, he])]
      rw [he, hL]
      obtain ⟨h1, h2⟩ := Pk.right_v6 hr
      obtain ⟨v6, cls, flow, id, frag, ttl, proto, ⟨s6, sh, sl⟩, ⟨d6, dh, dl⟩⟩ := p
      have h1 : s6 = v6 := h1
      have h2 : d6 = v6 := h2
      subst h1 h2
      cases d6
      · refine (put4_any cls flow id frag ttl proto sh sl dh dl ad n cp xs w hp hr hb hn1).mono ?_
        rintro e w' ⟨a, c, rfl, ho, hg⟩
        exact ⟨_, _, _, rfl, ho, hg⟩
      · refine (put6_any cls flow id frag ttl proto sh sl dh dl ad n cp xs w hp hr hb hn1).mono ?_
        rintro e w' ⟨a, c, rfl, ho, hg⟩
        exact ⟨_, _, _, rfl, ho, hg⟩
    · have he : putE p n = 23 := by simp [putE, hr, hn1]
      have hL : putL p xs = [] := by rw [putL, if_neg (by rw [hl, he]; decide)]
      rw [he, hL]
      refine (put_long p ad n cp w hp hr (by omega) hn).mono ?_
      rintro e w' ⟨rfl, hg⟩
      exact ⟨_, _, _, rfl, own_nil_row _ _ _, hg⟩
end Go.Proofs.Ytmankjhopfilaaa
