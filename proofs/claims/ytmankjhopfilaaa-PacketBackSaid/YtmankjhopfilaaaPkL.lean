/- What bytes of version 4 are: the program's parse4. -/
import Derived.Test.YtmankjhopfilaaaPkJ
import Derived.Test.YtmankjhopfilaaaPkK
import Derived.Laws.ResultCell
namespace Go.Proofs.Ytmankjhopfilaaa
set_option linter.unusedVariables false
set_option linter.unusedSimpArgs false
open Go.RowKit Go.Proofs.YtmankjhopfilaaaL

theorem results_cell_tmp_row {P : Program} {fn : Func} {p u : Tmp} {ty : TypeId} (h : fn.results = #[.cell p ty, .tmp u]) (tmps : Array Value) (w : World) (g : Nat) (t : TypeId) (cs : Array Value) (fr : Nat × Nat) (d : TypeDesc)
    (hp : tmps.getD p undef = .pointer (some ⟨g, 0, none⟩)) (hg : w.heap[g]? = some (.cells cs t fr))
    (hu : P.underlying ty = some d) (hd : (match d with | .struct _ | .array _ _ => true | _ => false) = true) (hi : (P.info? ty).map (·.size) = some cs.size) :
    (results fn tmps).run P w = .ok (.tuple #[.agg cs, tmps.getD u undef]) w := by
  rw [results_cell_tmp h, hp]
  simp [asAddr, Result.andThen, run_loadVar_row w g t ty cs fr d hg hu hd hi]
/-- What bytes are: which error, the packet, what it carries. -/
structure Rs where
  err : Int
  p : Pk
  b : List Int
def pk0 : Pk := ⟨false, 0, 0, 0, 0, 0, 0, ⟨false, 0, 0⟩, ⟨false, 0, 0⟩⟩
def badR (e : Int) : Rs := ⟨e, pk0, []⟩
def Rs.ret (r : Rs) (w w' : World) (e : Ending) : Prop := ∃ a c, e = .returned (.tuple #[r.p.val (.slice a r.b.length c), .int .i64 r.err]) ∧ w'.ownsRow w.heap.size 5 1 (.slice a r.b.length c) r.b.length (r.b.map (Value.int .u8)) ∧ w.grownBy w' none
def sec (xs : List Int) (l h : Nat) : List Int := (xs.take h).drop l
theorem ok_sec {xs : List Int} (h : okB 256 xs) (l k : Nat) : okB 256 (sec xs l k) := ok_drop (ok_take h k) l
theorem length_sec (xs : List Int) (l h : Nat) (hh : h ≤ xs.length) : (sec xs l h).length = h - l := by rw [sec, List.length_drop, List.length_take, Nat.min_eq_left hh]
def pk4 (xs : List Int) : Pk := ⟨false, xs.getD 1 0, 0, beV (sec xs 4 6), beV (sec xs 6 8), xs.getD 8 0, xs.getD 9 0, ad4 (sec xs 12 16), ad4 (sec xs 16 20)⟩
def par4 (xs : List Int) : Rs := if xs.length < 20 ∨ xs.getD 0 0 ≠ 69 ∨ beV (sec xs 2 4) ≠ xs.length then badR 20 else if sumdL xs ≠ xs then badR 22 else ⟨0, pk4 xs, xs.drop 20⟩
theorem beV_two {s : List Int} (h : s.length = 2) (ho : okB 256 s) : 0 ≤ beV s ∧ beV s < 65536 := beV_range 2 s h ho

set_option maxHeartbeats 8000000 in
set_option maxRecDepth 100000 in
theorem parse4_any (ad : Option Addr) (n c : Nat) (xs : List Int) (w : World) (hb : (⟨ad, n, c, xs⟩ : Bs).ok w) (hcn : n ≤ c) :
    Calls Try.prog 33 #[.slice ad n c] w fun e w' => (par4 xs).ret w w' e := by
  have HB := Lib.hid (fun (w' : World) (g : w.grownBy w' none) => Bs.ok_keep hb g)
  have HL := Lib.hid (show xs.length = n from hb.1.1)
  have HO := Lib.hid (show okB 256 xs from hb.2.1)
  have hn3 : (n : Int) ≤ 3000 := by have h : n ≤ 3000 := hb.2.2.2; omega
  obtain ⟨R, hR⟩ : ∃ R, R = par4 xs := ⟨_, rfl⟩
  rw [← hR]
  have HR := Lib.hid hR
  clear hb hR
  have HK := Lib.hid (own_start w)
  by_cases h20 : n < 20
  · have hR2 : R = badR 20 := by rw [HR.out, par4, if_pos (.inl (by rw [HL.out]; exact h20))]
    rw [hR2]
    show Calls Try.prog _ #[.slice ad n c] w fun e w' => ∃ a c, e = .returned (.tuple #[.agg #[.bool false, .int .u8 0, .int .u32 0, .int .u16 0, .int .u16 0, .int .u8 0, .int .u8 0, .bool false, .int .u64 0, .int .u64 0, .bool false, .int .u64 0, .int .u64 0, .slice a 0 c], .int .i64 20]) ∧ w'.ownsRow w.heap.size 5 1 (.slice a 0 c) 0 [] ∧ w.grownBy w' none
    clear hR2 HR
    have hn20 : (n : Int) < 20 := by omega
    clear h20
    go_enter Try.func33, Try.ntmps33
    go_upto_region 1 with fail
    have hk := own_alloc HK.out (Obj.cells #[Value.bool false, .int .u8 0, .int .u32 0, .int .u16 0, .int .u16 0, .int .u8 0, .int .u8 0, .bool false, .int .u64 0, .int .u64 0, .bool false, .int .u64 0, .int .u64 0, .slice none 0 0] 29 (0, 0))
    obtain ⟨p, hp⟩ : ∃ p, p = w.heap.size := ⟨_, rfl⟩
    rw [← hp] at hk ⊢
    clear hp
    clear HK
    have HK := Lib.hid hk
    clear hk
    generalize w.alloc (Obj.cells #[Value.bool false, .int .u8 0, .int .u32 0, .int .u16 0, .int .u16 0, .int .u8 0, .int .u8 0, .bool false, .int .u64 0, .int .u64 0, .bool false, .int .u64 0, .int .u64 0, .slice none 0 0] 29 (0, 0)) = w1 at HK ⊢
    go_wp2_with (refine wpList_put_blk rfl HK.out 29 _ _ rfl p #[.bool false, .int .u8 0, .int .u32 0, .int .u16 0, .int .u16 0, .int .u8 0, .int .u8 0, .bool false, .int .u64 0, .int .u64 0, .bool false, .int .u64 0, .int .u64 0, .slice none 0 0] rfl rfl _ _ (.here _) rfl (by kernel_rfl) (by simp [Value.oneCell']) ?_; (intro wn hkn; have HKN := Lib.hid hkn; clear hkn; clear HK; have HK := HKN; clear HKN))
    exact bodyPost_ret (results_cell_tmp_row rfl _ _ p _ _ _ _ rfl (HK.out.at (.here _)) Try.underlying29 rfl (by kernel_rfl)) rfl ⟨none, 0, rfl, own_nil_row _ _ _, HK.out.grown⟩
  have hn20 : ¬ (n : Int) < 20 := by omega
  have h20' : 20 ≤ n := by omega
  clear h20
  obtain ⟨x, rfl⟩ : ∃ x, ad = some x := by
    obtain ⟨x, hx, -⟩ := (HB.out w (grown_refl _ _)).1.2 0 (show 0 < n by omega)
    exact ⟨x, hx⟩
  obtain ⟨X, hX⟩ : ∃ X, X = xs.getD 0 0 := ⟨_, rfl⟩
  have HX := Lib.hid hX
  clear hX
  obtain ⟨V, hV⟩ : ∃ V, V = beV (sec xs 2 4) := ⟨_, rfl⟩
  have HV := Lib.hid hV
  clear hV
  have hc2 : ¬ c = 2 := by omega
  have hc4 : (4 : Int) ≤ c := by omega
  have hcn2 : (n : Int) ≤ c := by omega
  have HWN := Lib.hid (show IntKind.u64.wrap (n : Int) = n by rw [IntKind.wrap_u64]; omega)
  by_cases hx69 : X = 69
  case neg =>
    have hR2 : R = badR 20 := by rw [HR.out, par4, if_pos (.inr (.inl (by rw [← HX.out]; exact hx69)))]
    rw [hR2]
    show Calls Try.prog _ #[.slice (some x) n c] w fun e w' => ∃ a c, e = .returned (.tuple #[.agg #[.bool false, .int .u8 0, .int .u32 0, .int .u16 0, .int .u16 0, .int .u8 0, .int .u8 0, .bool false, .int .u64 0, .int .u64 0, .bool false, .int .u64 0, .int .u64 0, .slice a 0 c], .int .i64 20]) ∧ w'.ownsRow w.heap.size 5 1 (.slice a 0 c) 0 [] ∧ w.grownBy w' none
    clear hR2 HR
    have hne : (X != 69) = true := by simp [hx69]
    clear hx69
    go_enter Try.func33, Try.ntmps33
    go_upto_region 1 with fail
    have hk := own_alloc HK.out (Obj.cells #[Value.bool false, .int .u8 0, .int .u32 0, .int .u16 0, .int .u16 0, .int .u8 0, .int .u8 0, .bool false, .int .u64 0, .int .u64 0, .bool false, .int .u64 0, .int .u64 0, .slice none 0 0] 29 (0, 0))
    obtain ⟨p, hp⟩ : ∃ p, p = w.heap.size := ⟨_, rfl⟩
    rw [← hp] at hk ⊢
    clear hp
    clear HK
    have HK := Lib.hid hk
    clear hk
    generalize w.alloc (Obj.cells #[Value.bool false, .int .u8 0, .int .u32 0, .int .u16 0, .int .u16 0, .int .u8 0, .int .u8 0, .bool false, .int .u64 0, .int .u64 0, .bool false, .int .u64 0, .int .u64 0, .slice none 0 0] 29 (0, 0)) = w1 at HK ⊢
    have hr0 : Rd .u8 w1 (some x) n xs := (HB.out _ HK.out.grown).1
    have c0 := rdx_at hr0 0 (by omega)
    clear hr0
    rw [← HX.out] at c0
    have c0' : w1.cell? x = some (.int .u8 X) := by rw [← c0]; rfl
    go_wp2_with (refine wpList_put_blk rfl HK.out 29 _ _ rfl p #[.bool false, .int .u8 0, .int .u32 0, .int .u16 0, .int .u16 0, .int .u8 0, .int .u8 0, .bool false, .int .u64 0, .int .u64 0, .bool false, .int .u64 0, .int .u64 0, .slice none 0 0] rfl rfl _ _ (.here _) rfl (by kernel_rfl) (by simp [Value.oneCell']) ?_; (intro wn hkn; have HKN := Lib.hid hkn; clear hkn; clear HK; have HK := HKN; clear HKN))
    exact bodyPost_ret (results_cell_tmp_row rfl _ _ p _ _ _ _ rfl (HK.out.at (.here _)) Try.underlying29 rfl (by kernel_rfl)) rfl ⟨none, 0, rfl, own_nil_row _ _ _, HK.out.grown⟩
  have hne : (X != 69) = false := by simp [hx69]
  by_cases hv : V = n
  case neg =>
    have hR2 : R = badR 20 := by rw [HR.out, par4, if_pos (.inr (.inr (by rw [← HV.out, HL.out]; exact hv)))]
    rw [hR2]
    show Calls Try.prog _ #[.slice (some x) n c] w fun e w' => ∃ a c, e = .returned (.tuple #[.agg #[.bool false, .int .u8 0, .int .u32 0, .int .u16 0, .int .u16 0, .int .u8 0, .int .u8 0, .bool false, .int .u64 0, .int .u64 0, .bool false, .int .u64 0, .int .u64 0, .slice a 0 c], .int .i64 20]) ∧ w'.ownsRow w.heap.size 5 1 (.slice a 0 c) 0 [] ∧ w.grownBy w' none
    clear hR2 HR
    have hnv : (V != (n : Int)) = true := by simp [hv]
    clear hv hx69
    go_enter Try.func33, Try.ntmps33
    go_upto_region 1 with fail
    have hk := own_alloc HK.out (Obj.cells #[Value.bool false, .int .u8 0, .int .u32 0, .int .u16 0, .int .u16 0, .int .u8 0, .int .u8 0, .bool false, .int .u64 0, .int .u64 0, .bool false, .int .u64 0, .int .u64 0, .slice none 0 0] 29 (0, 0))
    obtain ⟨p, hp⟩ : ∃ p, p = w.heap.size := ⟨_, rfl⟩
    rw [← hp] at hk ⊢
    clear hp
    clear HK
    have HK := Lib.hid hk
    clear hk
    generalize w.alloc (Obj.cells #[Value.bool false, .int .u8 0, .int .u32 0, .int .u16 0, .int .u16 0, .int .u8 0, .int .u8 0, .bool false, .int .u64 0, .int .u64 0, .bool false, .int .u64 0, .int .u64 0, .slice none 0 0] 29 (0, 0)) = w1 at HK ⊢
    have hr0 : Rd .u8 w1 (some x) n xs := (HB.out _ HK.out.grown).1
    have c0 := rdx_at hr0 0 (by omega)
    rw [← HX.out] at c0
    have c0' : w1.cell? x = some (.int .u8 X) := by rw [← c0]; rfl
    have hr := rd_sub hr0 2 4 c (by decide) (by omega) (by omega)
    rw [if_neg hc2] at hr
    have HRD := Lib.hid hr
    clear hr hr0
    go_wp2_with fail
    refine (value_any _ 2 _ (sec xs 2 4) w1 HRD.out (ok_sec HO.out 2 4) (by decide)).mono ?_
    rintro e w2 ⟨rfl, rfl⟩
    rw [← HV.out]
    have hwn := HWN.out
    go_wp2_with (refine wpList_put_blk rfl HK.out 29 _ _ rfl p #[.bool false, .int .u8 0, .int .u32 0, .int .u16 0, .int .u16 0, .int .u8 0, .int .u8 0, .bool false, .int .u64 0, .int .u64 0, .bool false, .int .u64 0, .int .u64 0, .slice none 0 0] rfl rfl _ _ (.here _) rfl (by kernel_rfl) (by simp [Value.oneCell']) ?_; (intro wn hkn; have HKN := Lib.hid hkn; clear hkn; clear HK; have HK := HKN; clear HKN))
    exact bodyPost_ret (results_cell_tmp_row rfl _ _ p _ _ _ _ rfl (HK.out.at (.here _)) Try.underlying29 rfl (by kernel_rfl)) rfl ⟨none, 0, rfl, own_nil_row _ _ _, HK.out.grown⟩
  by_cases hs : sumdL xs = xs
  case neg =>
    have hR2 : R = badR 22 := by
      rw [HR.out, par4, if_neg, if_pos hs]
      rw [← HX.out, ← HV.out, HL.out]
      rintro (h | h | h)
      · omega
      · exact h hx69
      · exact h hv
    rw [hR2]
    show Calls Try.prog _ #[.slice (some x) n c] w fun e w' => ∃ a c, e = .returned (.tuple #[.agg #[.bool false, .int .u8 0, .int .u32 0, .int .u16 0, .int .u16 0, .int .u8 0, .int .u8 0, .bool false, .int .u64 0, .int .u64 0, .bool false, .int .u64 0, .int .u64 0, .slice a 0 c], .int .i64 22]) ∧ w'.ownsRow w.heap.size 5 1 (.slice a 0 c) 0 [] ∧ w.grownBy w' none
    clear hR2 HR
    have hnv : (V != (n : Int)) = false := by simp [hv]
    have hse : decide (sumdL xs = xs) = false := decide_eq_false hs
    clear hv hs hx69
    go_enter Try.func33, Try.ntmps33
    go_upto_region 1 with fail
    have hk := own_alloc HK.out (Obj.cells #[Value.bool false, .int .u8 0, .int .u32 0, .int .u16 0, .int .u16 0, .int .u8 0, .int .u8 0, .bool false, .int .u64 0, .int .u64 0, .bool false, .int .u64 0, .int .u64 0, .slice none 0 0] 29 (0, 0))
    obtain ⟨p, hp⟩ : ∃ p, p = w.heap.size := ⟨_, rfl⟩
    rw [← hp] at hk ⊢
    clear hp
    clear HK
    have HK := Lib.hid hk
    clear hk
    generalize w.alloc (Obj.cells #[Value.bool false, .int .u8 0, .int .u32 0, .int .u16 0, .int .u16 0, .int .u8 0, .int .u8 0, .bool false, .int .u64 0, .int .u64 0, .bool false, .int .u64 0, .int .u64 0, .slice none 0 0] 29 (0, 0)) = w1 at HK ⊢
    have hr0 : Rd .u8 w1 (some x) n xs := (HB.out _ HK.out.grown).1
    have c0 := rdx_at hr0 0 (by omega)
    rw [← HX.out] at c0
    have c0' : w1.cell? x = some (.int .u8 X) := by rw [← c0]; rfl
    have hr := rd_sub hr0 2 4 c (by decide) (by omega) (by omega)
    rw [if_neg hc2] at hr
    have HRD := Lib.hid hr
    clear hr hr0
    go_wp2_with fail
    refine (value_any _ 2 _ (sec xs 2 4) w1 HRD.out (ok_sec HO.out 2 4) (by decide)).mono ?_
    rintro e w2 ⟨rfl, rfl⟩
    rw [← HV.out]
    have hwn := HWN.out
    go_wp2_with fail
    clear c0 c0' HRD hwn
    refine (summed_any x n c xs w2 (HB.out _ HK.out.grown).1 HO.out h20' (by omega)).mono ?_
    rintro e w3 ⟨a3, c3, rfl, ho, hg⟩
    have hk := own_back HK.out hg ho
    clear ho hg
    clear HK
    have HK := Lib.hid hk
    clear hk
    go_wp2_with fail
    refine (equal_any a3 n c3 (sumdL xs) (some x) n c xs w3 (HK.out.rdsl (.here _)) (HB.out _ HK.out.grown).1 (by omega) (by omega)).mono ?_
    rintro e w4 ⟨rfl, hg⟩
    have hk := (HK.out.grow hg).sub (List.sublist_cons_self _ _)
    clear hg
    clear HK
    have HK := Lib.hid hk
    clear hk
    rw [hse]
    clear hse
    go_wp2_with (refine wpList_put_blk rfl HK.out 29 _ _ rfl p #[.bool false, .int .u8 0, .int .u32 0, .int .u16 0, .int .u16 0, .int .u8 0, .int .u8 0, .bool false, .int .u64 0, .int .u64 0, .bool false, .int .u64 0, .int .u64 0, .slice none 0 0] rfl rfl _ _ (.here _) rfl (by kernel_rfl) (by simp [Value.oneCell']) ?_; (intro wn hkn; have HKN := Lib.hid hkn; clear hkn; clear HK; have HK := HKN; clear HKN))
    exact bodyPost_ret (results_cell_tmp_row rfl _ _ p _ _ _ _ rfl (HK.out.at (.here _)) Try.underlying29 rfl (by kernel_rfl)) rfl ⟨none, 0, rfl, own_nil_row _ _ _, HK.out.grown⟩
  have hR2 : R = ⟨0, pk4 xs, xs.drop 20⟩ := by
    rw [HR.out, par4, if_neg, if_neg (fun h => h hs)]
    rw [← HX.out, ← HV.out, HL.out]
    rintro (h | h | h)
    · omega
    · exact h hx69
    · exact h hv
  obtain ⟨b1, hb1⟩ : ∃ b, b = xs.getD 1 0 := ⟨_, rfl⟩
  obtain ⟨b8, hb8⟩ : ∃ b, b = xs.getD 8 0 := ⟨_, rfl⟩
  obtain ⟨b9, hb9⟩ : ∃ b, b = xs.getD 9 0 := ⟨_, rfl⟩
  obtain ⟨V4, hV4⟩ : ∃ b, b = beV (sec xs 4 6) := ⟨_, rfl⟩
  obtain ⟨V6, hV6⟩ : ∃ b, b = beV (sec xs 6 8) := ⟨_, rfl⟩
  obtain ⟨⟨v1, sh, sl⟩, hs1⟩ : ∃ b, b = ad4 (sec xs 12 16) := ⟨_, rfl⟩
  obtain ⟨⟨v2, dh, dl⟩, hs2⟩ : ∃ b, b = ad4 (sec xs 16 20) := ⟨_, rfl⟩
  obtain ⟨D, hD⟩ : ∃ b, b = xs.drop 20 := ⟨_, rfl⟩
  rw [hR2, pk4, ← hb1, ← hb8, ← hb9, ← hV4, ← hV6, ← hs1, ← hs2, ← hD]
  obtain rfl : v1 = false := congrArg Ad.v6 hs1
  obtain rfl : v2 = false := congrArg Ad.v6 hs2
  obtain ⟨m, hm⟩ : ∃ m, m = n - 20 := ⟨_, rfl⟩
  have hDl : D.length = m := by rw [hD, List.length_drop, HL.out, hm]
  show Calls Try.prog _ #[.slice (some x) n c] w fun e w' => ∃ a c, e = .returned (.tuple #[.agg #[.bool false, .int .u8 b1, .int .u32 0, .int .u16 V4, .int .u16 V6, .int .u8 b8, .int .u8 b9, .bool false, .int .u64 sh, .int .u64 sl, .bool false, .int .u64 dh, .int .u64 dl, .slice a D.length c], .int .i64 0]) ∧ w'.ownsRow w.heap.size 5 1 (.slice a D.length c) D.length (D.map (Value.int .u8)) ∧ w.grownBy w' none
  rw [hDl]
  have h4r : 0 ≤ V4 ∧ V4 < 65536 := by rw [hV4]; exact beV_two (length_sec _ _ _ (by rw [HL.out]; omega)) (ok_sec HO.out _ _)
  have h6r : 0 ≤ V6 ∧ V6 < 65536 := by rw [hV6]; exact beV_two (length_sec _ _ _ (by rw [HL.out]; omega)) (ok_sec HO.out _ _)
  have HB1 := Lib.hid hb1
  have HB8 := Lib.hid hb8
  have HB9 := Lib.hid hb9
  have HV4 := Lib.hid hV4
  have HV6 := Lib.hid hV6
  have HS1 := Lib.hid hs1
  have HS2 := Lib.hid hs2
  have HD := Lib.hid hD
  have HM := Lib.hid hm
  obtain ⟨y, hy⟩ : ∃ y, some y = subAt (some x) 20 c := by unfold subAt; split; exact ⟨_, rfl⟩; exact ⟨_, rfl⟩
  have HY := Lib.hid hy
  have HW4 := Lib.hid (show IntKind.u16.wrap V4 = V4 by rw [IntKind.wrap_u16]; omega)
  have HW6 := Lib.hid (show IntKind.u16.wrap V6 = V6 by rw [IntKind.wrap_u16]; omega)
  clear hb1 hb8 hb9 hV4 hV6 hs1 hs2 hD hm hDl hy hR2 HR h4r h6r
  · have hnv : (V != (n : Int)) = false := by simp [hv]
    have hse : decide (sumdL xs = xs) = true := decide_eq_true hs
    clear hv hs hx69
    go_enter Try.func33, Try.ntmps33
    go_upto_region 1 with fail
    have hk := own_alloc HK.out (Obj.cells #[Value.bool false, .int .u8 0, .int .u32 0, .int .u16 0, .int .u16 0, .int .u8 0, .int .u8 0, .bool false, .int .u64 0, .int .u64 0, .bool false, .int .u64 0, .int .u64 0, .slice none 0 0] 29 (0, 0))
    obtain ⟨p, hp⟩ : ∃ p, p = w.heap.size := ⟨_, rfl⟩
    rw [← hp] at hk ⊢
    clear hp
    clear HK
    have HK := Lib.hid hk
    clear hk
    generalize w.alloc (Obj.cells #[Value.bool false, .int .u8 0, .int .u32 0, .int .u16 0, .int .u16 0, .int .u8 0, .int .u8 0, .bool false, .int .u64 0, .int .u64 0, .bool false, .int .u64 0, .int .u64 0, .slice none 0 0] 29 (0, 0)) = w1 at HK ⊢
    have hr0 : Rd .u8 w1 (some x) n xs := (HB.out _ HK.out.grown).1
    have c0 := rdx_at hr0 0 (by omega)
    rw [← HX.out] at c0
    have c0' : w1.cell? x = some (.int .u8 X) := by rw [← c0]; rfl
    have hr := rd_sub hr0 2 4 c (by decide) (by omega) (by omega)
    rw [if_neg hc2] at hr
    have HRD := Lib.hid hr
    clear hr hr0
    go_wp2_with fail
    refine (value_any _ 2 _ (sec xs 2 4) w1 HRD.out (ok_sec HO.out 2 4) (by decide)).mono ?_
    rintro e w2 ⟨rfl, rfl⟩
    rw [← HV.out]
    have hwn := HWN.out
    go_wp2_with fail
    clear c0 c0' HRD hwn
    refine (summed_any x n c xs w2 (HB.out _ HK.out.grown).1 HO.out h20' (by omega)).mono ?_
    rintro e w3 ⟨a3, c3, rfl, ho, hg⟩
    have hk := own_back HK.out hg ho
    clear ho hg
    clear HK
    have HK := Lib.hid hk
    clear hk
    go_wp2_with fail
    refine (equal_any a3 n c3 (sumdL xs) (some x) n c xs w3 (HK.out.rdsl (.here _)) (HB.out _ HK.out.grown).1 (by omega) (by omega)).mono ?_
    rintro e w4 ⟨rfl, hg⟩
    have hk := (HK.out.grow hg).sub (List.sublist_cons_self _ _)
    clear hg
    clear HK
    have HK := Lib.hid hk
    clear hk
    rw [hse]
    clear hse
    go_upto_region 5 with fail
    have h4n : ¬ c = 4 := by omega
    have h6n : ¬ c = 6 := by omega
    have h12n : ¬ c = 12 := by omega
    have h16n : ¬ c = 16 := by omega
    have h6c : (6 : Int) ≤ c := by omega
    have h8c : (8 : Int) ≤ c := by omega
    have h16c : (16 : Int) ≤ c := by omega
    have h20c : (20 : Int) ≤ c := by omega
    have h1n : (1 : Int) < n := by omega
    have h8n : (8 : Int) < n := by omega
    have h9n : (9 : Int) < n := by omega
    clear hnv hne
    refine wp_region_sep [[.blk p (Obj.cells #[Value.bool false, .int .u8 0, .int .u32 0, .int .u16 0, .int .u16 0, .int .u8 0, .int .u8 0, .bool false, .int .u64 0, .int .u64 0, .bool false, .int .u64 0, .int .u64 0, .slice none 0 0] 29 (0, 0))]] [] [(27, [], [29])] [27, 25] 29 (by kernel_rfl) (by kernel_rfl) (w0 := w) HK.out ?_
    (try simp only [Act.put, Act.eval, List.setIfInBounds_toArray, List.set_cons_zero, List.set_cons_succ, Array.getD_eq_getD_getElem?, List.getElem?_toArray, List.getElem?_cons_succ, List.getElem?_cons_zero, Option.getD_some, Nat.reduceAdd, List.nil_append, List.cons_append, En.get])
    (repeat (first | (refine fs_skip rfl (fun f => rfl) ?_; (try simp only [Act.put, Act.eval, List.setIfInBounds_toArray, List.set_cons_zero, List.set_cons_succ, Array.getD_eq_getD_getElem?, List.getElem?_toArray, List.getElem?_cons_succ, List.getElem?_cons_zero, Option.getD_some, Nat.reduceAdd, List.nil_append, List.cons_append, En.get])) | (refine fs_move _ rfl rfl (fun f => rfl) rfl ?_ ?_; ((first | exact fun _ _ _ => rfl | exact fun f f' hcg => hcg _ (by kernel_rfl) | (intro f f' hcg; rw [hcg]; kernel_rfl) | (intro f f' hcg; rw [hcg, hcg]; (kernel_rfl; kernel_rfl)) | exact trivial)); (try simp only [Act.put, Act.eval, List.setIfInBounds_toArray, List.set_cons_zero, List.set_cons_succ, Array.getD_eq_getD_getElem?, List.getElem?_toArray, List.getElem?_cons_succ, List.getElem?_cons_zero, Option.getD_some, Nat.reduceAdd, List.nil_append, List.cons_append, En.get])) | (refine fs_assign _ rfl rfl (fun f => rfl) rfl ?_ ?_; ((first | exact fun _ _ _ => rfl | exact fun f f' hcg => hcg _ (by kernel_rfl) | (intro f f' hcg; rw [hcg]; kernel_rfl) | (intro f f' hcg; rw [hcg, hcg]; (kernel_rfl; kernel_rfl)) | exact trivial)); (try simp only [Act.put, Act.eval, List.setIfInBounds_toArray, List.set_cons_zero, List.set_cons_succ, Array.getD_eq_getD_getElem?, List.getElem?_toArray, List.getElem?_cons_succ, List.getElem?_cons_zero, Option.getD_some, Nat.reduceAdd, List.nil_append, List.cons_append, En.get])) | (fail) | (refine fs_pure rfl (fun f => rfl) rfl ?_ ?_ ?_ ?_; (rotate_left; (intro f w1; (skip); go_simp; (first | done | with_reducible rfl)); ((first | exact fun _ _ _ => rfl | exact fun f f' hcg => hcg _ (by kernel_rfl) | (intro f f' hcg; rw [hcg]; kernel_rfl) | (intro f f' hcg; rw [hcg, hcg]; (kernel_rfl; kernel_rfl)) | exact trivial)); (try simp only [Act.put, Act.eval, List.setIfInBounds_toArray, List.set_cons_zero, List.set_cons_succ, Array.getD_eq_getD_getElem?, List.getElem?_toArray, List.getElem?_cons_succ, List.getElem?_cons_zero, Option.getD_some, Nat.reduceAdd, List.nil_append, List.cons_append, En.get])))))
    refine fs_read rfl (fun f => rfl) rfl (fun _ => .int .u8 b1) ?_ (fun _ _ _ => rfl) ?_
    · intro f lof w1 Lf HF HK1
      clear HF
      have hr0 : Rd .u8 w1 (some x) n xs := (HB.out _ HK1.grown).1
      have c0 := rdx_at hr0 1 (by omega)
      rw [← HB1.out] at c0
      rw [Addr.add, if_neg (by decide)] at c0
      clear hr0 HK1
      go_simp
    (try simp only [Act.put, Act.eval, List.setIfInBounds_toArray, List.set_cons_zero, List.set_cons_succ, Array.getD_eq_getD_getElem?, List.getElem?_toArray, List.getElem?_cons_succ, List.getElem?_cons_zero, Option.getD_some, Nat.reduceAdd, List.nil_append, List.cons_append, En.get])
    (repeat (first | (refine fs_skip rfl (fun f => rfl) ?_; (try simp only [Act.put, Act.eval, List.setIfInBounds_toArray, List.set_cons_zero, List.set_cons_succ, Array.getD_eq_getD_getElem?, List.getElem?_toArray, List.getElem?_cons_succ, List.getElem?_cons_zero, Option.getD_some, Nat.reduceAdd, List.nil_append, List.cons_append, En.get])) | (refine fs_move _ rfl rfl (fun f => rfl) rfl ?_ ?_; ((first | exact fun _ _ _ => rfl | exact fun f f' hcg => hcg _ (by kernel_rfl) | (intro f f' hcg; rw [hcg]; kernel_rfl) | (intro f f' hcg; rw [hcg, hcg]; (kernel_rfl; kernel_rfl)) | exact trivial)); (try simp only [Act.put, Act.eval, List.setIfInBounds_toArray, List.set_cons_zero, List.set_cons_succ, Array.getD_eq_getD_getElem?, List.getElem?_toArray, List.getElem?_cons_succ, List.getElem?_cons_zero, Option.getD_some, Nat.reduceAdd, List.nil_append, List.cons_append, En.get])) | (refine fs_assign _ rfl rfl (fun f => rfl) rfl ?_ ?_; ((first | exact fun _ _ _ => rfl | exact fun f f' hcg => hcg _ (by kernel_rfl) | (intro f f' hcg; rw [hcg]; kernel_rfl) | (intro f f' hcg; rw [hcg, hcg]; (kernel_rfl; kernel_rfl)) | exact trivial)); (try simp only [Act.put, Act.eval, List.setIfInBounds_toArray, List.set_cons_zero, List.set_cons_succ, Array.getD_eq_getD_getElem?, List.getElem?_toArray, List.getElem?_cons_succ, List.getElem?_cons_zero, Option.getD_some, Nat.reduceAdd, List.nil_append, List.cons_append, En.get])) | (fail) | (refine fs_pure rfl (fun f => rfl) rfl ?_ ?_ ?_ ?_; (rotate_left; (intro f w1; (skip); go_simp; (first | done | with_reducible rfl)); ((first | exact fun _ _ _ => rfl | exact fun f f' hcg => hcg _ (by kernel_rfl) | (intro f f' hcg; rw [hcg]; kernel_rfl) | (intro f f' hcg; rw [hcg, hcg]; (kernel_rfl; kernel_rfl)) | exact trivial)); (try simp only [Act.put, Act.eval, List.setIfInBounds_toArray, List.set_cons_zero, List.set_cons_succ, Array.getD_eq_getD_getElem?, List.getElem?_toArray, List.getElem?_cons_succ, List.getElem?_cons_zero, Option.getD_some, Nat.reduceAdd, List.nil_append, List.cons_append, En.get])))))
    refine fs_callv rfl (fun f => rfl) rfl 38 _ _ rfl (fun args w => by simp [callFunc, Try.func38]; rfl) (fun _ => .int .u64 V4) ?_ (fun _ _ _ => rfl) ?_
    · intro f lof w1 Lf HF HK1
      simp only [List.map_toArray, List.map_cons, List.map_nil, Act.eval, Array.getD_eq_getD_getElem?, List.getElem?_toArray, List.getElem?_cons_succ, List.getElem?_cons_zero, Option.getD_some, List.append_nil]
      clear HF
      have hr := rd_sub (show Rd .u8 w1 (some x) n xs from (HB.out _ HK1.grown).1) 4 6 c (by decide) (by omega) (by omega)
      rw [if_neg h4n] at hr
      have q4 := value_any _ 2 (c - 4) (sec xs 4 6) w1 hr (ok_sec HO.out 4 6) (by decide)
      rw [← HV4.out] at q4
      exact q4.mono fun e w2 h => ⟨h.1, by rw [h.2]; exact grown_refl _ _⟩
    (try simp only [Act.put, Act.eval, List.setIfInBounds_toArray, List.set_cons_zero, List.set_cons_succ, Array.getD_eq_getD_getElem?, List.getElem?_toArray, List.getElem?_cons_succ, List.getElem?_cons_zero, Option.getD_some, Nat.reduceAdd, List.nil_append, List.cons_append, En.get])
    (repeat (first | (refine fs_skip rfl (fun f => rfl) ?_; (try simp only [Act.put, Act.eval, List.setIfInBounds_toArray, List.set_cons_zero, List.set_cons_succ, Array.getD_eq_getD_getElem?, List.getElem?_toArray, List.getElem?_cons_succ, List.getElem?_cons_zero, Option.getD_some, Nat.reduceAdd, List.nil_append, List.cons_append, En.get])) | (refine fs_move _ rfl rfl (fun f => rfl) rfl ?_ ?_; ((first | exact fun _ _ _ => rfl | exact fun f f' hcg => hcg _ (by kernel_rfl) | (intro f f' hcg; rw [hcg]; kernel_rfl) | (intro f f' hcg; rw [hcg, hcg]; (kernel_rfl; kernel_rfl)) | exact trivial)); (try simp only [Act.put, Act.eval, List.setIfInBounds_toArray, List.set_cons_zero, List.set_cons_succ, Array.getD_eq_getD_getElem?, List.getElem?_toArray, List.getElem?_cons_succ, List.getElem?_cons_zero, Option.getD_some, Nat.reduceAdd, List.nil_append, List.cons_append, En.get])) | (refine fs_assign _ rfl rfl (fun f => rfl) rfl ?_ ?_; ((first | exact fun _ _ _ => rfl | exact fun f f' hcg => hcg _ (by kernel_rfl) | (intro f f' hcg; rw [hcg]; kernel_rfl) | (intro f f' hcg; rw [hcg, hcg]; (kernel_rfl; kernel_rfl)) | exact trivial)); (try simp only [Act.put, Act.eval, List.setIfInBounds_toArray, List.set_cons_zero, List.set_cons_succ, Array.getD_eq_getD_getElem?, List.getElem?_toArray, List.getElem?_cons_succ, List.getElem?_cons_zero, Option.getD_some, Nat.reduceAdd, List.nil_append, List.cons_append, En.get])) | (fail) | (refine fs_pure rfl (fun f => rfl) rfl ?_ ?_ ?_ ?_; (rotate_left; (intro f w1; ((have hw4 := HW4.out)); go_simp; (first | done | with_reducible rfl)); ((first | exact fun _ _ _ => rfl | exact fun f f' hcg => hcg _ (by kernel_rfl) | (intro f f' hcg; rw [hcg]; kernel_rfl) | (intro f f' hcg; rw [hcg, hcg]; (kernel_rfl; kernel_rfl)) | exact trivial)); (try simp only [Act.put, Act.eval, List.setIfInBounds_toArray, List.set_cons_zero, List.set_cons_succ, Array.getD_eq_getD_getElem?, List.getElem?_toArray, List.getElem?_cons_succ, List.getElem?_cons_zero, Option.getD_some, Nat.reduceAdd, List.nil_append, List.cons_append, En.get])))))
    refine fs_callv rfl (fun f => rfl) rfl 38 _ _ rfl (fun args w => by simp [callFunc, Try.func38]; rfl) (fun _ => .int .u64 V6) ?_ (fun _ _ _ => rfl) ?_
    · intro f lof w1 Lf HF HK1
      simp only [List.map_toArray, List.map_cons, List.map_nil, Act.eval, Array.getD_eq_getD_getElem?, List.getElem?_toArray, List.getElem?_cons_succ, List.getElem?_cons_zero, Option.getD_some, List.append_nil]
      clear HF
      have hr := rd_sub (show Rd .u8 w1 (some x) n xs from (HB.out _ HK1.grown).1) 6 8 c (by decide) (by omega) (by omega)
      rw [if_neg h6n] at hr
      have q4 := value_any _ 2 (c - 6) (sec xs 6 8) w1 hr (ok_sec HO.out 6 8) (by decide)
      rw [← HV6.out] at q4
      exact q4.mono fun e w2 h => ⟨h.1, by rw [h.2]; exact grown_refl _ _⟩
    (try simp only [Act.put, Act.eval, List.setIfInBounds_toArray, List.set_cons_zero, List.set_cons_succ, Array.getD_eq_getD_getElem?, List.getElem?_toArray, List.getElem?_cons_succ, List.getElem?_cons_zero, Option.getD_some, Nat.reduceAdd, List.nil_append, List.cons_append, En.get])
    (repeat (first | (refine fs_skip rfl (fun f => rfl) ?_; (try simp only [Act.put, Act.eval, List.setIfInBounds_toArray, List.set_cons_zero, List.set_cons_succ, Array.getD_eq_getD_getElem?, List.getElem?_toArray, List.getElem?_cons_succ, List.getElem?_cons_zero, Option.getD_some, Nat.reduceAdd, List.nil_append, List.cons_append, En.get])) | (refine fs_move _ rfl rfl (fun f => rfl) rfl ?_ ?_; ((first | exact fun _ _ _ => rfl | exact fun f f' hcg => hcg _ (by kernel_rfl) | (intro f f' hcg; rw [hcg]; kernel_rfl) | (intro f f' hcg; rw [hcg, hcg]; (kernel_rfl; kernel_rfl)) | exact trivial)); (try simp only [Act.put, Act.eval, List.setIfInBounds_toArray, List.set_cons_zero, List.set_cons_succ, Array.getD_eq_getD_getElem?, List.getElem?_toArray, List.getElem?_cons_succ, List.getElem?_cons_zero, Option.getD_some, Nat.reduceAdd, List.nil_append, List.cons_append, En.get])) | (refine fs_assign _ rfl rfl (fun f => rfl) rfl ?_ ?_; ((first | exact fun _ _ _ => rfl | exact fun f f' hcg => hcg _ (by kernel_rfl) | (intro f f' hcg; rw [hcg]; kernel_rfl) | (intro f f' hcg; rw [hcg, hcg]; (kernel_rfl; kernel_rfl)) | exact trivial)); (try simp only [Act.put, Act.eval, List.setIfInBounds_toArray, List.set_cons_zero, List.set_cons_succ, Array.getD_eq_getD_getElem?, List.getElem?_toArray, List.getElem?_cons_succ, List.getElem?_cons_zero, Option.getD_some, Nat.reduceAdd, List.nil_append, List.cons_append, En.get])) | (fail) | (refine fs_pure rfl (fun f => rfl) rfl ?_ ?_ ?_ ?_; (rotate_left; (intro f w1; ((have hw6 := HW6.out)); go_simp; (first | done | with_reducible rfl)); ((first | exact fun _ _ _ => rfl | exact fun f f' hcg => hcg _ (by kernel_rfl) | (intro f f' hcg; rw [hcg]; kernel_rfl) | (intro f f' hcg; rw [hcg, hcg]; (kernel_rfl; kernel_rfl)) | exact trivial)); (try simp only [Act.put, Act.eval, List.setIfInBounds_toArray, List.set_cons_zero, List.set_cons_succ, Array.getD_eq_getD_getElem?, List.getElem?_toArray, List.getElem?_cons_succ, List.getElem?_cons_zero, Option.getD_some, Nat.reduceAdd, List.nil_append, List.cons_append, En.get])))))
    refine fs_read rfl (fun f => rfl) rfl (fun _ => .int .u8 b8) ?_ (fun _ _ _ => rfl) ?_
    · intro f lof w1 Lf HF HK1
      clear HF
      have hr0 : Rd .u8 w1 (some x) n xs := (HB.out _ HK1.grown).1
      have c0 := rdx_at hr0 8 (by omega)
      rw [← HB8.out] at c0
      rw [Addr.add, if_neg (by decide)] at c0
      clear hr0 HK1
      go_simp
    (try simp only [Act.put, Act.eval, List.setIfInBounds_toArray, List.set_cons_zero, List.set_cons_succ, Array.getD_eq_getD_getElem?, List.getElem?_toArray, List.getElem?_cons_succ, List.getElem?_cons_zero, Option.getD_some, Nat.reduceAdd, List.nil_append, List.cons_append, En.get])
    (repeat (first | (refine fs_skip rfl (fun f => rfl) ?_; (try simp only [Act.put, Act.eval, List.setIfInBounds_toArray, List.set_cons_zero, List.set_cons_succ, Array.getD_eq_getD_getElem?, List.getElem?_toArray, List.getElem?_cons_succ, List.getElem?_cons_zero, Option.getD_some, Nat.reduceAdd, List.nil_append, List.cons_append, En.get])) | (refine fs_move _ rfl rfl (fun f => rfl) rfl ?_ ?_; ((first | exact fun _ _ _ => rfl | exact fun f f' hcg => hcg _ (by kernel_rfl) | (intro f f' hcg; rw [hcg]; kernel_rfl) | (intro f f' hcg; rw [hcg, hcg]; (kernel_rfl; kernel_rfl)) | exact trivial)); (try simp only [Act.put, Act.eval, List.setIfInBounds_toArray, List.set_cons_zero, List.set_cons_succ, Array.getD_eq_getD_getElem?, List.getElem?_toArray, List.getElem?_cons_succ, List.getElem?_cons_zero, Option.getD_some, Nat.reduceAdd, List.nil_append, List.cons_append, En.get])) | (refine fs_assign _ rfl rfl (fun f => rfl) rfl ?_ ?_; ((first | exact fun _ _ _ => rfl | exact fun f f' hcg => hcg _ (by kernel_rfl) | (intro f f' hcg; rw [hcg]; kernel_rfl) | (intro f f' hcg; rw [hcg, hcg]; (kernel_rfl; kernel_rfl)) | exact trivial)); (try simp only [Act.put, Act.eval, List.setIfInBounds_toArray, List.set_cons_zero, List.set_cons_succ, Array.getD_eq_getD_getElem?, List.getElem?_toArray, List.getElem?_cons_succ, List.getElem?_cons_zero, Option.getD_some, Nat.reduceAdd, List.nil_append, List.cons_append, En.get])) | (fail) | (refine fs_pure rfl (fun f => rfl) rfl ?_ ?_ ?_ ?_; (rotate_left; (intro f w1; (skip); go_simp; (first | done | with_reducible rfl)); ((first | exact fun _ _ _ => rfl | exact fun f f' hcg => hcg _ (by kernel_rfl) | (intro f f' hcg; rw [hcg]; kernel_rfl) | (intro f f' hcg; rw [hcg, hcg]; (kernel_rfl; kernel_rfl)) | exact trivial)); (try simp only [Act.put, Act.eval, List.setIfInBounds_toArray, List.set_cons_zero, List.set_cons_succ, Array.getD_eq_getD_getElem?, List.getElem?_toArray, List.getElem?_cons_succ, List.getElem?_cons_zero, Option.getD_some, Nat.reduceAdd, List.nil_append, List.cons_append, En.get])))))
    refine fs_read rfl (fun f => rfl) rfl (fun _ => .int .u8 b9) ?_ (fun _ _ _ => rfl) ?_
    · intro f lof w1 Lf HF HK1
      clear HF
      have hr0 : Rd .u8 w1 (some x) n xs := (HB.out _ HK1.grown).1
      have c0 := rdx_at hr0 9 (by omega)
      rw [← HB9.out] at c0
      rw [Addr.add, if_neg (by decide)] at c0
      clear hr0 HK1
      go_simp
    (try simp only [Act.put, Act.eval, List.setIfInBounds_toArray, List.set_cons_zero, List.set_cons_succ, Array.getD_eq_getD_getElem?, List.getElem?_toArray, List.getElem?_cons_succ, List.getElem?_cons_zero, Option.getD_some, Nat.reduceAdd, List.nil_append, List.cons_append, En.get])
    (repeat (first | (refine fs_skip rfl (fun f => rfl) ?_; (try simp only [Act.put, Act.eval, List.setIfInBounds_toArray, List.set_cons_zero, List.set_cons_succ, Array.getD_eq_getD_getElem?, List.getElem?_toArray, List.getElem?_cons_succ, List.getElem?_cons_zero, Option.getD_some, Nat.reduceAdd, List.nil_append, List.cons_append, En.get])) | (refine fs_move _ rfl rfl (fun f => rfl) rfl ?_ ?_; ((first | exact fun _ _ _ => rfl | exact fun f f' hcg => hcg _ (by kernel_rfl) | (intro f f' hcg; rw [hcg]; kernel_rfl) | (intro f f' hcg; rw [hcg, hcg]; (kernel_rfl; kernel_rfl)) | exact trivial)); (try simp only [Act.put, Act.eval, List.setIfInBounds_toArray, List.set_cons_zero, List.set_cons_succ, Array.getD_eq_getD_getElem?, List.getElem?_toArray, List.getElem?_cons_succ, List.getElem?_cons_zero, Option.getD_some, Nat.reduceAdd, List.nil_append, List.cons_append, En.get])) | (refine fs_assign _ rfl rfl (fun f => rfl) rfl ?_ ?_; ((first | exact fun _ _ _ => rfl | exact fun f f' hcg => hcg _ (by kernel_rfl) | (intro f f' hcg; rw [hcg]; kernel_rfl) | (intro f f' hcg; rw [hcg, hcg]; (kernel_rfl; kernel_rfl)) | exact trivial)); (try simp only [Act.put, Act.eval, List.setIfInBounds_toArray, List.set_cons_zero, List.set_cons_succ, Array.getD_eq_getD_getElem?, List.getElem?_toArray, List.getElem?_cons_succ, List.getElem?_cons_zero, Option.getD_some, Nat.reduceAdd, List.nil_append, List.cons_append, En.get])) | (fail) | (refine fs_pure rfl (fun f => rfl) rfl ?_ ?_ ?_ ?_; (rotate_left; (intro f w1; (skip); go_simp; (first | done | with_reducible rfl)); ((first | exact fun _ _ _ => rfl | exact fun f f' hcg => hcg _ (by kernel_rfl) | (intro f f' hcg; rw [hcg]; kernel_rfl) | (intro f f' hcg; rw [hcg, hcg]; (kernel_rfl; kernel_rfl)) | exact trivial)); (try simp only [Act.put, Act.eval, List.setIfInBounds_toArray, List.set_cons_zero, List.set_cons_succ, Array.getD_eq_getD_getElem?, List.getElem?_toArray, List.getElem?_cons_succ, List.getElem?_cons_zero, Option.getD_some, Nat.reduceAdd, List.nil_append, List.cons_append, En.get])))))
    refine fs_callv rfl (fun f => rfl) rfl 39 _ _ rfl (fun args w => by simp [callFunc, Try.func39]; rfl) (fun _ => .agg #[.bool false, .int .u64 sh, .int .u64 sl]) ?_ (fun _ _ _ => rfl) ?_
    · intro f lof w1 Lf HF HK1
      simp only [List.map_toArray, List.map_cons, List.map_nil, Act.eval, Array.getD_eq_getD_getElem?, List.getElem?_toArray, List.getElem?_cons_succ, List.getElem?_cons_zero, Option.getD_some, List.append_nil]
      clear HF
      have hr := rd_sub (show Rd .u8 w1 (some x) n xs from (HB.out _ HK1.grown).1) 12 16 c (by decide) (by omega) (by omega)
      rw [if_neg h12n] at hr
      have q4 := read4_any _ (c - 12) (sec xs 12 16) w1 hr (ok_sec HO.out 12 16)
      rw [← HS1.out] at q4
      exact q4
    (try simp only [Act.put, Act.eval, List.setIfInBounds_toArray, List.set_cons_zero, List.set_cons_succ, Array.getD_eq_getD_getElem?, List.getElem?_toArray, List.getElem?_cons_succ, List.getElem?_cons_zero, Option.getD_some, Nat.reduceAdd, List.nil_append, List.cons_append, En.get])
    (repeat (first | (refine fs_skip rfl (fun f => rfl) ?_; (try simp only [Act.put, Act.eval, List.setIfInBounds_toArray, List.set_cons_zero, List.set_cons_succ, Array.getD_eq_getD_getElem?, List.getElem?_toArray, List.getElem?_cons_succ, List.getElem?_cons_zero, Option.getD_some, Nat.reduceAdd, List.nil_append, List.cons_append, En.get])) | (refine fs_move _ rfl rfl (fun f => rfl) rfl ?_ ?_; ((first | exact fun _ _ _ => rfl | exact fun f f' hcg => hcg _ (by kernel_rfl) | (intro f f' hcg; rw [hcg]; kernel_rfl) | (intro f f' hcg; rw [hcg, hcg]; (kernel_rfl; kernel_rfl)) | exact trivial)); (try simp only [Act.put, Act.eval, List.setIfInBounds_toArray, List.set_cons_zero, List.set_cons_succ, Array.getD_eq_getD_getElem?, List.getElem?_toArray, List.getElem?_cons_succ, List.getElem?_cons_zero, Option.getD_some, Nat.reduceAdd, List.nil_append, List.cons_append, En.get])) | (refine fs_assign _ rfl rfl (fun f => rfl) rfl ?_ ?_; ((first | exact fun _ _ _ => rfl | exact fun f f' hcg => hcg _ (by kernel_rfl) | (intro f f' hcg; rw [hcg]; kernel_rfl) | (intro f f' hcg; rw [hcg, hcg]; (kernel_rfl; kernel_rfl)) | exact trivial)); (try simp only [Act.put, Act.eval, List.setIfInBounds_toArray, List.set_cons_zero, List.set_cons_succ, Array.getD_eq_getD_getElem?, List.getElem?_toArray, List.getElem?_cons_succ, List.getElem?_cons_zero, Option.getD_some, Nat.reduceAdd, List.nil_append, List.cons_append, En.get])) | (fail) | (refine fs_pure rfl (fun f => rfl) rfl ?_ ?_ ?_ ?_; (rotate_left; (intro f w1; (skip); go_simp; (first | done | with_reducible rfl)); ((first | exact fun _ _ _ => rfl | exact fun f f' hcg => hcg _ (by kernel_rfl) | (intro f f' hcg; rw [hcg]; kernel_rfl) | (intro f f' hcg; rw [hcg, hcg]; (kernel_rfl; kernel_rfl)) | exact trivial)); (try simp only [Act.put, Act.eval, List.setIfInBounds_toArray, List.set_cons_zero, List.set_cons_succ, Array.getD_eq_getD_getElem?, List.getElem?_toArray, List.getElem?_cons_succ, List.getElem?_cons_zero, Option.getD_some, Nat.reduceAdd, List.nil_append, List.cons_append, En.get])))))
    refine fs_callv rfl (fun f => rfl) rfl 39 _ _ rfl (fun args w => by simp [callFunc, Try.func39]; rfl) (fun _ => .agg #[.bool false, .int .u64 dh, .int .u64 dl]) ?_ (fun _ _ _ => rfl) ?_
    · intro f lof w1 Lf HF HK1
      simp only [List.map_toArray, List.map_cons, List.map_nil, Act.eval, Array.getD_eq_getD_getElem?, List.getElem?_toArray, List.getElem?_cons_succ, List.getElem?_cons_zero, Option.getD_some, List.append_nil]
      clear HF
      have hr := rd_sub (show Rd .u8 w1 (some x) n xs from (HB.out _ HK1.grown).1) 16 20 c (by decide) (by omega) (by omega)
      rw [if_neg h16n] at hr
      have q4 := read4_any _ (c - 16) (sec xs 16 20) w1 hr (ok_sec HO.out 16 20)
      rw [← HS2.out] at q4
      exact q4
    (try simp only [Act.put, Act.eval, List.setIfInBounds_toArray, List.set_cons_zero, List.set_cons_succ, Array.getD_eq_getD_getElem?, List.getElem?_toArray, List.getElem?_cons_succ, List.getElem?_cons_zero, Option.getD_some, Nat.reduceAdd, List.nil_append, List.cons_append, En.get])
    refine fs_move _ rfl rfl (fun f => rfl) rfl ?_ ?_; ((first | exact fun _ _ _ => rfl | exact fun f f' hcg => hcg _ (by kernel_rfl) | (intro f f' hcg; rw [hcg]; kernel_rfl) | (intro f f' hcg; rw [hcg, hcg]; (kernel_rfl; kernel_rfl)) | exact trivial)); (try simp only [Act.put, Act.eval, List.setIfInBounds_toArray, List.set_cons_zero, List.set_cons_succ, Array.getD_eq_getD_getElem?, List.getElem?_toArray, List.getElem?_cons_succ, List.getElem?_cons_zero, Option.getD_some, Nat.reduceAdd, List.nil_append, List.cons_append, En.get])
    refine fs_pure rfl (fun f => rfl) rfl (fun _ => .slice (some y) m (c - 20)) (fun f w1 => by rw [HY.out, HM.out]; exact run_sl rfl rfl rfl rfl (run_sub_l Try.underlying27 rfl 20 20 rfl (by omega) w1)) (fun _ _ _ => rfl) ?_
    (try simp only [Act.put, Act.eval, List.setIfInBounds_toArray, List.set_cons_zero, List.set_cons_succ, Array.getD_eq_getD_getElem?, List.getElem?_toArray, List.getElem?_cons_succ, List.getElem?_cons_zero, Option.getD_some, Nat.reduceAdd, List.nil_append, List.cons_append, En.get])
    refine fs_call rfl (fun f => rfl) 34 _ _ rfl (fun args w => by simp [callFunc, Try.func34]; rfl) (.res (fun _ v it => ∃ a c, v = .slice a m c ∧ it = [.sl 5 .u8 a m c D])) ?_ (fun _ _ _ => rfl) ?_
    · intro f lof w1 Lf HF HK1
      (try simp only [itms, itm, usesOf, readsOf, takesOf, List.find?, Nat.reduceBEq, List.flatMap_cons, List.flatMap_nil, Nat.reduceLT, if_true, if_false, Nat.reduceSub, List.getD_cons_zero, List.getD_cons_succ, List.append_nil, List.cons_append, List.nil_append, List.append_nil] at HK1)
      simp only [List.map_toArray, List.map_cons, List.map_nil, Act.eval, Array.getD_eq_getD_getElem?, List.getElem?_toArray, List.getElem?_cons_succ, List.getElem?_cons_zero, Option.getD_some, List.append_nil]
      clear HF
      have hr := rd_drop' (show Rd .u8 w1 (some x) n xs from (HB.out _ HK1.grown).1) 20 (by omega) (show n ≤ c by omega)
      rw [← HY.out, ← HM.out, ← HD.out] at hr
      have q4 := clone_any y m (c - 20) D w1 hr (by rw [HM.out]; omega)
      refine q4.mono ?_
      rintro e w2 ⟨a, c, rfl, ho, hg⟩
      exact ⟨_, _, rfl, ⟨a, c, rfl, rfl⟩, own_back HK1 hg ho⟩
    (try simp only [Act.put, Act.eval, List.setIfInBounds_toArray, List.set_cons_zero, List.set_cons_succ, Array.getD_eq_getD_getElem?, List.getElem?_toArray, List.getElem?_cons_succ, List.getElem?_cons_zero, Option.getD_some, Nat.reduceAdd, List.nil_append, List.cons_append, En.get])
    refine fs_read rfl (fun f => rfl) rfl (fun f => .agg #[.bool false, .int .u8 b1, .int .u32 0, .int .u16 V4, .int .u16 V6, .int .u8 b8, .int .u8 b9, .bool false, .int .u64 sh, .int .u64 sl, .bool false, .int .u64 dh, .int .u64 dl, f 25]) ?_ (fun f f' h => by (try dsimp only); rw [h 25 (by kernel_rfl)]) ?_
    · intro f lof w1 Lf HF HK1
      obtain ⟨a, c', hv, hl⟩ := HF 25 (by kernel_rfl)
      rw [hv]
      clear HF HK1 hv hl
      go_simp; first | done | exact ⟨rfl, rfl⟩ | rfl
    (try simp only [Act.put, Act.eval, List.setIfInBounds_toArray, List.set_cons_zero, List.set_cons_succ, Array.getD_eq_getD_getElem?, List.getElem?_toArray, List.getElem?_cons_succ, List.getElem?_cons_zero, Option.getD_some, Nat.reduceAdd, List.nil_append, List.cons_append, En.get])
    refine fs_store rfl (fun f => rfl) (fun f it => it = [.blk p (.cells #[.bool false, .int .u8 b1, .int .u32 0, .int .u16 V4, .int .u16 V6, .int .u8 b8, .int .u8 b9, .bool false, .int .u64 sh, .int .u64 sl, .bool false, .int .u64 dh, .int .u64 dl, f 25] 29 (0, 0))]) rfl ?_ (fun f f' h => by (try dsimp only); rw [h 25 (by kernel_rfl)]) ?_
    · intro f lof w1 Lf HF HK1 Q' hQ
      obtain ⟨a, c', hv, hl⟩ := HF 25 (by kernel_rfl)
      clear HF
      (try simp only [itms, itm, usesOf, readsOf, takesOf, List.find?, Nat.reduceBEq, List.flatMap_cons, List.flatMap_nil, Nat.reduceLT, if_true, if_false, Nat.reduceSub, List.getD_cons_zero, List.getD_cons_succ, List.append_nil, List.cons_append, List.nil_append, List.append_nil] at HK1)
      refine wpList_put_blk rfl HK1 29 _ _ rfl p #[.bool false, .int .u8 b1, .int .u32 0, .int .u16 V4, .int .u16 V6, .int .u8 b8, .int .u8 b9, .bool false, .int .u64 sh, .int .u64 sl, .bool false, .int .u64 dh, .int .u64 dl, f 25] rfl rfl _ _ (.here _) rfl (by kernel_rfl) (by rw [hv]; simp [Value.oneCell']) ?_
      intro w' hk
      exact hQ _ ⟨_, rfl, hk⟩
    (try simp only [Act.put, Act.eval, List.setIfInBounds_toArray, List.set_cons_zero, List.set_cons_succ, Array.getD_eq_getD_getElem?, List.getElem?_toArray, List.getElem?_cons_succ, List.getElem?_cons_zero, Option.getD_some, Nat.reduceAdd, List.nil_append, List.cons_append, En.get])
    (repeat (first | (refine fs_skip rfl (fun f => rfl) ?_; (try simp only [Act.put, Act.eval, List.setIfInBounds_toArray, List.set_cons_zero, List.set_cons_succ, Array.getD_eq_getD_getElem?, List.getElem?_toArray, List.getElem?_cons_succ, List.getElem?_cons_zero, Option.getD_some, Nat.reduceAdd, List.nil_append, List.cons_append, En.get])) | (refine fs_move _ rfl rfl (fun f => rfl) rfl ?_ ?_; ((first | exact fun _ _ _ => rfl | exact fun f f' hcg => hcg _ (by kernel_rfl) | (intro f f' hcg; rw [hcg]; kernel_rfl) | (intro f f' hcg; rw [hcg, hcg]; (kernel_rfl; kernel_rfl)) | exact trivial)); (try simp only [Act.put, Act.eval, List.setIfInBounds_toArray, List.set_cons_zero, List.set_cons_succ, Array.getD_eq_getD_getElem?, List.getElem?_toArray, List.getElem?_cons_succ, List.getElem?_cons_zero, Option.getD_some, Nat.reduceAdd, List.nil_append, List.cons_append, En.get])) | (refine fs_assign _ rfl rfl (fun f => rfl) rfl ?_ ?_; ((first | exact fun _ _ _ => rfl | exact fun f f' hcg => hcg _ (by kernel_rfl) | (intro f f' hcg; rw [hcg]; kernel_rfl) | (intro f f' hcg; rw [hcg, hcg]; (kernel_rfl; kernel_rfl)) | exact trivial)); (try simp only [Act.put, Act.eval, List.setIfInBounds_toArray, List.set_cons_zero, List.set_cons_succ, Array.getD_eq_getD_getElem?, List.getElem?_toArray, List.getElem?_cons_succ, List.getElem?_cons_zero, Option.getD_some, Nat.reduceAdd, List.nil_append, List.cons_append, En.get])) | (fail) | (refine fs_pure rfl (fun f => rfl) rfl ?_ ?_ ?_ ?_; (rotate_left; (intro f w1; (skip); go_simp; (first | done | with_reducible rfl)); ((first | exact fun _ _ _ => rfl | exact fun f f' hcg => hcg _ (by kernel_rfl) | (intro f f' hcg; rw [hcg]; kernel_rfl) | (intro f f' hcg; rw [hcg, hcg]; (kernel_rfl; kernel_rfl)) | exact trivial)); (try simp only [Act.put, Act.eval, List.setIfInBounds_toArray, List.set_cons_zero, List.set_cons_succ, Array.getD_eq_getD_getElem?, List.getElem?_toArray, List.getElem?_cons_succ, List.getElem?_cons_zero, Option.getD_some, Nat.reduceAdd, List.nil_append, List.cons_append, En.get])))))
    refine fs_end ?_
    intro f lof wn HF hk
    obtain ⟨a5, c5, hv, hl⟩ := HF 25 (by decide)
    have hl27 := HF 27 (by decide)
    (try simp only [itms, itm, usesOf, readsOf, takesOf, List.find?, Nat.reduceBEq, List.flatMap_cons, List.flatMap_nil, Nat.reduceLT, if_true, if_false, Nat.reduceSub, List.getD_cons_zero, List.getD_cons_succ, List.append_nil, List.cons_append, List.nil_append, show lof 27 = _ from hl27, hl] at hk)
    rw [hv] at hk ⊢
    clear HF hv hl hl27 f lof
    clear HK
    have HK := Lib.hid hk
    clear hk
    go_wp2_with fail
    exact bodyPost_ret (results_cell_tmp_row rfl _ _ p _ _ _ _ rfl (HK.out.at (.here _)) Try.underlying29 rfl (by kernel_rfl)) rfl ⟨a5, c5, rfl, HK.out.get (.next _ (.here _)), HK.out.grown⟩
end Go.Proofs.Ytmankjhopfilaaa
