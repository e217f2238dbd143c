/- A seat's packet as an argument; its bytes. -/
import Derived.Test.YtmankjhopfilaaaPlD
import Derived.Test.YtmankjhopfilaaaOpen
import Derived.Deep.Matrix
import Derived.WalkKit
import Derived.ProofKit
import Derived.OpenShut
import Derived.ShutString
import Derived.ChangeOld
import Derived.Below
import Derived.SizedLaws
namespace Go.Proofs.Ytmankjhopfilaaa
open Go.ChangeShapes Go.WideShapes Go.ChangeAt Go.RowKit Go.Proofs.YtmankjhopfilaaaL
set_option linter.unusedVariables false
set_option linter.unusedSimpArgs false

theorem array8 {α : Type} {cs : Array α} (h : cs.size = 8) : ∃ c0 c1 c2 c3 c4 c5 c6 c7, cs = #[c0, c1, c2, c3, c4, c5, c6, c7] := by
  obtain ⟨l⟩ := cs
  match l, h with
  | [c0, c1, c2, c3, c4, c5, c6, c7], _ => exact ⟨c0, c1, c2, c3, c4, c5, c6, c7, rfl⟩
theorem cells_bool : Try.prog.cellsOf 4 = 1 := by kernel_rfl
theorem cells_u8 : Try.prog.cellsOf 5 = 1 := by kernel_rfl
theorem cells_sl : Try.prog.cellsOf 27 = 1 := by kernel_rfl
theorem cells_pack : Try.prog.cellsOf 31 = 8 := by kernel_rfl
section
variable {H : Type} {enc : TypeId × Value → H} {W : World} {r : Reach} {b0 base : Nat} {held : Bool} {v : Value} {d : DataW H} {p : List MemPlace}
theorem sl_cell {n : Nat} {c : Value} {y : DataW H × List MemPlace} (h : DataW.trod enc Try.prog W base (fun _ => true) held n 27 [c] = some y) : ∃ a len cap zs, c = .slice a len cap ∧ IsRow .u8 W a len cap zs := by
  rcases open_ints Try.underlying27 Try.underlying5 (by kernel_rfl) h with ⟨hcs, _⟩ | ⟨x, l, c, zs, hcs, _, hl, hm, hz, _, hcell, hwz⟩
  · simp at hcs
    exact ⟨none, 0, 0, [], hcs, .inl ⟨rfl, rfl, rfl, rfl⟩⟩
  · simp at hcs
    exact ⟨some x, l, c, zs, hcs, .inr ⟨_, rfl, hl, hm, by simpa using hz, hcell, hwz⟩⟩
theorem u8_cell {n : Nat} {c : Value} {y : DataW H × List MemPlace} (h : DataW.trod enc Try.prog W base (fun _ => true) held n 5 [c] = some y) : ∃ a, c = .int .u8 a ∧ 0 ≤ a ∧ a < 256 := by
  obtain ⟨a, h1, -, h3⟩ := DataW.trod_int Try.underlying5 h
  simp at h1
  exact ⟨a, h1, wf_u8_range h3⟩
theorem bool_cell {n : Nat} {c : Value} {y : DataW H × List MemPlace} (h : DataW.trod enc Try.prog W base (fun _ => true) held n 4 [c] = some y) : ∃ a, c = .bool a := by
  obtain ⟨a, h1, -⟩ := DataW.trod_bool Try.underlying4 h
  simp at h1
  exact ⟨a, h1⟩
theorem open_pack (hv : Value.okWide Try.prog W r b0 31 v) (h : DataW.Trod enc Try.prog W base (fun _ => true) held 31 v d p) :
    ∃ (x : Sp) (a : Option Addr) (len cap : Nat) (zs : List Int), v = x.val (.slice a len cap) ∧ x.ok ∧ IsRow .u8 W a len cap zs := by
  obtain ⟨cs, rfl, hsz⟩ := okWide_struct Try.underlying31 hv
  obtain ⟨c0, c1, c2, c3, c4, c5, c6, c7, rfl⟩ := array8 (hsz.trans cells_pack)
  obtain ⟨fuel, hf⟩ := h
  obtain ⟨xs, n, -, -, -, hl, hx⟩ := DataW.trod_struct Try.underlying31 hf
  have get (i : Nat) (hi : i < 8) : ∃ y, xs[i]? = some y := ⟨xs[i]'(by rw [hl]; exact hi), List.getElem?_eq_getElem _⟩
  obtain ⟨y0, e0⟩ := get 0 (by decide)
  obtain ⟨y1, e1⟩ := get 1 (by decide)
  obtain ⟨y2, e2⟩ := get 2 (by decide)
  obtain ⟨y3, e3⟩ := get 3 (by decide)
  obtain ⟨y4, e4⟩ := get 4 (by decide)
  obtain ⟨y5, e5⟩ := get 5 (by decide)
  obtain ⟨y6, e6⟩ := get 6 (by decide)
  obtain ⟨y7, e7⟩ := get 7 (by decide)
  have h0 := hx 0 _ rfl
  have h1 := hx 1 _ rfl
  have h2 := hx 2 _ rfl
  have h3 := hx 3 _ rfl
  have h4 := hx 4 _ rfl
  have h5 := hx 5 _ rfl
  have h6 := hx 6 _ rfl
  have h7 := hx 7 _ rfl
  rw [e0] at h0
  rw [e1] at h1
  rw [e2] at h2
  rw [e3] at h3
  rw [e4] at h4
  rw [e5] at h5
  rw [e6] at h6
  rw [e7] at h7
  simp only [Value.cells, cells_bool, cells_u8, cells_sl, List.drop_succ_cons, List.drop_zero, List.take_succ_cons, List.take_zero] at h0 h1 h2 h3 h4 h5 h6 h7
  obtain ⟨v6, rfl⟩ := bool_cell h0
  obtain ⟨s, rfl, r1⟩ := u8_cell h1
  obtain ⟨dd, rfl, r2⟩ := u8_cell h2
  obtain ⟨e, rfl, r3⟩ := u8_cell h3
  obtain ⟨f, rfl, r4⟩ := u8_cell h4
  obtain ⟨ttl, rfl, r5⟩ := u8_cell h5
  obtain ⟨proto, rfl, r6⟩ := u8_cell h6
  obtain ⟨a, len, cap, zs, rfl, r7⟩ := sl_cell h7
  exact ⟨⟨v6, s, dd, e, f, ttl, proto⟩, a, len, cap, zs, rfl, ⟨r1, r2, r3, r4, r5, r6⟩, r7⟩
end

set_option maxHeartbeats 8000000 in
set_option maxRecDepth 100000 in
theorem bytes_any (x : Sp) (b : Bs) (w : World) (hx : x.ok) (hb : b.ok w) :
    Calls Try.prog 18 #[x.val b.val] w fun e w' => ∃ a m c, e = .returned (.slice a m c) ∧ w'.ownsRow w.heap.size 5 1 (.slice a m c) m ((putL x.pk b.xs).map (Value.int .u8)) ∧ w.grownBy w' none := by
  have HB := Lib.hid (fun (w' : World) (g : w.grownBy w' none) => Bs.ok_keep hb g)
  have HX := Lib.hid hx
  obtain ⟨ad, n, cp, xs⟩ := b
  clear hb hx
  have HSP := Lib.hid (fun w => sp_any x ad n cp w HX.out)
  have HPT := Lib.hid (fun (w' : World) (g : w.grownBy w' none) => rput_any x.pk ⟨ad, n, cp, xs⟩ w' (sp_ok HX.out).1 (HB.out w' g))
  obtain ⟨E, hE⟩ : ∃ E, E = putE x.pk (⟨ad, n, cp, xs⟩ : Bs).len := ⟨_, rfl⟩
  obtain ⟨Y, hY⟩ : ∃ Y, Y = putL x.pk (⟨ad, n, cp, xs⟩ : Bs).xs := ⟨_, rfl⟩
  obtain ⟨V, hV⟩ : ∃ V, V = x.pk.val (.slice ad n cp) := ⟨_, rfl⟩
  rw [← hE, ← hY] at HPT
  rw [← hY]
  rw [show x.pk.val (⟨ad, n, cp, xs⟩ : Bs).val = V from hV.symm] at HPT
  rw [← hV] at HSP
  clear hE hY hV
  obtain ⟨v6, s, d, e, f, ttl, proto⟩ := x
  have HK := Lib.hid (own_start w)
  show Calls Try.prog _ #[.agg #[.bool v6, .int .u8 s, .int .u8 d, .int .u8 e, .int .u8 f, .int .u8 ttl, .int .u8 proto, .slice ad n cp]] w fun e w' => ∃ a m c, e = .returned (.slice a m c) ∧ w'.ownsRow w.heap.size 5 1 (.slice a m c) m (Y.map (Value.int .u8)) ∧ w.grownBy w' none
  go_enter Try.func18, Try.ntmps18
  go_wp2_with fail
  have hk := own_alloc HK.out (Obj.cells #[Value.bool v6, .int .u8 s, .int .u8 d, .int .u8 e, .int .u8 f, .int .u8 ttl, .int .u8 proto, .slice ad n cp] 31 (0, 0))
  clear HK
  have HK := Lib.hid hk
  clear hk
  refine (HSP.out _).mono ?_
  rintro e w2 ⟨rfl, hg⟩
  have hk := HK.out.grow hg
  clear hg HSP
  clear HK
  have HK := Lib.hid hk
  clear hk
  go_wp2_with fail
  refine (HPT.out _ HK.out.grown).mono ?_
  rintro e w3 ⟨a, m, c, rfl, ho, hg⟩
  have hk := own_back HK.out hg ho
  clear ho hg HPT
  clear HK
  have HK := Lib.hid hk
  clear hk
  go_wp2_with fail
  exact bodyPost_ret (results_tmp rfl _ _ _) rfl ⟨_, _, _, rfl, HK.out.get (.here _), HK.out.grown⟩
end Go.Proofs.Ytmankjhopfilaaa
