/- A packet as an argument. -/
import Derived.Test.YtmankjhopfilaaaPlL
namespace Go.Proofs.Ytmankjhopfilaaa
open Go.ChangeShapes Go.WideShapes Go.ChangeAt Go.RowKit Go.Proofs.YtmankjhopfilaaaL
set_option linter.unusedVariables false
set_option linter.unusedSimpArgs false

theorem array14 {α : Type} {cs : Array α} (h : cs.size = 14) : ∃ c0 c1 c2 c3 c4 c5 c6 c7 c8 c9 c10 c11 c12 c13, cs = #[c0, c1, c2, c3, c4, c5, c6, c7, c8, c9, c10, c11, c12, c13] := by
  obtain ⟨l⟩ := cs
  match l, h with
  | [c0, c1, c2, c3, c4, c5, c6, c7, c8, c9, c10, c11, c12, c13], _ => exact ⟨c0, c1, c2, c3, c4, c5, c6, c7, c8, c9, c10, c11, c12, c13, rfl⟩
theorem cells_u16 : Try.prog.cellsOf 23 = 1 := by kernel_rfl
theorem cells_u32 : Try.prog.cellsOf 22 = 1 := by kernel_rfl
theorem cells_u64 : Try.prog.cellsOf 24 = 1 := by kernel_rfl
theorem cells_addr : Try.prog.cellsOf 26 = 3 := by kernel_rfl
theorem cells_apk : Try.prog.cellsOf 29 = 14 := by kernel_rfl
section
variable {H : Type} {enc : TypeId × Value → H} {W : World} {r : Reach} {b0 base : Nat} {held : Bool} {v : Value} {d : DataW H} {p : List MemPlace}
theorem u16_cell {n : Nat} {c : Value} {y : DataW H × List MemPlace} (h : DataW.trod enc Try.prog W base (fun _ => true) held n 23 [c] = some y) : ∃ a, c = .int .u16 a ∧ 0 ≤ a ∧ a < 65536 := by
  obtain ⟨a, h1, -, h3⟩ := DataW.trod_int Try.underlying23 h
  simp at h1
  exact ⟨a, h1, wf_u16_range h3⟩
theorem u32_cell {n : Nat} {c : Value} {y : DataW H × List MemPlace} (h : DataW.trod enc Try.prog W base (fun _ => true) held n 22 [c] = some y) : ∃ a, c = .int .u32 a ∧ 0 ≤ a ∧ a < 4294967296 := by
  obtain ⟨a, h1, -, h3⟩ := DataW.trod_int Try.underlying22 h
  simp at h1
  exact ⟨a, h1, wf_u32_range h3⟩
theorem u64_cell {n : Nat} {c : Value} {y : DataW H × List MemPlace} (h : DataW.trod enc Try.prog W base (fun _ => true) held n 24 [c] = some y) : ∃ a, c = .int .u64 a ∧ 0 ≤ a ∧ a < 18446744073709551616 := by
  obtain ⟨a, h1, -, h3⟩ := DataW.trod_int Try.underlying24 h
  simp at h1
  exact ⟨a, h1, wf_u64_range h3⟩
theorem addr_cells {n : Nat} {c0 c1 c2 : Value} {y : DataW H × List MemPlace} (h : DataW.trod enc Try.prog W base (fun _ => true) held n 26 [c0, c1, c2] = some y) : ∃ A : Ad, c0 = .bool A.v6 ∧ c1 = .int .u64 A.hi ∧ c2 = .int .u64 A.lo ∧ A.ok := by
  obtain ⟨xs, n, -, -, -, hl, hx⟩ := DataW.trod_struct Try.underlying26 h
  have get (i : Nat) (hi : i < 3) : ∃ y, xs[i]? = some y := ⟨xs[i]'(by rw [hl]; exact hi), List.getElem?_eq_getElem _⟩
  obtain ⟨y0, e0⟩ := get 0 (by decide)
  obtain ⟨y1, e1⟩ := get 1 (by decide)
  obtain ⟨y2, e2⟩ := get 2 (by decide)
  have h0 := hx 0 _ rfl
  have h1 := hx 1 _ rfl
  have h2 := hx 2 _ rfl
  rw [e0] at h0
  rw [e1] at h1
  rw [e2] at h2
  simp only [List.getElem_toArray, List.getElem_cons_zero, List.getElem_cons_succ, cells_bool, cells_u64, List.drop_succ_cons, List.drop_zero, List.take_succ_cons, List.take_zero] at h0 h1 h2
  obtain ⟨v6, rfl⟩ := bool_cell h0
  obtain ⟨hi, rfl, r1⟩ := u64_cell h1
  obtain ⟨lo, rfl, r2⟩ := u64_cell h2
  exact ⟨⟨v6, hi, lo⟩, rfl, rfl, rfl, ⟨r1.1, r1.2, r2.1, r2.2⟩⟩
theorem open_apk (hv : Value.okWide Try.prog W r b0 29 v) (h : DataW.Trod enc Try.prog W base (fun _ => true) held 29 v d p) :
    ∃ (q : Pk) (a : Option Addr) (len cap : Nat) (zs : List Int), v = q.val (.slice a len cap) ∧ q.ok ∧ IsRow .u8 W a len cap zs := by
  obtain ⟨cs, rfl, hsz⟩ := okWide_struct Try.underlying29 hv
  obtain ⟨c0, c1, c2, c3, c4, c5, c6, c7, c8, c9, c10, c11, c12, c13, rfl⟩ := array14 (hsz.trans cells_apk)
  obtain ⟨fuel, hf⟩ := h
  obtain ⟨xs, n, -, -, -, hl, hx⟩ := DataW.trod_struct Try.underlying29 hf
  have get (i : Nat) (hi : i < 10) : ∃ y, xs[i]? = some y := ⟨xs[i]'(by rw [hl]; exact hi), List.getElem?_eq_getElem _⟩
  obtain ⟨y0, e0⟩ := get 0 (by decide)
  obtain ⟨y1, e1⟩ := get 1 (by decide)
  obtain ⟨y2, e2⟩ := get 2 (by decide)
  obtain ⟨y3, e3⟩ := get 3 (by decide)
  obtain ⟨y4, e4⟩ := get 4 (by decide)
  obtain ⟨y5, e5⟩ := get 5 (by decide)
  obtain ⟨y6, e6⟩ := get 6 (by decide)
  obtain ⟨y7, e7⟩ := get 7 (by decide)
  obtain ⟨y8, e8⟩ := get 8 (by decide)
  obtain ⟨y9, e9⟩ := get 9 (by decide)
  have h0 := hx 0 _ rfl
  have h1 := hx 1 _ rfl
  have h2 := hx 2 _ rfl
  have h3 := hx 3 _ rfl
  have h4 := hx 4 _ rfl
  have h5 := hx 5 _ rfl
  have h6 := hx 6 _ rfl
  have h7 := hx 7 _ rfl
  have h8 := hx 8 _ rfl
  have h9 := hx 9 _ rfl
  rw [e0] at h0
  rw [e1] at h1
  rw [e2] at h2
  rw [e3] at h3
  rw [e4] at h4
  rw [e5] at h5
  rw [e6] at h6
  rw [e7] at h7
  rw [e8] at h8
  rw [e9] at h9
  simp only [List.getElem_toArray, List.getElem_cons_zero, List.getElem_cons_succ, Value.cells, cells_bool, cells_u8, cells_u16, cells_u32, cells_addr, cells_sl, List.drop_succ_cons, List.drop_zero, List.take_succ_cons, List.take_zero] at h0 h1 h2 h3 h4 h5 h6 h7 h8 h9
  obtain ⟨v6, rfl⟩ := bool_cell h0
  obtain ⟨cls, rfl, r1⟩ := u8_cell h1
  obtain ⟨flow, rfl, r2⟩ := u32_cell h2
  obtain ⟨id, rfl, r3⟩ := u16_cell h3
  obtain ⟨frag, rfl, r4⟩ := u16_cell h4
  obtain ⟨ttl, rfl, r5⟩ := u8_cell h5
  obtain ⟨proto, rfl, r6⟩ := u8_cell h6
  obtain ⟨S, rfl, rfl, rfl, r7⟩ := addr_cells h7
  obtain ⟨D, rfl, rfl, rfl, r8⟩ := addr_cells h8
  obtain ⟨a, len, cap, zs, rfl, r9⟩ := sl_cell h9
  exact ⟨⟨v6, cls, flow, id, frag, ttl, proto, S, D⟩, a, len, cap, zs, rfl, ⟨r1, r2, r3, r4, r5, r6, r7, r8⟩, r9⟩
end
end Go.Proofs.Ytmankjhopfilaaa
