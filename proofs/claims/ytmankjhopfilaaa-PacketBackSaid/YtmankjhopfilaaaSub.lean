/- A part of a slice, of an array in memory: what it reads. -/
import Derived.Test.YtmankjhopfilaaaGrow
import Derived.DataElems
namespace Go.Proofs.YtmankjhopfilaaaL
set_option linter.unusedVariables false
set_option linter.unusedSimpArgs false
/-- The slice at 'ad', of length 'len', reads these integers. -/
def Rd (k : IntKind) (w : World) (ad : Option Addr) (len : Nat) (xs : List Int) : Prop := xs.length = len ∧ ∀ i, i < len → ∃ x, ad = some x ∧ w.cell? (x.add i) = some (.int k (xs.getD i 0))
theorem Rd.kept {k : IntKind} {w w' : World} {ad : Option Addr} {len : Nat} {xs : List Int} (h : Rd k w ad len xs) (g : w.grownBy w' none) : Rd k w' ad len xs :=
  ⟨h.1, fun i hi => let ⟨x, hx, hc⟩ := h.2 i hi; ⟨x, hx, g.cell hc (by simp)⟩⟩
theorem rd_sub {k : IntKind} {w : World} {ad : Option Addr} {len : Nat} {xs : List Int} (h : Rd k w ad len xs) (l h' m : Nat) (hl : l ≤ h') (hh : h' ≤ len) (hm : h' ≤ m) : Rd k w (if m = l then ad else ad.map (·.add (l * 1))) (h' - l) ((xs.take h').drop l) := by
  obtain ⟨h1, h2⟩ := h
  refine ⟨by rw [List.length_drop, List.length_take]; omega, fun i hi => ?_⟩
  obtain ⟨x, rfl, hc⟩ := h2 (l + i) (by omega)
  have hne : m ≠ l := by omega
  refine ⟨x.add (l * 1), by simp [hne], ?_⟩
  rw [Addr.add_add, Nat.mul_one, hc]
  simp [List.getD_eq_getElem?_getD, List.getElem?_drop, List.getElem?_take_of_lt (show l + i < h' by omega)]
theorem rd_drop {k : IntKind} {w : World} {ad : Option Addr} {len : Nat} {xs : List Int} (h : Rd k w ad len xs) (l m : Nat) (hl : l ≤ len) (hm : len ≤ m) : Rd k w (if m = l then ad else ad.map (·.add (l * 1))) (len - l) (xs.drop l) := by
  have := rd_sub h l len m hl (Nat.le_refl _) hm
  rwa [List.take_of_length_le (by rw [h.1]; exact Nat.le_refl _)] at this
/-- Where the part from l on begins. -/
def subAt (ad : Option Addr) (l m : Nat) : Option Addr := if m = l then ad else ad.map (·.add (l * 1))
section
variable {P : Program} {t e : TypeId} {ad : Option Addr} {len cap : Nat}
theorem run_sub_l (hu : P.underlying t = some (.slice e)) (hs : (P.info? e).map (·.size) = some 1) (L : Int) (l : Nat) (hL : L = l) (hl : l ≤ len) (w : World) :
    (Instr.sliceAt t (.slice ad len cap) (some (.int .i64 L)) none none).run P w = .ok (.slice (subAt ad l cap) (len - l) (cap - l)) w := by
  have he : P.elem t = e := by simp [Program.elem, hu]
  have hu' : P.underlying t = some (.slice (P.elem t)) := by rw [he]; exact hu
  subst hL
  rw [run_sliceAt_slice w t _ _ _ _ hu', run_slice_l w t ad len cap hu' .i64 l (by omega) (by omega), he, sizeOf_one hs]
  simp [sliced, Result.andThen, subAt]
theorem run_sub_h (hu : P.underlying t = some (.slice e)) (hs : (P.info? e).map (·.size) = some 1) (H : Int) (h : Nat) (hH : H = h) (hh : h ≤ cap) (w : World) :
    (Instr.sliceAt t (.slice ad len cap) none (some (.int .i64 H)) none).run P w = .ok (.slice (subAt ad 0 cap) h cap) w := by
  have he : P.elem t = e := by simp [Program.elem, hu]
  have hu' : P.underlying t = some (.slice (P.elem t)) := by rw [he]; exact hu
  subst hH
  rw [run_sliceAt_slice w t _ _ _ _ hu', run_slice_h w t ad len cap hu' .i64 h (by omega) (by omega), he, sizeOf_one hs]
  simp [sliced, Result.andThen, subAt]
theorem run_sub_lh (hu : P.underlying t = some (.slice e)) (hs : (P.info? e).map (·.size) = some 1) (L H : Int) (l h : Nat) (hL : L = l) (hH : H = h) (hl : l ≤ h) (hh : h ≤ cap) (w : World) :
    (Instr.sliceAt t (.slice ad len cap) (some (.int .i64 L)) (some (.int .i64 H)) none).run P w = .ok (.slice (subAt ad l cap) (h - l) (cap - l)) w := by
  have he : P.elem t = e := by simp [Program.elem, hu]
  have hu' : P.underlying t = some (.slice (P.elem t)) := by rw [he]; exact hu
  subst hL hH
  rw [run_sliceAt_slice w t _ _ _ _ hu', run_slice_lh w t ad len cap hu' .i64 .i64 l h (by omega) (by omega) (by omega), he, sizeOf_one hs]
  simp [sliced, Result.andThen, subAt]
/-- 'arr[:h]' of an array in memory. -/
theorem run_arr_h (n : Nat) (hu : P.underlying t = some (.array n e)) (hs : (P.info? e).map (·.size) = some 1) (b : Nat) (H : Int) (h : Nat) (hH : H = h) (hh : h ≤ n) (w : World) :
    (Instr.sliceAt t (.pointer (some ⟨b, 0, none⟩)) none (some (.int .i64 H)) none).run P w = .ok (.slice (some ⟨b, 0, none⟩) h n) w := by
  have ha : P.arrayLen t = n := by simp [Program.arrayLen, hu]
  have he : P.elem t = e := by simp [Program.elem, hu]
  subst hH
  rw [run_sliceAt_array_h w t ⟨b, 0, none⟩ (by rw [ha, he]; exact hu) .i64 h (by omega) (by rw [ha]; omega), he, sizeOf_one hs]
  by_cases h0 : n = 0
  · simp [slicedAt, Result.andThen, ha, h0]
  · simp [slicedAt, Result.andThen, ha, h0, Addr.add_mid]
theorem rd_drop' {k : IntKind} {w : World} {xs : List Int} (h : Rd k w ad len xs) (l : Nat) (hl : l ≤ len) (hm : len ≤ cap) : Rd k w (subAt ad l cap) (len - l) (xs.drop l) := rd_drop h l cap hl hm
theorem rd_sub' {k : IntKind} {w : World} {xs : List Int} (h : Rd k w ad len xs) (l h' : Nat) (hl : l ≤ h') (hh : h' ≤ len) (hm : h' ≤ cap) : Rd k w (subAt ad l cap) (h' - l) ((xs.take h').drop l) := rd_sub h l h' cap hl hh hm
end
section
variable {P : Program} {ops : Array Oper} {Q : Exit → Act → World → Prop} {fs : List Fl} {n0 : Nat} {i : Nat} {r : List (Nat × Nat)} {a : Act} {w : World} {o : Oper}
/-- A part of a slice or an array: 'hr' is one of the laws above. -/
theorem gSeq_slice (ho : nthO ops.toList i = some o) (hw : Region.wanted o (yielded ops a.tmps) = true) (t : TypeId) (x : Operand) (lo hi : Option Operand) (hop : o.op = .slice t x lo hi none)
    (vx : Value) (hx : a.eval x = vx) (vl vh : Option Value) (hvl : lo.map a.eval = vl) (hvh : hi.map a.eval = vh) (v : Value) (hr : ∀ w, (Instr.sliceAt t vx vl vh none).run P w = .ok v w)
    (h : gSeq P ops Q fs n0 r (a.put o.dst v) w) : gSeq P ops Q fs n0 ((2, i) :: r) a w :=
  gSeq_pure ho hw v (fun w' => by
    unfold execOp
    simp only [hop, hx, hvl, hvh, Sem.run_bind, Sem.run_pure, Option.map_none, hr, Result.andThen_ok]) h
theorem wpList_slice {rest : List Oper} (hgd : o.guard = none) (t : TypeId) (x : Operand) (lo hi : Option Operand) (hop : o.op = .slice t x lo hi none)
    (vx : Value) (hx : a.eval x = vx) (vl vh : Option Value) (hvl : lo.map a.eval = vl) (hvh : hi.map a.eval = vh) (v : Value) (hr : ∀ w, (Instr.sliceAt t vx vl vh none).run P w = .ok v w)
    (h : wpList P ops Q rest (a.put o.dst v) w) : wpList P ops Q (o :: rest) a w :=
  wpList_plain hgd fun _ hK => by
    unfold Oper.wp execOp
    simp only [hop, hx, hvl, hvh, Sem.run_bind, Sem.run_pure, Option.map_none, hr, Result.andThen_ok]
    exact hK _ _ h
/-- 'make([]T, n)' in a region that draws. -/
theorem gSeq_make (ho : nthO ops.toList i = some o) (hw : Region.wanted o (yielded ops a.tmps) = true) (l c : Operand) (t : TypeId) (hop : o.op = .makeSlice t l c)
    (e : TypeId) (z : Value) (bytes : Nat) (ht : P.underlying t = some (.slice e)) (hinf : (P.info? e).map (fun i => (i.zero, i.size, i.bytes)) = some (some z, 1, bytes)) (hzs : z.cells = #[z])
    (n : Nat) (N : Int) (hl : a.eval l = .int .i64 N) (hc : a.eval c = .int .i64 N) (hN : N = n) (hb : bytes * n ≤ 281474976710656) (h63 : (n : Int) ≤ 9223372036854775807)
    (h : ∀ w', w'.heap[w.heap.size]? = some (.cells (Array.replicate n z) e (0, 0)) → w.grownBy w' none → gSeq P ops Q fs n0 r (a.put o.dst (.slice (some ⟨w.heap.size, 0, none⟩) n n)) w') : gSeq P ops Q fs n0 ((0, i) :: r) a w :=
  gSeq_do ho hw fun K hK => by
    obtain ⟨i, hi, hz, hsize, hby⟩ := info_parts hinf
    subst hN
    have hrun := run_make (P := P) w t e i z ht hi hz .i64 .i64 n n (by omega) (Int.le_refl _) (by
      rw [hby]
      obtain ⟨q, hq⟩ : ∃ q, bytes * n = q := ⟨_, rfl⟩
      have : (bytes : Int) * (n : Int) = (q : Int) := by rw [← hq]; exact (Int.natCast_mul _ _).symm
      rw [this]; omega) h63
    unfold Oper.wp execOp
    simp only [hop, hl, hc]
    simp [hrun, Result.andThen, Oper.upon]
    refine hK _ _ (World.grownBy_alloc _ _ _) (h _ ?_ (World.grownBy_alloc _ _ _))
    rw [heap_alloc_new, hzs, hsize, Nat.mul_one, madeCells_one]
/-- One cell stored. -/
theorem gSeq_store {j : Nat} (ho : nthO ops.toList j = some o) (hw : Region.wanted o (yielded ops a.tmps) = true) (ty : TypeId) (x y : Operand) (hop : o.op = .store ty x y)
    (b i : Nat) (v : Value) (hx : a.eval x = .pointer (some ⟨b, i, none⟩)) (hy : a.eval y = v)
    (T : Nat) (c : Array Value) (hr : w.heap[b]? = some (.cells c T (0, 0))) (hi : i < c.size) (hinf : (P.info? ty).map (·.size) = some 1) (hv : v.cells = #[v]) (h1 : v.oneCell' = true)
    (h : ∀ w', w'.heap[b]? = some (.cells (c.setIfInBounds i v) T (0, 0)) → w.grownBy w' (some b) → gSeq P ops Q fs n0 r (a.put o.dst undef) w') : gSeq P ops Q fs n0 ((3, j) :: r) a w :=
  gSeq_write ho hw fun K hK => by
    unfold Oper.wp execOp
    simp only [hop, hx, hy, Instr.storeAt, Instr.sureAddr, Sem.run_bind, Sem.run_pure, Result.andThen_ok, run_storeVar_one w b i ty v T c hr hi hinf hv h1]
    exact hK _ _ (h _ (row_set hr i v) (grown_setCell w b i v))
/-- A whole array (or struct) stored into a block known whole. -/
theorem gSeq_store_range {j : Nat} (ho : nthO ops.toList j = some o) (hw : Region.wanted o (yielded ops a.tmps) = true) (ty : TypeId) (x y : Operand) (hop : o.op = .store ty x y)
    (b off : Nat) (cells : Array Value) (hx : a.eval x = .pointer (some ⟨b, off, none⟩)) (hy : a.eval y = .agg cells)
    (T : Nat) (c : Array Value) (hr : w.heap[b]? = some (.cells c T (0, 0))) (hn : off + cells.size ≤ c.size) (hi : (P.info? ty).map (·.size) = some cells.size) (h1 : cells.all (·.oneCell') = true)
    (h : ∀ w', w'.heap[b]? = some (.cells (putAt c off cells.toList) T (0, 0)) → w.grownBy w' (some b) → gSeq P ops Q fs n0 r (a.put o.dst undef) w') : gSeq P ops Q fs n0 ((3, j) :: r) a w :=
  gSeq_write ho hw fun K hK => wp_store_mid ty x y hop b off cells hx hy (row_there hr _ _ hn) hi h1 (hK _ _ (h _ (row_setCells hr _ _) (grown_setCells b _ _ _)))
end
end Go.Proofs.YtmankjhopfilaaaL
