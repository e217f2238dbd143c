/- Rows of integers of one kind: read, written. -/
import Derived.Test.YtmankjhopfilaaaSub
import Derived.Test.YtmankjhopfilaaaNum
namespace Go.Proofs.YtmankjhopfilaaaL
set_option linter.unusedVariables false
set_option linter.unusedSimpArgs false
theorem size_encK (k : IntKind) (s : List Int) : (encK k s).size = s.length := by simp [encK]
theorem one_encK (k : IntKind) (s : List Int) : (encK k s).all (·.oneCell') = true := by
  rw [Array.all_eq_true']
  intro v hv
  simp only [encK, List.mem_toArray] at hv
  obtain ⟨x, -, rfl⟩ := List.mem_map.1 hv
  rfl
theorem rowK_at {k : IntKind} {w : World} {b T : Nat} {s : List Int} (h : w.heap[b]? = some (.cells (encK k s) T (0, 0))) (i : Nat) (hi : i < s.length) : w.cell? ⟨b, i, none⟩ = some (.int k (s.getD i 0)) :=
  row_cell h i _ (by simp [encK, hi])
theorem rowK_set {k : IntKind} {w' : World} {b T : Nat} {s : List Int} {i : Nat} {x : Int} (h : w'.heap[b]? = some (.cells ((encK k s).setIfInBounds i (.int k x)) T (0, 0))) : w'.heap[b]? = some (.cells (encK k (s.set i x)) T (0, 0)) := by
  rw [h]
  simp [encK, List.map_set]
/-- Digits laid one behind another into a row of noughts. -/
theorem set_next (f : Nat → Int) (k n : Nat) (h : k < n) : ((List.range k).map f ++ List.replicate (n - k) 0).set k (f k) = (List.range (k + 1)).map f ++ List.replicate (n - (k + 1)) 0 := by
  rw [List.set_append_right _ _ (by simp), show n - k = (n - (k + 1)) + 1 by omega, List.replicate_succ]
  simp [List.range_succ]
theorem digB_set (B : Int) (hB : 0 < B) (k n : Nat) (v : Int) (h : k < n) : (digB B k v ++ List.replicate (n - k) 0).set k (v / B ^ k % B) = digB B (k + 1) v ++ List.replicate (n - (k + 1)) 0 := by
  rw [digB_next B hB, List.set_append_right _ _ (by rw [length_digB]; omega), length_digB, show n - k = (n - (k + 1)) + 1 by omega, List.replicate_succ]
  simp
/-! 'x[i]' of an array by value. -/
theorem run_index_ints {P : Program} {t e n : Nat} {k : IntKind} (hu : P.underlying t = some (.array n e)) (he : P.underlying e = some (.int k)) (hs : (P.info? e).map (·.size) = some 1) (xs : List Int) (hl : xs.length = n) (I : Int) (i : Nat) (hI : I = i) (hi : i < n) (w : World) :
    (Instr.index t (.agg (encK k xs)) (.int .i64 I)).run P w = .ok (.int k (xs.getD i 0)) w := by
  subst hI
  have h1 : (i : Int) < n := by omega
  have hc : (encK k xs)[i]? = some (.int k (xs.getD i 0)) := by simp [encK, hl, hi, List.getElem?_eq_getElem (show i < xs.length by omega)]
  have ha : (isAgg e).run P w = .ok false w := by simp [isAgg, run_underlying he]
  have hp : (part e (encK k xs) i).run P w = .ok (.int k (xs.getD i 0)) w := by
    unfold part
    rw [Sem.run_bind, ha]
    simp only [Result.andThen_ok, Bool.false_eq_true, if_false, hc, Sem.run_pure]
  unfold Instr.index
  simp only [asIntOf, Sem.run_bind, Sem.run_pure, Result.andThen_ok, run_underlying hu, h1, Int.natCast_nonneg, and_self, if_true, sizeOf_one hs, Int.toNat_natCast, Nat.mul_one, hp]
section
variable {P : Program} {ops : Array Oper} {Q : Exit → Act → World → Prop} {fs : List Fl} {n0 : Nat} {j : Nat} {r : List (Nat × Nat)} {a : Act} {w : World} {o : Oper} {rest : List Oper}
theorem wpList_when (hw : Region.wanted o (yielded ops a.tmps) = true) (h : ∀ K : Act → World → Prop, (∀ a w, wpList P ops Q rest a w → K a w) → o.wp P a w K Q) : wpList P ops Q (o :: rest) a w :=
  wpList_step fun K hK => by rw [if_pos hw]; exact h K hK
/-- Arrays of numbers held against one another. -/
theorem wpList_eql (hw : Region.wanted o (yielded ops a.tmps) = true) (t : TypeId) (x y : Operand) (t' : TypeId) (hop : o.op = .binOp .eql t x y t')
    (n : Nat) (e : TypeId) (k : IntKind) (hu : P.underlying t = some (.array n e)) (he : P.underlying e = some (.int k)) (hs : (P.info? e).map (·.size) = some 1) (hg : P.eqGuardType P.depth t = false)
    (xs ys : List Int) (hx : a.eval x = .agg (encK k xs)) (hy : a.eval y = .agg (encK k ys)) (hlx : xs.length = n) (hly : ys.length = n) (b : Bool) (hb : (xs == ys) = b)
    (h : wpList P ops Q rest (a.put o.dst (.bool b)) w) : wpList P ops Q (o :: rest) a w :=
  wpList_when hw fun _ hK => by
    unfold Oper.wp execOp
    simp only [hop, hx, hy, Sem.run_bind, Sem.run_pure, run_eqGuard_agg w _ t x y _ _ hg, Result.andThen_ok, run_eql_ints hu he hs xs ys hlx hly, hb]
    exact hK _ _ h
theorem wpList_index_ints' (hw : Region.wanted o (yielded ops a.tmps) = true) (t : TypeId) (x y : Operand) (ho : o.op = .index t x y) (n e : Nat) (k : IntKind) (hu : P.underlying t = some (.array n e)) (he : P.underlying e = some (.int k)) (hs : (P.info? e).map (·.size) = some 1)
    (xs : List Int) (hx : a.eval x = .agg (encK k xs)) (hl : xs.length = n) (I : Int) (i : Nat) (hy : a.eval y = .int .i64 I) (hI : I = i) (hi : i < n)
    (h : wpList P ops Q rest (a.put o.dst (.int k (xs.getD i 0))) w) : wpList P ops Q (o :: rest) a w :=
  wpList_when hw fun _ hK => by
    unfold Oper.wp execOp
    simp only [ho, hx, hy, run_index_ints hu he hs xs hl I i hI hi, Sem.run_bind, Sem.run_pure, Result.andThen_ok]
    exact hK _ _ h
/-- An arm that stops the walk at the operation that yields into this temporary, and gives the world a name. -/
theorem wpList_stop (d : Tmp) (hd : o.dst = some d) (h : ∀ w', w' = w → wpList P ops Q (o :: rest) a w') : wpList P ops Q (o :: rest) a w := h w rfl
theorem gSeq_name {l : List (Nat × Nat)} (h : ∀ w', w' = w → gSeq P ops Q fs n0 l a w') : gSeq P ops Q fs n0 l a w := h w rfl
theorem wpList_index_ints (hgd : o.guard = none) (t : TypeId) (x y : Operand) (ho : o.op = .index t x y) (n e : Nat) (k : IntKind) (hu : P.underlying t = some (.array n e)) (he : P.underlying e = some (.int k)) (hs : (P.info? e).map (·.size) = some 1)
    (xs : List Int) (hx : a.eval x = .agg (encK k xs)) (hl : xs.length = n) (I : Int) (i : Nat) (hy : a.eval y = .int .i64 I) (hI : I = i) (hi : i < n)
    (h : wpList P ops Q rest (a.put o.dst (.int k (xs.getD i 0))) w) : wpList P ops Q (o :: rest) a w :=
  wpList_plain hgd fun _ hK => by
    unfold Oper.wp execOp
    simp only [ho, hx, hy, run_index_ints hu he hs xs hl I i hI hi, Sem.run_bind, Sem.run_pure, Result.andThen_ok]
    exact hK _ _ h
theorem gSeq_index_ints (ho : nthO ops.toList j = some o) (hw : Region.wanted o (yielded ops a.tmps) = true) (t : TypeId) (x y : Operand) (hop : o.op = .index t x y) (n e : Nat) (k : IntKind) (hu : P.underlying t = some (.array n e)) (he : P.underlying e = some (.int k)) (hs : (P.info? e).map (·.size) = some 1)
    (xs : List Int) (hx : a.eval x = .agg (encK k xs)) (hl : xs.length = n) (I : Int) (i : Nat) (hy : a.eval y = .int .i64 I) (hI : I = i) (hi : i < n)
    (h : gSeq P ops Q fs n0 r (a.put o.dst (.int k (xs.getD i 0))) w) : gSeq P ops Q fs n0 ((2, j) :: r) a w :=
  gSeq_pure ho hw _ (fun w' => by
    unfold execOp
    simp only [hop, hx, hy, run_index_ints hu he hs xs hl I i hI hi, Sem.run_bind, Sem.run_pure, Result.andThen_ok]) h
end
theorem rd_row {k : IntKind} {w : World} {b T : Nat} {s : List Int} (h : w.heap[b]? = some (.cells (encK k s) T (0, 0))) : Rd k w (some ⟨b, 0, none⟩) s.length s :=
  ⟨rfl, fun i hi => ⟨_, rfl, by rw [Addr.add_mid, Nat.zero_add]; exact rowK_at h i hi⟩⟩
theorem row_keep {w w' : World} {b : Nat} {o : Obj} (h : w.heap[b]? = some o) (g : w.grownBy w' none) : w'.heap[b]? = some o := (g.block _ (row_lt h) (by simp)).trans h
theorem isRow_rd {w : World} {a : Option Addr} {len cap : Nat} {zs : List Int} (h : IsRow .u8 w a len cap zs) : Rd .u8 w a len (zs.take len) ∧ okB 256 (zs.take len) ∧ len ≤ cap ∧ cap ≤ 9223372036854775807 := by
  rcases h with ⟨rfl, rfl, rfl, rfl⟩ | ⟨x, rfl, hl, hm, hz, hc, hw⟩
  · exact ⟨⟨rfl, fun i hi => by omega⟩, (fun x hx => by cases hx), Nat.le_refl _, by omega⟩
  · refine ⟨⟨by rw [List.length_take]; omega, fun i hi => ⟨x, rfl, ?_⟩⟩, fun y hy => wf_u8_range (hw y (List.mem_of_mem_take hy)), hl, by unfold maxLen at hm; omega⟩
    rw [hc i (by omega), List.getD_eq_getElem?_getD, List.getD_eq_getElem?_getD, List.getElem?_take_of_lt hi]
theorem grown_weak {w w' : World} {r : Option Nat} (g : w.grownBy w' none) : w.grownBy w' r := ⟨g.os, g.tape, g.output, g.size, fun j h _ => g.block j h (by simp)⟩
theorem rd_row_from {k : IntKind} {w : World} {b T : Nat} {s : List Int} (h : w.heap[b]? = some (.cells (encK k s) T (0, 0))) (n : Nat) (hn : n ≤ s.length) {m : Nat} (hm : s.length - n = m) : Rd k w (some ⟨b, 0 + n, none⟩) m (s.drop n) :=
  ⟨by rw [List.length_drop, hm], fun i hi => ⟨_, rfl, by
    rw [Addr.add_mid, Nat.zero_add, rowK_at h (n + i) (by omega), List.getD_eq_getElem?_getD, List.getD_eq_getElem?_getD, List.getElem?_drop]⟩⟩
theorem rd_sub0 {k : IntKind} {w : World} {ad : Option Addr} {len cap : Nat} {xs : List Int} (h : Rd k w ad len xs) (n : Nat) (hn : n ≤ len) (hc : len ≤ cap) : Rd k w (subAt ad 0 cap) n (xs.take n) := by
  have := rd_sub' (cap := cap) h 0 n (by omega) hn (by omega)
  simpa using this
theorem set_one (xs : List Int) (n m : Nat) (y : Int) (h : xs.length = n) (hm : n < m) : (xs ++ List.replicate (m - n) 0).set n y = xs ++ [y] ++ List.replicate (m - (n + 1)) 0 := by
  rw [List.set_append_right _ _ (by omega), h, Nat.sub_self, show m - n = (m - (n + 1)) + 1 by omega, List.replicate_succ, List.set_cons_zero, List.append_assoc]; rfl
end Go.Proofs.YtmankjhopfilaaaL
