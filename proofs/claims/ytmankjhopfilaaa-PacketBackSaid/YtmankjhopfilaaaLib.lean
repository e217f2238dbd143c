/- Small laws for the walks: a row of cells that is known whole, read, written in one cell or in a range; what a step leaves of all other blocks. -/
import Derived.WalkKit
import Derived.WalkSpells
import Derived.WalkLawsBesides
import Derived.Deep.QuietTactic
import Derived.BigQuiet
import Derived.StillTailTactics
import Derived.Lib.Hide
import Derived.Deep.MidRow
import Derived.Test.YtmankjhopfilaaaTail
import Derived.Laws.AppendOwnNone
namespace Go.Proofs.YtmankjhopfilaaaL
set_option linter.unusedVariables false
set_option linter.unusedSimpArgs false
open Go.RowKit

theorem ret_bool {a b : Bool} (h : a = b) : Ending.returned (.bool a) = .returned (.bool b) := by rw [h]
theorem ret_int {k : IntKind} {a b : Int} (h : a = b) : Ending.returned (.int k a) = .returned (.int k b) := by rw [h]
theorem ret_agg {a b : Array Value} (h : a = b) : Ending.returned (.agg a) = .returned (.agg b) := by rw [h]

section rows
variable {w : World} {b T : Nat} {c : Array Value}
theorem row_cell (h : w.heap[b]? = some (.cells c T (0, 0))) (i : Nat) (v : Value) (hi : c[i]? = some v) : w.cell? ⟨b, i, none⟩ = some v := by
  simp [World.cell?, h, hi]
theorem row_free (h : w.heap[b]? = some (.cells c T (0, 0))) (i : Nat) : w.frozen? ⟨b, i, none⟩ = false := by
  simp [World.frozen?, h]
theorem row_lt {o : Obj} (h : w.heap[b]? = some o) : b < w.heap.size := by
  rcases Nat.lt_or_ge b w.heap.size with h' | h'
  · exact h'
  · simp [Array.getElem?_eq_none h'] at h
theorem row_set (h : w.heap[b]? = some (.cells c T (0, 0))) (i : Nat) (v : Value) :
    (w.setCell ⟨b, i, none⟩ v).heap[b]? = some (.cells (c.setIfInBounds i v) T (0, 0)) := by
  simp [World.setCell, Array.getElem?_modify, h]
theorem row_there (h : w.heap[b]? = some (.cells c T (0, 0))) (o n : Nat) (hn : o + n ≤ c.size) : w.there b o n := fun j hj =>
  ⟨by rw [row_cell h (o + j) _ (Array.getElem?_eq_getElem (by omega))]; rfl, row_free h _⟩
/-- The cells 'vs' laid into 'c' from place 'o' on. -/
def putAt (c : Array Value) (o : Nat) : List Value → Array Value
  | [] => c
  | v :: r => putAt (c.setIfInBounds o v) (o + 1) r
theorem row_setCells (h : w.heap[b]? = some (.cells c T (0, 0))) (o : Nat) (vs : List Value) :
    (w.setCells b o vs).heap[b]? = some (.cells (putAt c o vs) T (0, 0)) := by
  induction vs generalizing w c o with
  | nil => exact h
  | cons v r ih =>
    rw [World.setCells]
    exact ih (row_set h o v) (o + 1)
theorem putAt_mid : ∀ (vs pre c : List Value) (post : List Value), c.length = vs.length → putAt (pre ++ c ++ post).toArray pre.length vs = (pre ++ vs ++ post).toArray
  | [], pre, c, post, h => by
    have : c = [] := List.length_eq_zero_iff.1 h
    subst this; rfl
  | v :: r, pre, c, post, h => by
    cases c with
    | nil => simp at h
    | cons x c =>
      have ih := putAt_mid r (pre ++ [v]) c post (by simpa using h)
      simp only [List.length_append, List.length_cons, List.length_nil, List.append_assoc, List.cons_append, List.nil_append] at ih
      simp only [putAt, List.setIfInBounds_toArray, List.append_assoc, List.cons_append]
      rw [List.set_append_right _ _ (Nat.le_refl _), Nat.sub_self, List.set_cons_zero]
      exact ih
theorem putAt_whole (vs c : List Value) (h : c.length = vs.length) : putAt c.toArray 0 vs = vs.toArray := by
  have := putAt_mid vs [] c [] h
  simpa using this
theorem putAt_all (c : Array Value) (vs : List Value) (h : c.size = vs.length) : putAt c 0 vs = vs.toArray := by
  have := putAt_whole vs c.toList (by simpa using h)
  simpa using this
end rows

theorem grown_refl (w : World) (r : Option Nat) : w.grownBy w r := ⟨rfl, rfl, rfl, Nat.le_refl _, fun _ _ _ => rfl⟩
theorem grown_trans {a b c : World} {r : Option Nat} (h : a.grownBy b r) (k : b.grownBy c r) : a.grownBy c r :=
  ⟨k.os.trans h.os, k.tape.trans h.tape, k.output.trans h.output, Nat.le_trans h.size k.size, fun i hi hr => (k.block i (Nat.lt_of_lt_of_le hi h.size) hr).trans (h.block i hi hr)⟩
theorem grown_setCell (w : World) (b i : Nat) (v : Value) : w.grownBy (w.setCell ⟨b, i, none⟩ v) (some b) :=
  ⟨rfl, rfl, rfl, by simp [World.setCell], fun k _ hr => Below.heap_setCell _ _ _ _ (fun e => hr (by rw [e]))⟩
theorem grown_setCells (b : Nat) (vs : List Value) : ∀ (o : Nat) (w : World), w.grownBy (w.setCells b o vs) (some b) := by
  induction vs with
  | nil => intro o w; exact grown_refl w _
  | cons v r ih => intro o w; rw [World.setCells]; exact grown_trans (grown_setCell w b o v) (ih _ _)
/-- What a write into one row from a's end on leaves of a. -/
theorem grown_row {a b c : World} {r : Option Nat} (h : a.grownBy b none) (g : b.grownBy c r) (hr : ∀ k, r = some k → a.heap.size ≤ k) : a.grownBy c none :=
  ⟨g.os.trans h.os, g.tape.trans h.tape, g.output.trans h.output, Nat.le_trans h.size g.size, fun i hi _ => (g.block i (Nat.lt_of_lt_of_le hi h.size) (by intro e; have := hr i e.symm; omega)).trans (h.block i hi (by simp))⟩
theorem grown_alloc {a b : World} {r : Option Nat} (h : a.grownBy b r) (o : Obj) : a.grownBy (b.alloc o) r := grown_trans h (World.grownBy_alloc b o r)
theorem grown_same {w w' : World} {r : Option Nat} (h1 : w'.os = w.os) (h2 : w'.tape = w.tape) (h3 : w'.output = w.output) (h4 : w'.heap = w.heap) : w.grownBy w' r :=
  ⟨h1, h2, h3, by rw [h4]; exact Nat.le_refl _, fun k _ _ => by rw [h4]⟩
theorem grown_after {a b b' c : World} {r : Option Nat} (g : b'.grownBy c r) (h : a.grownBy b r) (h1 : b'.os = b.os) (h2 : b'.tape = b.tape) (h3 : b'.output = b.output) (h4 : b'.heap = b.heap) : a.grownBy c r :=
  grown_trans h (grown_trans (grown_same h1 h2 h3 h4) g)
theorem grown_drew (w : World) (r : Option Nat) : w.grownBy w.drew r := ⟨rfl, rfl, rfl, Nat.le_refl _, fun _ _ _ => rfl⟩
theorem grown_drewN (w : World) (n : Nat) (r : Option Nat) : w.grownBy (w.drewN n) r := ⟨rfl, rfl, rfl, Nat.le_refl _, fun _ _ _ => rfl⟩


/-- Nothing but draws between two worlds. -/
def Drawn (w w' : World) : Prop := ∃ n, w' = w.drewN n
theorem drawn_refl (w : World) : Drawn w w := ⟨0, rfl⟩
theorem drawn_drewN (w : World) (n : Nat) : Drawn w (w.drewN n) := ⟨n, rfl⟩

section ops
variable {P : Program} {ops : Array Oper} {rest : List Oper} {op : Oper} {a : Act} {w : World} {Q : Exit → Act → World → Prop}

/-- A whole array (or struct) stored into a row from place 'off' on: the world behind it has no other name than its facts. -/
theorem wpList_store_range (hgd : op.guard = none) (ty : TypeId) (x y : Operand) (ho : op.op = .store ty x y)
    (b off : Nat) (cells : Array Value) (hx : a.eval x = .pointer (some ⟨b, off, none⟩)) (hy : a.eval y = .agg cells)
    (T : Nat) (c : Array Value) (hr : w.heap[b]? = some (.cells c T (0, 0))) (hn : off + cells.size ≤ c.size) (hi : (P.info? ty).map (·.size) = some cells.size) (h1 : cells.all (·.oneCell') = true)
    (h : ∀ w', w'.heap[b]? = some (.cells (putAt c off cells.toList) T (0, 0)) → w.grownBy w' (some b) → wpList P ops Q rest (a.put op.dst undef) w') : wpList P ops Q (op :: rest) a w :=
  wpList_store_mid hgd ty x y ho b off cells hx hy (row_there hr _ _ hn) hi h1 (h _ (row_setCells hr _ _) (grown_setCells b _ _ _))

theorem run_storeVar_one (w : World) (b i : Nat) (ty : TypeId) (v : Value) (T : Nat) (c : Array Value) (hr : w.heap[b]? = some (.cells c T (0, 0))) (hi : i < c.size)
    (hinf : (P.info? ty).map (·.size) = some 1) (hv : v.cells = #[v]) (h1 : v.oneCell' = true) : (storeVar ty ⟨b, i, none⟩ v).run P w = .ok () (w.setCell ⟨b, i, none⟩ v) := by
  have h := run_storeCells_cells (P := P) b i [v] 0 w (fun j hj => by
    have : j = 0 := by simpa using hj
    subst this; show (w.cell? ⟨b, i, none⟩).isSome = true; rw [row_cell hr i _ (Array.getElem?_eq_getElem hi)]; rfl) (fun j hj => row_free hr _) (fun u hu => by simp at hu; rw [hu]; exact h1)
  cases hq : P.info? ty with
  | none => simp [hq] at hinf
  | some q =>
    have hs : q.size = 1 := by simpa [hq] using hinf
    simp only [World.setCells, Nat.add_zero] at h
    simpa [storeVar, sizeOf, typeInfo, hq, hv, hs] using h

/-- One cell stored into a row: the world behind it has no other name than its facts. -/
theorem wpList_store_cell (hgd : op.guard = none) (ty : TypeId) (x y : Operand) (ho : op.op = .store ty x y)
    (b i : Nat) (v : Value) (hx : a.eval x = .pointer (some ⟨b, i, none⟩)) (hy : a.eval y = v)
    (T : Nat) (c : Array Value) (hr : w.heap[b]? = some (.cells c T (0, 0))) (hi : i < c.size) (hinf : (P.info? ty).map (·.size) = some 1) (hv : v.cells = #[v]) (h1 : v.oneCell' = true)
    (h : ∀ w', w'.heap[b]? = some (.cells (c.setIfInBounds i v) T (0, 0)) → w.grownBy w' (some b) → wpList P ops Q rest (a.put op.dst undef) w') : wpList P ops Q (op :: rest) a w :=
  wpList_plain hgd fun _ hK => by
    unfold Oper.wp execOp
    simp only [ho, hx, hy, Instr.storeAt, Instr.sureAddr, Sem.run_bind, Sem.run_pure, Result.andThen_ok, run_storeVar_one w b i ty v T c hr hi hinf hv h1]
    exact hK _ _ (h _ (row_set hr i v) (grown_setCell w b i v))

/-- 'append(s, ..)' onto a row of the call's own: elements of one cell each. -/
theorem wpList_app (hgd : op.guard = none) (s x : Operand) (t : TypeId)
    (ho : op.op = .call { callee := .builtin .append, args := #[s, x], argTypes := #[t, t] })
    (base : Nat) (e : TypeId) (z : Value) (bytes : Nat) (ht : P.underlying t = some (.slice e)) (hinf : (P.info? e).map (fun i => (i.zero, i.size, i.bytes)) = some (some z, 1, bytes)) (hzs : z.cells.size = 1)
    (v : Value) (n : Nat) (xs : List Value) (hs : a.eval s = v) (hown : w.ownsRow base e 1 v n xs)
    (ad : Addr) (m c : Nat) (news : List Value) (hx : a.eval x = .slice (some ad) m c) (hl : news.length = m) (hnews : ∀ j u, news[j]? = some u → w.cell? (ad.add j) = some u) (h1 : ∀ u ∈ news, u.oneCell' = true)
    (h63 : n + m ≤ maxLen) (hbytes : (n + m) * bytes ≤ 140737488355328) (hbase : base ≤ w.heap.size)
    (h : ∀ v' w', w'.ownsRow base e 1 v' (n + m) (xs ++ news) → w.grownBy w' v.ownBlock → wpList P ops Q rest (a.put op.dst v') w') : wpList P ops Q (op :: rest) a w := by
  obtain ⟨i, hi, hz, hsize, hby⟩ := info_parts hinf
  exact wpList_append_own w hgd s x t ho base e i z 1 bytes ht hi hz hsize hby hzs (by decide) v n xs hs hown ad m c news hx (by simpa using hl) hnews h1 h63 hbytes hbase fun v' w' h2 h3 _ => h v' w' h2 h3

theorem madeCells_one (z : Value) (n : Nat) : madeCells #[z] n = Array.replicate n z := by
  apply Array.ext
  · simp [madeCells]
  · intro i h1 h2
    simp [madeCells, Nat.mod_one]
/-- 'make([]T, n)': a new row of n zeros. -/
theorem wpList_make_zeros (hgd : op.guard = none) (l c : Operand) (t : TypeId) (ho : op.op = .makeSlice t l c)
    (e : TypeId) (z : Value) (bytes : Nat) (ht : P.underlying t = some (.slice e)) (hinf : (P.info? e).map (fun i => (i.zero, i.size, i.bytes)) = some (some z, 1, bytes)) (hzs : z.cells = #[z])
    (n : Nat) (N : Int) (hl : a.eval l = .int .i64 N) (hc : a.eval c = .int .i64 N) (hN : N = n) (hb : bytes * n ≤ 281474976710656) (h63 : (n : Int) ≤ 9223372036854775807)
    (h : ∀ w', w'.heap[w.heap.size]? = some (.cells (Array.replicate n z) e (0, 0)) → w.grownBy w' none → wpList P ops Q rest (a.put op.dst (.slice (some ⟨w.heap.size, 0, none⟩) n n)) w') : wpList P ops Q (op :: rest) a w :=
  wpList_plain hgd fun _ hK => by
    obtain ⟨i, hi, hz, hsize, hby⟩ := info_parts hinf
    subst hN
    have hrun := run_make (P := P) w t e i z ht hi hz .i64 .i64 n n (by omega) (Int.le_refl _) (by
      rw [hby]
      obtain ⟨q, hq⟩ : ∃ q, bytes * n = q := ⟨_, rfl⟩
      have : (bytes : Int) * (n : Int) = (q : Int) := by rw [← hq]; exact (Int.natCast_mul _ _).symm
      rw [this]; omega) h63
    unfold Oper.wp execOp
    simp only [ho, hl, hc]
    simp [hrun, Result.andThen]
    refine hK _ _ (h _ ?_ (World.grownBy_alloc _ _ _))
    rw [heap_alloc_new, hzs, hsize, Nat.mul_one, madeCells_one]

/-- A slice value that reads as 'news': nil, or cells at an address. -/
def Src (w : World) (v : Value) (news : List Value) : Prop :=
  (v = .slice none 0 0 ∧ news = []) ∨ ∃ ad c, v = .slice (some ad) news.length c ∧ ∀ j u, news[j]? = some u → w.cell? (ad.add j) = some u

/-- 'append(s, xs...)' onto a row of the call's own, xs whatever it be. -/
theorem wpList_app_src (hgd : op.guard = none) (s x : Operand) (t : TypeId)
    (ho : op.op = .call { callee := .builtin .append, args := #[s, x], argTypes := #[t, t] })
    (base : Nat) (e : TypeId) (z : Value) (bytes : Nat) (ht : P.underlying t = some (.slice e)) (hinf : (P.info? e).map (fun i => (i.zero, i.size, i.bytes)) = some (some z, 1, bytes)) (hzs : z.cells.size = 1)
    (v : Value) (n : Nat) (xs : List Value) (hs : a.eval s = v) (hown : w.ownsRow base e 1 v n xs)
    (sv : Value) (news : List Value) (hx : a.eval x = sv) (hsrc : Src w sv news) (h1 : ∀ u ∈ news, u.oneCell' = true)
    (h63 : n + news.length ≤ maxLen) (hbytes : (n + news.length) * bytes ≤ 140737488355328) (hbase : base ≤ w.heap.size)
    (h : ∀ v' w', w'.ownsRow base e 1 v' (n + news.length) (xs ++ news) → w.grownBy w' v.ownBlock → wpList P ops Q rest (a.put op.dst v') w') : wpList P ops Q (op :: rest) a w := by
  rcases hsrc with ⟨hv, rfl⟩ | ⟨ad, c, hv, hc⟩
  · obtain ⟨i, hi, hz, hsize, hby⟩ := info_parts hinf
    exact wpList_append_own_none hgd s x t ho base e i 1 ht hi v n xs hs hown (hx.trans hv) (h v w (by simpa using hown) (grown_refl _ _))
  · exact wpList_app hgd s x t ho base e z bytes ht hinf hzs v n xs hs hown ad news.length c news (hx.trans hv) rfl hc h1 h63 hbytes hbase h
end ops


section sl
variable {P : Program}
theorem sizeOf_one {e : TypeId} (hs : (P.info? e).map (·.size) = some 1) (w : World) : (sizeOf e).run P w = .ok 1 w := by
  cases hq : P.info? e with
  | none => simp [hq] at hs
  | some q =>
    have : q.size = 1 := by simpa [hq] using hs
    simp [sizeOf, typeInfo, hq, this]
/-- 'arr[l:]' of an array in memory. -/
theorem sliceAt_from (t n e : Nat) (hu : P.underlying t = some (.array n e)) (hs : (P.info? e).map (·.size) = some 1) (b o l : Nat) (L : Int) (hL : L = (l : Int)) (hl : l < n) (w : World) :
    (Instr.sliceAt t (.pointer (some ⟨b, o, none⟩)) (some (.int .i64 L)) none none).run P w = .ok (.slice (some ⟨b, o + l, none⟩) (n - l) (n - l)) w := by
  have ha : P.arrayLen t = n := by simp [Program.arrayLen, hu]
  have he : P.elem t = e := by simp [Program.elem, hu]
  subst hL
  rw [run_sliceAt_array_l w t ⟨b, o, none⟩ (by rw [ha, he]; exact hu) .i64 l (by omega) (by rw [ha]; omega), he, sizeOf_one hs]
  have h1 : n ≠ l := by omega
  simp [slicedAt, Result.andThen, ha, h1, Addr.add_mid]
/-- 'arr[:]' of an array in memory. -/
theorem sliceAt_all (t n e : Nat) (hu : P.underlying t = some (.array n e)) (hs : (P.info? e).map (·.size) = some 1) (b o : Nat) (w : World) :
    (Instr.sliceAt t (.pointer (some ⟨b, o, none⟩)) none none none).run P w = .ok (.slice (some ⟨b, o, none⟩) n n) w := by
  have ha : P.arrayLen t = n := by simp [Program.arrayLen, hu]
  have he : P.elem t = e := by simp [Program.elem, hu]
  rw [run_sliceAt_array_all w t ⟨b, o, none⟩ (by rw [ha, he]; exact hu), he, sizeOf_one hs]
  by_cases h0 : n = 0
  · simp [slicedAt, Result.andThen, ha, h0]
  · simp [slicedAt, Result.andThen, ha, h0, Addr.add_mid]
end sl

section four
variable (w : World) (o0 o1 o2 o3 : Obj)
theorem alloc_size (o : Obj) : (w.alloc o).heap.size = w.heap.size + 1 := by simp
theorem alloc_at (o : Obj) {k : Nat} (h : k = w.heap.size) : (w.alloc o).heap[k]? = some o := by subst h; exact heap_alloc_new w o
theorem alloc_up (o : Obj) {k : Nat} (h : k < w.heap.size) : (w.alloc o).heap[k]? = w.heap[k]? := heap_alloc_old w o h
theorem four_3 : ((((w.alloc o0).alloc o1).alloc o2).alloc o3).heap[w.heap.size + 1 + 1 + 1]? = some o3 := alloc_at _ _ (by simp only [alloc_size])
theorem four_2 : ((((w.alloc o0).alloc o1).alloc o2).alloc o3).heap[w.heap.size + 1 + 1]? = some o2 := by
  rw [alloc_up _ _ (by simp only [alloc_size]; omega)]; exact alloc_at _ _ (by simp only [alloc_size])
theorem four_1 : ((((w.alloc o0).alloc o1).alloc o2).alloc o3).heap[w.heap.size + 1]? = some o1 := by
  rw [alloc_up _ _ (by simp only [alloc_size]; omega), alloc_up _ _ (by simp only [alloc_size]; omega)]; exact alloc_at _ _ (by simp only [alloc_size])
theorem four_0 : ((((w.alloc o0).alloc o1).alloc o2).alloc o3).heap[w.heap.size]? = some o0 := by
  rw [alloc_up _ _ (by simp only [alloc_size]; omega), alloc_up _ _ (by simp only [alloc_size]; omega), alloc_up _ _ (by simp only [alloc_size]; omega)]; exact alloc_at _ _ rfl
theorem three_2 : (((w.alloc o0).alloc o1).alloc o2).heap[w.heap.size + 1 + 1]? = some o2 := alloc_at _ _ (by simp only [alloc_size])
theorem three_1 : (((w.alloc o0).alloc o1).alloc o2).heap[w.heap.size + 1]? = some o1 := by
  rw [alloc_up _ _ (by simp only [alloc_size]; omega)]; exact alloc_at _ _ (by simp only [alloc_size])
theorem three_0 : (((w.alloc o0).alloc o1).alloc o2).heap[w.heap.size]? = some o0 := by
  rw [alloc_up _ _ (by simp only [alloc_size]; omega), alloc_up _ _ (by simp only [alloc_size]; omega)]; exact alloc_at _ _ rfl
theorem three_g : w.grownBy (((w.alloc o0).alloc o1).alloc o2) none := grown_alloc (grown_alloc (grown_alloc (grown_refl w none) _) _) _
theorem two_1 : ((w.alloc o0).alloc o1).heap[w.heap.size + 1]? = some o1 := alloc_at _ _ (by simp only [alloc_size])
theorem two_0 : ((w.alloc o0).alloc o1).heap[w.heap.size]? = some o0 := by
  rw [alloc_up _ _ (by simp only [alloc_size]; omega)]; exact alloc_at _ _ rfl
theorem two_g : w.grownBy ((w.alloc o0).alloc o1) none := grown_alloc (grown_alloc (grown_refl w none) _) _
theorem four_g : w.grownBy ((((w.alloc o0).alloc o1).alloc o2).alloc o3) none :=
  grown_alloc (grown_alloc (grown_alloc (grown_alloc (grown_refl w none) _) _) _) _
end four

section rows2
theorem wf_u8_range {n : Int} (h : (Lit.int .u8 n).wf = true) : 0 ≤ n ∧ n < 256 := by simp [Lit.wf, IntKind.min, IntKind.max, IntKind.bits, IntKind.signed] at h; omega
theorem wf_u16_range {n : Int} (h : (Lit.int .u16 n).wf = true) : 0 ≤ n ∧ n < 65536 := by simp [Lit.wf, IntKind.min, IntKind.max, IntKind.bits, IntKind.signed] at h; omega
theorem wf_u32_range {n : Int} (h : (Lit.int .u32 n).wf = true) : 0 ≤ n ∧ n < 4294967296 := by simp [Lit.wf, IntKind.min, IntKind.max, IntKind.bits, IntKind.signed] at h; omega
theorem wf_u64_range {n : Int} (h : (Lit.int .u64 n).wf = true) : 0 ≤ n ∧ n < 18446744073709551616 := by simp [Lit.wf, IntKind.min, IntKind.max, IntKind.bits, IntKind.signed] at h; omega
theorem wf_i64_range {n : Int} (h : (Lit.int .i64 n).wf = true) : -9223372036854775808 ≤ n ∧ n < 9223372036854775808 := by simp [Lit.wf, IntKind.min, IntKind.max, IntKind.bits, IntKind.signed] at h; omega

def IsRow (k : IntKind) (w : World) (a : Option Addr) (len cap : Nat) (zs : List Int) : Prop :=
  (a = none ∧ len = 0 ∧ cap = 0 ∧ zs = []) ∨
  ∃ x, a = some x ∧ len ≤ cap ∧ cap ≤ maxLen ∧ zs.length = cap ∧ (∀ i, i < zs.length → w.cell? (x.add i) = some (.int k (zs.getD i 0))) ∧ ∀ n ∈ zs, (Lit.int k n).wf = true

theorem isRow_at {k : IntKind} {w w' : World} {a : Option Addr} {len cap : Nat} {zs : List Int} (h : IsRow k w a len cap zs) (g : w.grownBy w' none) (i : Nat) (hi : i < len) :
    ∃ x y, a = some x ∧ zs[i]? = some y ∧ (Lit.int k y).wf = true ∧ w'.cell? (x.add i) = some (.int k y) := by
  rcases h with ⟨-, h, -⟩ | ⟨x, rfl, hl, -, hz, hc, hw⟩
  · omega
  · have hi' : i < zs.length := by omega
    refine ⟨x, zs[i], rfl, List.getElem?_eq_getElem hi', hw _ (List.getElem_mem hi'), ?_⟩
    have := g.cell (hc i hi') (by simp)
    rw [this]
    simp [hi']
/-- A slice of the call's own reads its cells. -/
theorem own_at {w : World} {base e : Nat} {v : Value} {n : Nat} {xs : List Value} (h : w.ownsRow base e 1 v n xs) (i : Nat) (u : Value) (hi : xs[i]? = some u) :
    ∃ g cap, v = .slice (some ⟨g, 0, none⟩) n cap ∧ w.cell? ⟨g, i, none⟩ = some u := by
  have h0 := h
  obtain ⟨hl, h' | ⟨g, cap, cur, hv, -, -, -, -, -, -⟩⟩ := h
  · obtain ⟨-, rfl⟩ := h'
    have : xs.length = 0 := by simpa using hl
    rw [List.length_eq_zero_iff.1 this] at hi; simp at hi
  · subst hv
    have hc := World.ownsRow.cells h0 rfl i u hi
    rw [Addr.add_mid, Nat.zero_add] at hc
    exact ⟨g, cap, rfl, hc⟩
theorem own_slice {w : World} {base e : Nat} {v : Value} {n : Nat} {xs : List Value} (h : w.ownsRow base e 1 v n xs) : ∃ a c, v = .slice a n c := by
  obtain ⟨hl, ⟨rfl, rfl⟩ | ⟨g, cap, cur, hv, -, -, -, -, -, -⟩⟩ := h
  · exact ⟨_, _, rfl⟩
  · exact ⟨_, _, hv⟩
/-- A row of the call's own, opened: its cells. -/
theorem own_open {w : World} {base e : Nat} {v : Value} {n : Nat} {xs : List Value} (h : w.ownsRow base e 1 v n xs) (hn : 0 < n) :
    ∃ g cap cur, v = .slice (some ⟨g, 0, none⟩) n cap ∧ base ≤ g ∧ w.heap[g]? = some (.cells cur e (0, 0)) ∧ n ≤ cur.size ∧ cur.toList.take n = xs ∧
      ∀ (w' : World) (i : Nat) (u : Value), w'.heap[g]? = some (.cells (cur.setIfInBounds i u) e (0, 0)) → w'.ownsRow base e 1 v n (xs.set i u) := by
  obtain ⟨hl, ⟨-, h0⟩ | ⟨g, cap, cur, hv, hg, hh, h1, h2, h3, h4⟩⟩ := h
  · omega
  · refine ⟨g, cap, cur, hv, hg, hh, by omega, by simpa using h4, fun w' i u hw' => ⟨by rw [List.length_set]; exact hl, .inr ⟨g, cap, _, hv, hg, hw', h1, h2, by simpa using h3, ?_⟩⟩⟩
    rw [← h4]
    simp [List.take_set]
/-- What the call owns, when another block is written. -/
theorem own_keep {w w' : World} {base e : Nat} {v : Value} {n : Nat} {xs : List Value} {r : Option Nat} (h : w.ownsRow base e 1 v n xs) (g : w.grownBy w' r) (hr : ∀ k, r = some k → k < base) : w'.ownsRow base e 1 v n xs := by
  refine World.ownsRow.kept h g ?_
  cases hv : v.ownBlock with
  | none => exact .inl rfl
  | some k =>
    right
    intro e
    have h1 := (World.ownsRow.lt h k hv).1
    have h2 := hr k e.symm
    omega
theorem isRow_src {k : IntKind} {w w' : World} {a : Option Addr} {len cap : Nat} {zs : List Int} (h : IsRow k w a len cap zs) (g : w.grownBy w' none) :
    Src w' (.slice a len cap) ((zs.take len).map (Value.int k)) ∧ (zs.take len).length = len ∧ ∀ y ∈ zs.take len, (Lit.int k y).wf = true := by
  rcases h with ⟨rfl, rfl, rfl, rfl⟩ | ⟨x, rfl, hl, -, hz, hc, hw⟩
  · exact ⟨.inl ⟨rfl, rfl⟩, rfl, by simp⟩
  · have hlen : (zs.take len).length = len := by rw [List.length_take]; omega
    refine ⟨.inr ⟨x, cap, by rw [List.length_map, hlen], ?_⟩, hlen, fun y hy => hw y (List.mem_of_mem_take hy)⟩
    intro j u hu
    rw [List.getElem?_map, Option.map_eq_some_iff] at hu
    obtain ⟨y, hy, rfl⟩ := hu
    have hj : j < len := by
      have := (List.getElem?_eq_some_iff.1 hy).1; omega
    rw [List.getElem?_take_of_lt hj] at hy
    have hj2 := (List.getElem?_eq_some_iff.1 hy).1
    rw [g.cell (hc j hj2) (by simp)]
    rw [List.getD_eq_getElem?_getD, hy]; rfl
theorem below_of_grown {w w' : World} (h : w.grownBy w' none) : Below w.heap.size w w' :=
  ⟨h.os, h.tape, h.output, h.size, fun k hk => h.block k hk (by simp)⟩
end rows2

end Go.Proofs.YtmankjhopfilaaaL
