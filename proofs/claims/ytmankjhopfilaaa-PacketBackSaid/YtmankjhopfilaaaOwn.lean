/- What a call owns: its blocks, one list: an operation turns one of them, and leaves the others. -/
import Derived.Test.YtmankjhopfilaaaCopy
namespace Go.Proofs.YtmankjhopfilaaaL
set_option linter.unusedVariables false
set_option linter.unusedSimpArgs false
open Go.RowKit

/-- One thing owned: a block known whole; a block of numbers of one kind; a slice of numbers, of values, that may be appended to. -/
inductive It where
  | blk (p : Nat) (o : Obj)
  | ints (p : Nat) (k : IntKind) (T : TypeId) (n : Nat) (s : List Int)
  | sl (e : TypeId) (k : IntKind) (a : Option Addr) (n c : Nat) (s : List Int)
  | vals (e : TypeId) (a : Option Addr) (n c : Nat) (xs : List Value)
def It.foot : It → Option Nat
  | .blk p _ => some p
  | .ints p _ _ _ _ => some p
  | .sl _ _ a n c _ => (Value.slice a n c).ownBlock
  | .vals _ a n c _ => (Value.slice a n c).ownBlock
def It.has (base : Nat) (w : World) : It → Prop
  | .blk p o => base ≤ p ∧ w.heap[p]? = some o
  | .ints p k T n s => base ≤ p ∧ w.heap[p]? = some (.cells (encK k s) T (0, 0)) ∧ s.length = n
  | .sl e k a n c s => w.ownsRow base e 1 (.slice a n c) n (s.map (Value.int k))
  | .vals e a n c xs => w.ownsRow base e 1 (.slice a n c) n xs
def Apart (x y : It) : Prop := ∀ p, x.foot = some p → y.foot ≠ some p
theorem It.has.lt {base : Nat} {w : World} {x : It} (h : x.has base w) : ∀ p, x.foot = some p → base ≤ p ∧ p < w.heap.size := by
  intro p hp
  cases x with
  | blk q o => injection hp with hp; subst hp; exact ⟨h.1, row_lt h.2⟩
  | ints q k T n s => injection hp with hp; subst hp; exact ⟨h.1, row_lt h.2.1⟩
  | sl e k a n c s => exact World.ownsRow.lt h p hp
  | vals e a n c xs => exact World.ownsRow.lt h p hp
theorem It.has.kept {base : Nat} {w w' : World} {r : Option Nat} {x : It} (h : x.has base w) (g : w.grownBy w' r) (hr : ∀ p, x.foot = some p → r ≠ some p) : x.has base w' := by
  cases x with
  | blk q o => exact ⟨h.1, (g.block q (row_lt h.2) (fun e => hr q rfl e.symm)).trans h.2⟩
  | ints q k T n s => exact ⟨h.1, (g.block q (row_lt h.2.1) (fun e => hr q rfl e.symm)).trans h.2.1, h.2.2⟩
  | sl e k a n c s =>
    refine World.ownsRow.kept h g ?_
    cases hv : (Value.slice a n c).ownBlock with
    | none => exact .inl rfl
    | some p => exact .inr fun e => hr p hv e.symm
  | vals e a n c xs =>
    refine World.ownsRow.kept h g ?_
    cases hv : (Value.slice a n c).ownBlock with
    | none => exact .inl rfl
    | some p => exact .inr fun e => hr p hv e.symm

/-- n noughts (a name that is not laid out). -/
def zer (n : Nat) : List Int := List.replicate n 0
theorem length_zer (n : Nat) : (zer n).length = n := List.length_replicate ..
theorem ok_zer {B : Int} (hB : 0 < B) (n : Nat) : okB B (zer n) := fun x hx => by rw [zer] at hx; rw [List.eq_of_mem_replicate hx]; exact ⟨Int.le_refl _, hB⟩
structure Own (w0 w : World) (L : List It) : Prop where
  grown : w0.grownBy w none
  has : ∀ x ∈ L, x.has w0.heap.size w
  apart : L.Pairwise Apart
/-- x is in L. -/
inductive Has (x : It) : List It → Prop
  | here (r : List It) : Has x (x :: r)
  | next (y : It) {r : List It} : Has x r → Has x (y :: r)
theorem Has.mem {x : It} {L : List It} (h : Has x L) : x ∈ L := by
  induction h with
  | here r => exact List.mem_cons_self
  | next y _ ih => exact List.mem_cons_of_mem _ ih
/-- L' is L with x' in x's place. -/
inductive Upd (x x' : It) : List It → List It → Prop
  | here (r : List It) : Upd x x' (x :: r) (x' :: r)
  | next (y : It) {r r' : List It} : Upd x x' r r' → Upd x x' (y :: r) (y :: r')
theorem Upd.parts {x x' : It} {L L' : List It} (h : Upd x x' L L') : ∃ A B, L = A ++ x :: B ∧ L' = A ++ x' :: B := by
  induction h with
  | here r => exact ⟨[], r, rfl, rfl⟩
  | next y _ ih => obtain ⟨A, B, rfl, rfl⟩ := ih; exact ⟨y :: A, B, rfl, rfl⟩
/-- L' is L without x. -/
inductive Del (x : It) : List It → List It → Prop
  | here (r : List It) : Del x (x :: r) r
  | next (y : It) {r r' : List It} : Del x r r' → Del x (y :: r) (y :: r')
theorem Del.sub {x : It} {L L' : List It} (h : Del x L L') : L'.Sublist L := by
  induction h with
  | here r => exact List.sublist_cons_self ..
  | next y _ ih => exact ih.cons_cons y

section
variable {w0 w w' : World} {L L' : List It} {x x' : It}
theorem own_start (w : World) : Own w w [] := ⟨grown_refl w none, fun x hx => (by cases hx), .nil⟩
theorem Own.base (h : Own w0 w L) : w0.heap.size ≤ w.heap.size := h.grown.size
theorem Own.get (h : Own w0 w L) (hx : Has x L) : x.has w0.heap.size w := h.has x hx.mem
theorem Own.grow (h : Own w0 w L) (g : w.grownBy w' none) : Own w0 w' L :=
  ⟨grown_trans h.grown g, fun x hx => (h.has x hx).kept g (fun p _ e => by cases e), h.apart⟩
theorem Own.sub (h : Own w0 w L) (hs : L'.Sublist L) : Own w0 w L' := ⟨h.grown, fun x hx => h.has x (hs.subset hx), h.apart.sublist hs⟩
theorem Own.del (h : Own w0 w L) (hd : Del x L L') : Own w0 w L' := h.sub hd.sub
/-- A new thing, in blocks that were not there. -/
theorem Own.add (h : Own w0 w L) (g : w.grownBy w' none) (hx : x.has w0.heap.size w') (hf : ∀ p, x.foot = some p → w.heap.size ≤ p) : Own w0 w' (x :: L) := by
  have h' := h.grow g
  refine ⟨h'.grown, fun y hy => ?_, List.pairwise_cons.2 ⟨fun y hy p hp hq => ?_, h.apart⟩⟩
  · rcases List.mem_cons.1 hy with rfl | hy
    · exact hx
    · exact h'.has y hy
  · have h1 := hf p hp
    have h2 := ((h.has y hy).lt p hq).2
    omega
theorem Own.blk (h : Own w0 w L) (o : Obj) {p : Nat} (hp : w.heap.size = p) : Own w0 (w.alloc o) (.blk p o :: L) :=
  h.add (World.grownBy_alloc _ _ _) ⟨by rw [← hp]; exact h.base, alloc_at _ _ hp.symm⟩ (fun q hq => by injection hq with hq; omega)
theorem Own.ints (h : Own w0 w L) (k : IntKind) (T : TypeId) (n : Nat) (s : List Int) (hs : s.length = n) {p : Nat} (hp : w.heap.size = p) : Own w0 (w.alloc (.cells (encK k s) T (0, 0))) (.ints p k T n s :: L) :=
  h.add (World.grownBy_alloc _ _ _) ⟨by rw [← hp]; exact h.base, alloc_at _ _ hp.symm, hs⟩ (fun q hq => by injection hq with hq; omega)
/-- The nil slice, to be appended to. -/
theorem Own.nil (h : Own w0 w L) (e : TypeId) (k : IntKind) : Own w0 w (.sl e k none 0 0 [] :: L) :=
  h.add (grown_refl w none) (World.ownsRow_nil w _ e 1) (fun p hp => by simp [It.foot, Value.ownBlock] at hp)
/-- A slice handed back by a call. -/
theorem Own.sl (h : Own w0 w L) {e : TypeId} {k : IntKind} {v : Value} {n : Nat} {s : List Int} (g : w.grownBy w' none) (ho : w'.ownsRow w.heap.size e 1 v n (s.map (Value.int k))) :
    ∃ a c, v = .slice a n c ∧ Own w0 w' (.sl e k a n c s :: L) := by
  obtain ⟨a, c, rfl⟩ := own_slice ho
  refine ⟨a, c, rfl, h.add g ?_ (fun p hp => (World.ownsRow.lt ho p hp).1)⟩
  obtain ⟨h1, h2 | ⟨q, cap, cur, h2, h3, h4⟩⟩ := ho
  · exact ⟨h1, .inl h2⟩
  · exact ⟨h1, .inr ⟨q, cap, cur, h2, Nat.le_trans h.base h3, h4⟩⟩
theorem Own.upd (h : Own w0 w L) (hu : Upd x x' L L') (g : w.grownBy w' x.foot) (hx : x'.has w0.heap.size w') (hf : x'.foot = x.foot ∨ ∀ p, x'.foot = some p → w.heap.size ≤ p) : Own w0 w' L' := by
  obtain ⟨A, B, rfl, rfl⟩ := hu.parts
  have hpw := List.pairwise_append.1 h.apart
  have hpb := List.pairwise_cons.1 hpw.2.1
  have hk : ∀ y, y ∈ A ∨ y ∈ B → y.has w0.heap.size w' := fun y hy => by
    have hm : y ∈ A ++ x :: B := by rcases hy with hy | hy <;> simp [hy]
    refine (h.has y hm).kept g fun p hp e => ?_
    rcases hy with hy | hy
    · exact hpw.2.2 y hy x (by simp) p hp e
    · exact hpb.1 y hy p e hp
  have hap : ∀ y, y ∈ A ∨ y ∈ B → ∀ p, x'.foot = some p → y.foot ≠ some p := fun y hy p hp hq => by
    rcases hf with hf | hf
    · rw [hf] at hp
      rcases hy with hy | hy
      · exact hpw.2.2 y hy x (by simp) p hq hp
      · exact hpb.1 y hy p hp hq
    · have hm : y ∈ A ++ x :: B := by rcases hy with hy | hy <;> simp [hy]
      have h1 := ((h.has y hm).lt p hq).2
      have h2 := hf p hp
      omega
  refine ⟨grown_row h.grown g (fun k hk => ((h.has x (by simp)).lt k hk).1), fun y hy => ?_, List.pairwise_append.2 ⟨hpw.1, List.pairwise_cons.2 ⟨fun y hy p hp hq => hap y (.inr hy) p hp hq, hpb.2⟩, fun y hy z hz p hp hq => ?_⟩⟩
  · rcases List.mem_append.1 hy with hy | hy
    · exact hk y (.inl hy)
    · rcases List.mem_cons.1 hy with rfl | hy
      · exact hx
      · exact hk y (.inr hy)
  · rcases List.mem_cons.1 hz with rfl | hz
    · exact hap y (.inl hy) p hq hp
    · exact hpw.2.2 y hy z (by simp [hz]) p hp hq
/-! What is known of one. -/
theorem Own.row (h : Own w0 w L) {p : Nat} {k : IntKind} {T : TypeId} {n : Nat} {s : List Int} (hx : Has (.ints p k T n s) L) : w.heap[p]? = some (.cells (encK k s) T (0, 0)) := (h.get hx).2.1
theorem Own.len (h : Own w0 w L) {p : Nat} {k : IntKind} {T : TypeId} {n : Nat} {s : List Int} (hx : Has (.ints p k T n s) L) : s.length = n := (h.get hx).2.2
theorem Own.at (h : Own w0 w L) {p : Nat} {o : Obj} (hx : Has (.blk p o) L) : w.heap[p]? = some o := (h.get hx).2
theorem Own.rd (h : Own w0 w L) {p : Nat} {k : IntKind} {T : TypeId} {n : Nat} {s : List Int} (hx : Has (.ints p k T n s) L) : Rd k w (some ⟨p, 0, none⟩) n s := by
  have := rd_row (h.row hx); rwa [h.len hx] at this
theorem Own.rdsl (h : Own w0 w L) {e : TypeId} {k : IntKind} {a : Option Addr} {n c : Nat} {s : List Int} (hx : Has (.sl e k a n c s) L) : Rd k w a n s := by
  have h0 : w.ownsRow _ e 1 (.slice a n c) n (s.map (Value.int k)) := h.get hx
  have hl : s.length = n := by have := h0.1; simpa using this
  refine ⟨hl, fun i hi => ?_⟩
  obtain ⟨g, cap, hv, hc⟩ := own_at h0 i (.int k (s.getD i 0)) (by rw [List.getElem?_map, List.getElem?_eq_getElem (by omega), List.getD_eq_getElem?_getD, List.getElem?_eq_getElem (by omega)]; rfl)
  injection hv with hv
  exact ⟨_, hv, by rw [Addr.add_mid, Nat.zero_add]; exact hc⟩
theorem Own.lensl (h : Own w0 w L) {e : TypeId} {k : IntKind} {a : Option Addr} {n c : Nat} {s : List Int} (hx : Has (.sl e k a n c s) L) : s.length = n := (h.rdsl hx).1
/-- A slice's own block, where there is a cell. -/
theorem Own.addr (h : Own w0 w L) {e : TypeId} {k : IntKind} {a : Option Addr} {n c : Nat} {s : List Int} (hx : Has (.sl e k a n c s) L) (hn : 0 < n) : ∃ g, a = some ⟨g, 0, none⟩ ∧ n ≤ c := by
  have h0 : w.ownsRow _ e 1 (.slice a n c) n (s.map (Value.int k)) := h.get hx
  obtain ⟨-, ⟨-, h2⟩ | ⟨g, cap, cur, h2, -, -, h3, -⟩⟩ := h0
  · omega
  · injection h2 with h2 h4 h5
    exact ⟨g, h2, by omega⟩
theorem Own.cap (h : Own w0 w L) {e : TypeId} {k : IntKind} {a : Option Addr} {n c : Nat} {s : List Int} (hx : Has (.sl e k a n c s) L) : n ≤ c ∧ c ≤ maxLen ∧ (a = none → c = 0) := by
  have h0 : w.ownsRow _ e 1 (.slice a n c) n (s.map (Value.int k)) := h.get hx
  obtain ⟨-, ⟨h1, h2⟩ | ⟨g, cap, cur, h2, -, -, h3, h4, -⟩⟩ := h0
  · injection h1 with h1 h5 h6
    exact ⟨by omega, by unfold maxLen; omega, fun _ => h6⟩
  · injection h2 with h2 h4 h5
    exact ⟨by omega, by omega, fun e => by rw [e] at h2; cases h2⟩
end

/-! Operations. -/
section
variable {P : Program} {ops : Array Oper} {rest : List Oper} {op : Oper} {a : Act} {w w0 : World} {L L' : List It} {Q : Exit → Act → World → Prop}
/-- A block made. -/
theorem wpList_new_ints (hgd : op.guard = none) (HK : Own w0 w L) (t : TypeId) (hop : op.op = .alloc t) (k : IntKind) (T : TypeId) (n : Nat) (s : List Int) (hs : s.length = n) (hrun : ∀ w, (execOp a.eval op).run P w = .ok (.value (ptrTo w.heap.size)) (w.alloc (.cells (encK k s) T (0, 0))))
    (h : ∀ w' p, Own w0 w' (.ints p k T n s :: L) → wpList P ops Q rest (a.put op.dst (.pointer (some ⟨p, 0, none⟩))) w') : wpList P ops Q (op :: rest) a w :=
  wpList_plain hgd fun _ hK => by
    unfold Oper.wp
    rw [hrun]
    exact hK _ _ (h _ _ (HK.ints k T n s hs rfl))
/-- A number stored. -/
theorem wpList_put_int (hgd : op.guard = none) (HK : Own w0 w L) (ty : TypeId) (x y : Operand) (ho : op.op = .store ty x y) (p i : Nat) (k : IntKind) (v : Int) (hx : a.eval x = .pointer (some ⟨p, i, none⟩)) (hy : a.eval y = .int k v)
    (T : TypeId) (n : Nat) (s : List Int) (hu : Upd (.ints p k T n s) (.ints p k T n (s.set i v)) L L') (hi : i < n) (hinf : (P.info? ty).map (·.size) = some 1)
    (h : ∀ w', Own w0 w' L' → wpList P ops Q rest (a.put op.dst undef) w') : wpList P ops Q (op :: rest) a w := by
  obtain ⟨A, B, hL, hL'⟩ := hu.parts
  have hm := HK.has (.ints p k T n s) (by rw [hL]; simp)
  exact wpList_store_cell hgd ty x y ho p i _ hx hy T _ hm.2.1 (by rw [size_encK, hm.2.2]; exact hi) hinf rfl rfl fun w' r g => h w' (HK.upd hu g ⟨hm.1, rowK_set r, by rw [List.length_set]; exact hm.2.2⟩ (.inl rfl))
/-- A whole array stored. -/
theorem wpList_put_row (hgd : op.guard = none) (HK : Own w0 w L) (ty : TypeId) (x y : Operand) (ho : op.op = .store ty x y) (p : Nat) (k : IntKind) (s' : List Int) (hx : a.eval x = .pointer (some ⟨p, 0, none⟩)) (hy : a.eval y = .agg (encK k s'))
    (T : TypeId) (n : Nat) (s : List Int) (hu : Upd (.ints p k T n s) (.ints p k T n s') L L') (hs' : s'.length = n) (hinf : (P.info? ty).map (·.size) = some n)
    (h : ∀ w', Own w0 w' L' → wpList P ops Q rest (a.put op.dst undef) w') : wpList P ops Q (op :: rest) a w := by
  obtain ⟨A, B, hL, hL'⟩ := hu.parts
  have hm := HK.has (.ints p k T n s) (by rw [hL]; simp)
  refine wpList_store_range hgd ty x y ho p 0 _ hx hy T _ hm.2.1 (by rw [size_encK, size_encK, hm.2.2, hs']; omega) (by rw [size_encK, hs']; exact hinf) (one_encK _ _) fun w' r g => h w' (HK.upd hu g ⟨hm.1, ?_, hs'⟩ (.inl rfl))
  rw [putAt_all _ _ (by rw [Array.length_toList, size_encK, size_encK, hm.2.2, hs'])] at r
  exact r
/-- A whole array read. -/
theorem wpList_get_row (hgd : op.guard = none) (HK : Own w0 w L) (ty : TypeId) (x : Operand) (ho : op.op = .load ty x) (p : Nat) (hx : a.eval x = .pointer (some ⟨p, 0, none⟩)) (k : IntKind) (T : TypeId) (n : Nat) (s : List Int) (hu : Has (.ints p k T n s) L)
    (d : TypeDesc) (hud : P.underlying ty = some d) (hd : (match d with | .struct _ | .array _ _ => true | _ => false) = true) (hi : (P.info? ty).map (·.size) = some n)
    (h : wpList P ops Q rest (a.put op.dst (.agg (encK k s))) w) : wpList P ops Q (op :: rest) a w :=
  wpList_load_row hgd ty x ho p hx T _ _ d (HK.row hu) hud hd (by rw [size_encK, HK.len hu]; exact hi) h
theorem run_loadVar_cell {w : World} {ad : Addr} {ty : TypeId} {k : IntKind} {v : Int} (hu : P.underlying ty = some (.int k)) (hc : w.cell? ad = some (.int k v)) : (loadVar ty ad).run P w = .ok (.int k v) w := by
  unfold loadVar
  have ha : (isAgg ty).run P w = .ok false w := by simp [isAgg, run_underlying hu]
  rw [Sem.run_bind, ha]
  simp [hc]
theorem exec_load_cell {w : World} {ad : Addr} {ty : TypeId} {k : IntKind} {v : Int} {x : Operand} (ho : op.op = .load ty x) (hx : a.eval x = .pointer (some ad)) (hu : P.underlying ty = some (.int k)) (hc : w.cell? ad = some (.int k v)) : (execOp a.eval op).run P w = .ok (.value (.int k v)) w := by
  unfold execOp
  simp only [ho, hx, Instr.loadAt, Instr.sureAddr, Sem.run_bind, Sem.run_pure, Result.andThen_ok, run_loadVar_cell hu hc]
/-- A number read out of a block. -/
theorem wpList_get_int (hw : Region.wanted op (yielded ops a.tmps) = true) (HK : Own w0 w L) (ty : TypeId) (x : Operand) (ho : op.op = .load ty x) (p i : Nat) (hx : a.eval x = .pointer (some ⟨p, i, none⟩)) (k : IntKind) (T : TypeId) (n : Nat) (s : List Int) (hu : Has (.ints p k T n s) L)
    (hud : P.underlying ty = some (.int k)) (hi : i < n) (h : wpList P ops Q rest (a.put op.dst (.int k (s.getD i 0))) w) : wpList P ops Q (op :: rest) a w :=
  wpList_when hw fun K hK => by
    unfold Oper.wp
    rw [exec_load_cell ho hx hud (rowK_at (HK.row hu) i (by rw [HK.len hu]; exact hi))]
    exact hK _ _ h
theorem Own.cellsl (HK : Own w0 w L) {e : TypeId} {k : IntKind} {g n c : Nat} {s : List Int} (hx : Has (.sl e k (some ⟨g, 0, none⟩) n c s) L) (i : Nat) (hi : i < n) : w.cell? ⟨g, i, none⟩ = some (.int k (s.getD i 0)) := by
  obtain ⟨x, hx, hc⟩ := (HK.rdsl hx).2 i hi
  injection hx with hx
  rw [← hx, Addr.add_mid, Nat.zero_add] at hc
  exact hc
/-- A number read out of a slice of the call's own. -/
theorem wpList_get_sl (hw : Region.wanted op (yielded ops a.tmps) = true) (HK : Own w0 w L) (ty : TypeId) (x : Operand) (ho : op.op = .load ty x) (g i : Nat) (hx : a.eval x = .pointer (some ⟨g, i, none⟩)) (e : TypeId) (k : IntKind) (n c : Nat) (s : List Int) (hu : Has (.sl e k (some ⟨g, 0, none⟩) n c s) L)
    (hud : P.underlying ty = some (.int k)) (hi : i < n) (h : wpList P ops Q rest (a.put op.dst (.int k (s.getD i 0))) w) : wpList P ops Q (op :: rest) a w :=
  wpList_when hw fun K hK => by
    unfold Oper.wp
    rw [exec_load_cell ho hx hud (HK.cellsl hu i hi)]
    exact hK _ _ h
/-- A number stored into a slice of the call's own. -/
theorem sl_set {e : TypeId} {k : IntKind} {g n c i : Nat} {s : List Int} {v : Int} (HK : Own w0 w L) (hx : Has (.sl e k (some ⟨g, 0, none⟩) n c s) L) (hi : i < n) :
    ∃ cur, w.heap[g]? = some (.cells cur e (0, 0)) ∧ i < cur.size ∧ ∀ w', w'.heap[g]? = some (.cells (cur.setIfInBounds i (.int k v)) e (0, 0)) → (It.sl e k (some ⟨g, 0, none⟩) n c (s.set i v)).has w0.heap.size w' := by
  have h0 : w.ownsRow w0.heap.size e 1 (.slice (some ⟨g, 0, none⟩) n c) n (s.map (Value.int k)) := HK.get hx
  obtain ⟨g', cap, cur, hv, -, hg, hn, -, hs⟩ := own_open h0 (by omega)
  injection hv with h1 h2 h3
  injection h1 with h1
  injection h1 with h1
  subst h1 h3
  exact ⟨cur, hg, by omega, fun w' hw' => by
    have := hs w' i _ hw'
    rw [← List.map_set] at this
    exact this⟩
theorem wpList_put_sl (hgd : op.guard = none) (HK : Own w0 w L) (ty : TypeId) (x y : Operand) (ho : op.op = .store ty x y) (g i : Nat) (k : IntKind) (v : Int) (hx : a.eval x = .pointer (some ⟨g, i, none⟩)) (hy : a.eval y = .int k v)
    (e : TypeId) (n c : Nat) (s : List Int) (hu : Upd (.sl e k (some ⟨g, 0, none⟩) n c s) (.sl e k (some ⟨g, 0, none⟩) n c (s.set i v)) L L') (hi : i < n) (hinf : (P.info? ty).map (·.size) = some 1)
    (h : ∀ w', Own w0 w' L' → wpList P ops Q rest (a.put op.dst undef) w') : wpList P ops Q (op :: rest) a w := by
  have hm : Has (.sl e k (some ⟨g, 0, none⟩) n c s) L := by
    obtain ⟨A, B, rfl, -⟩ := hu.parts
    clear hu h HK
    induction A with
    | nil => exact .here _
    | cons y A ih => exact .next _ ih
  obtain ⟨cur, hg, hc, hs⟩ := sl_set (v := v) HK hm hi
  exact wpList_store_cell hgd ty x y ho g i _ hx hy e _ hg hc hinf rfl rfl fun w' r gr => h w' (HK.upd hu gr (hs w' r) (.inl rfl))
/-- Where an append's row lies. -/
theorem append_lies (base : Nat) (t ty e : TypeId) (i : TypeInfo) (z : Value) (size bytes : Nat) (ht : P.underlying t = some (.slice e)) (hi : P.info? e = some i) (hz : i.zero = some z)
    (hsize : i.size = size) (hby : i.bytes = bytes) (hzs : z.cells.size = size) (hsz : 0 < size)
    (v : Value) (n : Nat) (xs : List Value) (hown : w.ownsRow base e size v n xs)
    (ad : Addr) (m c : Nat) (news : List Value) (hl : news.length = m * size) (hnews : ∀ j u, news[j]? = some u → w.cell? (ad.add j) = some u) (h1 : ∀ u ∈ news, u.oneCell' = true)
    (h63 : n + m ≤ maxLen) (hbytes : (n + m) * bytes ≤ 140737488355328) (v' : Value) (w' : World) (hr : (Builtin.append_ #[t, t] ty #[v, .slice (some ad) m c]).run P w = .ok v' w') :
    v'.ownBlock = v.ownBlock ∨ ∀ p, v'.ownBlock = some p → w.heap.size ≤ p := by
  subst hsize
  subst hby
  have hsmall : n + m ≤ 9223372036854775807 := by simp only [maxLen] at h63; omega
  have hlen : xs.length = n * i.size := hown.1
  rcases hown.2 with ⟨rfl, rfl⟩ | ⟨g, cap, cur, rfl, hbg, hg, hnc, hcm, hcs, htake⟩
  · have hx : xs = [] := List.eq_nil_of_length_eq_zero (by simpa using hown.1)
    subst hx
    obtain ⟨v2, w2, hr2, ho2, -, -⟩ := run_append_own (P := P) w w.heap.size t ty e i z i.size i.bytes ht hi hz rfl rfl hzs hsz (.slice none 0 0) 0 [] (World.ownsRow_nil w _ e i.size) ad m c news hl hnews h1 h63 hbytes (Nat.le_refl _)
    rw [hr2] at hr
    injection hr with e1 e2
    subst e1 e2
    exact .inr fun p hp => (World.ownsRow.lt ho2 p hp).1
  · by_cases hroom : n + m ≤ cap
    · have hfit : n * i.size + news.length ≤ cur.size := by rw [hl, hcs, ← Nat.add_mul]; exact Nat.mul_le_mul_right _ hroom
      have hr2 := run_append_room (P := P) w t ty e i ht hi g n cap cur hg ad m c news hl hnews h1 hroom hfit
      rw [hr2] at hr
      injection hr with e1 e2
      subst e1
      exact .inl rfl
    · have holds : ∀ j u, xs[j]? = some u → w.cell? ((⟨g, 0, none⟩ : Addr).add j) = some u := hown.cells (g := g) rfl
      have hr2 := run_append_grow (P := P) w t ty e i z ht hi hz ⟨g, 0, none⟩ n cap xs hown.1 holds ad m c news hl hnews (by omega) (by omega) (growslice_fits (by omega) hbytes)
      rw [hr2] at hr
      injection hr with e1 e2
      subst e1
      exact .inr fun p hp => by simp [Value.ownBlock] at hp; omega
theorem Has.of_del {x : It} {L L' : List It} (h : Del x L L') : Has x L := by
  induction h with
  | here r => exact .here _
  | next y _ ih => exact .next _ ih
theorem Del.perm {x : It} {L L' : List It} (h : Del x L L') : L.Perm (x :: L') := by
  induction h with
  | here r => exact .refl _
  | next y _ ih => exact (ih.cons y).trans (.swap ..)
/-- A thing brought to the head. -/
theorem Own.front (HK : Own w0 w L) {x : It} (hd : Del x L L') : Own w0 w (x :: L') :=
  ⟨HK.grown, fun y hy => HK.has y (hd.perm.mem_iff.2 hy), (hd.perm.pairwise_iff (fun h p hp hq => h p hq hp)).1 HK.apart⟩
theorem Own.turn (HK : Own w0 w L) {x x' : It} {w' : World} (hd : Del x L L') (g : w.grownBy w' x.foot) (hx : x'.has w0.heap.size w') (hf : x'.foot = x.foot ∨ ∀ p, x'.foot = some p → w.heap.size ≤ p) : Own w0 w' (x' :: L') :=
  (HK.front hd).upd (.here _) g hx hf
/-- 'append' of numbers onto a slice of the call's own. -/
theorem wpList_app_own (hgd : op.guard = none) (HK : Own w0 w L) (s x : Operand) (t : TypeId) (ho : op.op = .call { callee := .builtin .append, args := #[s, x], argTypes := #[t, t] })
    (e : TypeId) (z : Value) (bytes : Nat) (ht : P.underlying t = some (.slice e)) (hinf : (P.info? e).map (fun i => (i.zero, i.size, i.bytes)) = some (some z, 1, bytes)) (hzs : z.cells.size = 1)
    (k : IntKind) (ad : Option Addr) (n c : Nat) (xs : List Int) (hs : a.eval s = .slice ad n c) (hd : Del (.sl e k ad n c xs) L L') (sv : Value) (m : Nat) (news : List Int) (hx : a.eval x = sv) (hm : news.length = m) (hsrc : Src w sv (news.map (Value.int k)))
    (h63 : n + m ≤ maxLen) (hbytes : (n + m) * bytes ≤ 140737488355328)
    (h : ∀ a' c' w', Own w0 w' (.sl e k a' (n + m) c' (xs ++ news) :: L') → wpList P ops Q rest (a.put op.dst (.slice a' (n + m) c')) w') : wpList P ops Q (op :: rest) a w := by
  have hown : w.ownsRow w0.heap.size e 1 (.slice ad n c) n (xs.map (Value.int k)) := HK.get (Has.of_del hd)
  obtain ⟨i, hi, hz, hsize, hby⟩ := info_parts hinf
  have hlm : (news.map (Value.int k)).length = m := by rw [List.length_map, hm]
  rcases hsrc with ⟨hv, hnil⟩ | ⟨src, cs, hv, hc⟩
  · have hn0 : news = [] := List.map_eq_nil_iff.1 hnil
    subst hn0
    have hm0 : m = 0 := by rw [← hm]; rfl
    subst hm0
    exact wpList_append_own_none hgd s x t ho w0.heap.size e i 1 ht hi _ n _ hs hown (hx.trans hv) (by simpa using h ad c w (by simpa using HK.front hd))
  · rw [hlm] at hv
    have h1 : ∀ u ∈ news.map (Value.int k), u.oneCell' = true := fun u hu => by
      obtain ⟨y, -, rfl⟩ := List.mem_map.1 hu
      rfl
    have hl1 : (news.map (Value.int k)).length = m * 1 := by rw [hlm, Nat.mul_one]
    refine wpList_plain hgd fun K hK => ?_
    obtain ⟨v', w', hr, ho', hg', -⟩ := run_append_own (P := P) w w0.heap.size t op.type e i z 1 bytes ht hi hz hsize hby hzs (by decide) _ n _ hown src m cs _ hl1 hc h1 h63 hbytes HK.base
    have hf := append_lies (P := P) w0.heap.size t op.type e i z 1 bytes ht hi hz hsize hby hzs (by decide) _ n _ hown src m cs _ hl1 hc h1 h63 hbytes v' w' hr
    unfold Oper.wp execOp
    simp only [ho, resolve, invoke, builtin, Sem.run_bind, Sem.run_pure, Result.andThen_ok, List.map_toArray, List.map_cons, List.map_nil, hs, hx, hv, hr]
    obtain ⟨a', c', rfl⟩ := own_slice ho'
    rw [← List.map_append] at ho'
    exact hK _ _ (h a' c' w' (HK.turn (x' := .sl e k a' (n + m) c' (xs ++ news)) hd hg' ho' hf))
/-- 'append(s, y)' of one number, its little row just made. -/
theorem wpList_push_own (hgd : op.guard = none) (HK : Own w0 w L) (s x : Operand) (t : TypeId) (ho : op.op = .call { callee := .builtin .append, args := #[s, x], argTypes := #[t, t] })
    (e : TypeId) (z : Value) (bytes : Nat) (ht : P.underlying t = some (.slice e)) (hinf : (P.info? e).map (fun i => (i.zero, i.size, i.bytes)) = some (some z, 1, bytes)) (hzs : z.cells.size = 1)
    (k : IntKind) (ad : Option Addr) (n c : Nat) (xs : List Int) (hs : a.eval s = .slice ad n c) (hd : Del (.sl e k ad n c xs) L L') (y : Int) (T : TypeId) (cs : Nat) (hx : a.eval x = .slice (some ⟨w.heap.size, 0, none⟩) 1 cs)
    (h63 : n + 1 ≤ maxLen) (hbytes : (n + 1) * bytes ≤ 140737488355328)
    (h : ∀ a' c' w', Own w0 w' (.sl e k a' (n + 1) c' (xs ++ [y]) :: L') → wpList P ops Q rest (a.put op.dst (.slice a' (n + 1) c')) w') : wpList P ops Q (op :: rest) a (w.alloc (.cells #[.int k y] T (0, 0))) :=
  wpList_app_own hgd (HK.grow (World.grownBy_alloc w _ none)) s x t ho e z bytes ht hinf hzs k ad n c xs hs hd _ 1 [y] hx rfl (.inr ⟨⟨w.heap.size, 0, none⟩, cs, rfl, fun j u hu => by
    have hj : j = 0 := by have := (List.getElem?_eq_some_iff.1 hu).1; simpa using this
    subst hj
    have : u = .int k y := by simpa using hu.symm
    subst this
    rw [Addr.add_mid, Nat.zero_add]
    exact row_cell (T := T) (alloc_at w (.cells #[.int k y] T (0, 0)) rfl) 0 (.int k y) rfl⟩) h63 hbytes h
/-- 'make([]T, n)'. -/
theorem wpList_make_own (hgd : op.guard = none) (HK : Own w0 w L) (l c : Operand) (t : TypeId) (ho : op.op = .makeSlice t l c)
    (e : TypeId) (k : IntKind) (bytes : Nat) (ht : P.underlying t = some (.slice e)) (hinf : (P.info? e).map (fun i => (i.zero, i.size, i.bytes)) = some (some (.int k 0), 1, bytes))
    (n : Nat) (N : Int) (hl : a.eval l = .int .i64 N) (hc : a.eval c = .int .i64 N) (hN : N = n) (hb : bytes * n ≤ 281474976710656) (h63 : (n : Int) ≤ 9223372036854775807)
    (h : ∀ w' p, Own w0 w' (.sl e k (some ⟨p, 0, none⟩) n n (List.replicate n 0) :: L) → wpList P ops Q rest (a.put op.dst (.slice (some ⟨p, 0, none⟩) n n)) w') : wpList P ops Q (op :: rest) a w :=
  wpList_make_zeros hgd l c t ho e _ bytes ht hinf rfl n N hl hc hN hb h63 fun w' hr g =>
    h w' _ (HK.add (x := .sl e k (some ⟨w.heap.size, 0, none⟩) n n (List.replicate n 0)) g ⟨by simp, .inr ⟨w.heap.size, n, _, rfl, HK.base, hr, Nat.le_refl _, by unfold maxLen; omega, by simp, by simp⟩⟩ (fun p hp => by simp [It.foot, Value.ownBlock] at hp; omega))
end

theorem Own.rdsl_from {w0 w : World} {L : List It} (HK : Own w0 w L) {e : TypeId} {k : IntKind} {g n c : Nat} {s : List Int} (hx : Has (.sl e k (some ⟨g, 0, none⟩) n c s) L) (o m : Nat) (ho : o ≤ n) (hm : n - o = m) : Rd k w (some ⟨g, o, none⟩) m (s.drop o) := by
  have hl := HK.lensl hx
  refine ⟨by rw [List.length_drop, hl, hm], fun i hi => ⟨_, rfl, ?_⟩⟩
  rw [Addr.add_mid, HK.cellsl hx (o + i) (by omega), List.getD_eq_getElem?_getD, List.getD_eq_getElem?_getD, List.getElem?_drop]
theorem results_own {P : Program} {fn : Func} {p : Tmp} {ty : TypeId} (h : fn.results = #[.cell p ty]) (tmps : Array Value) {w0 w : World} {L : List It} (HK : Own w0 w L) (g : Nat) (hp : tmps.getD p undef = .pointer (some ⟨g, 0, none⟩))
    {k : IntKind} {T : TypeId} {n : Nat} {s : List Int} (hm : Has (.ints g k T n s) L) (d : TypeDesc) (hu : P.underlying ty = some d) (hd : (match d with | .struct _ | .array _ _ => true | _ => false) = true) (hi : (P.info? ty).map (·.size) = some n) :
    (results fn tmps).run P w = .ok (.agg (encK k s)) w := results_cell_row h tmps w g T _ (0, 0) d hp (HK.row hm) hu hd (by rw [size_encK, HK.len hm]; exact hi)

/-! In regions that draw. -/
section
variable {P : Program} {ops : Array Oper} {Q : Exit → Act → World → Prop} {fs : List Fl} {n0 : Nat} {j : Nat} {r : List (Nat × Nat)} {a : Act} {w w0 : World} {o : Oper} {L L' : List It}
theorem gSeq_own {l : List (Nat × Nat)} {w : World} (HK : Own w0 w L) (h : ∀ w', Own w0 w' L → w.grownBy w' none → w.heap.size = w'.heap.size → gSeq P ops Q fs n0 l a w') : gSeq P ops Q fs n0 l a w.drew := h _ (HK.grow (grown_drew w none)) (grown_drew w none) rfl
theorem gSeq_get_row (ho : nthO ops.toList j = some o) (hw : Region.wanted o (yielded ops a.tmps) = true) (HK : Own w0 w L) (ty : TypeId) (x : Operand) (hop : o.op = .load ty x) (p : Nat) (hx : a.eval x = .pointer (some ⟨p, 0, none⟩))
    (k : IntKind) (T : TypeId) (n : Nat) (s : List Int) (hm : Has (.ints p k T n s) L) (d : TypeDesc) (hu : P.underlying ty = some d) (hd : (match d with | .struct _ | .array _ _ => true | _ => false) = true) (hi : (P.info? ty).map (·.size) = some n)
    (h : gSeq P ops Q fs n0 r (a.put o.dst (.agg (encK k s))) w) : gSeq P ops Q fs n0 ((1, j) :: r) a w :=
  gSeq_row ho hw ty x hop p hx T _ (0, 0) d (HK.row hm) hu hd (by rw [size_encK, HK.len hm]; exact hi) h
theorem gSeq_get_int (ho : nthO ops.toList j = some o) (hw : Region.wanted o (yielded ops a.tmps) = true) (HK : Own w0 w L) (ty : TypeId) (x : Operand) (hop : o.op = .load ty x) (p i : Nat) (hx : a.eval x = .pointer (some ⟨p, i, none⟩))
    (k : IntKind) (T : TypeId) (n : Nat) (s : List Int) (hm : Has (.ints p k T n s) L) (hud : P.underlying ty = some (.int k)) (hi : i < n)
    (h : gSeq P ops Q fs n0 r (a.put o.dst (.int k (s.getD i 0))) w) : gSeq P ops Q fs n0 ((1, j) :: r) a w :=
  gSeq_still ho hw _ (fun w' hG => exec_load_cell hop hx hud (hG.cell (rowK_at (HK.row hm) i (by rw [HK.len hm]; exact hi)) (by simp))) h
theorem gSeq_get_sl (ho : nthO ops.toList j = some o) (hw : Region.wanted o (yielded ops a.tmps) = true) (HK : Own w0 w L) (ty : TypeId) (x : Operand) (hop : o.op = .load ty x) (g i : Nat) (hx : a.eval x = .pointer (some ⟨g, i, none⟩))
    (e : TypeId) (k : IntKind) (n c : Nat) (s : List Int) (hm : Has (.sl e k (some ⟨g, 0, none⟩) n c s) L) (hud : P.underlying ty = some (.int k)) (hi : i < n)
    (h : gSeq P ops Q fs n0 r (a.put o.dst (.int k (s.getD i 0))) w) : gSeq P ops Q fs n0 ((1, j) :: r) a w :=
  gSeq_still ho hw _ (fun w' hG => exec_load_cell hop hx hud (hG.cell (HK.cellsl hm i hi) (by simp))) h
theorem gSeq_get_cell (ho : nthO ops.toList j = some o) (hw : Region.wanted o (yielded ops a.tmps) = true) (ty : TypeId) (x : Operand) (hop : o.op = .load ty x) (ad : Addr) (hx : a.eval x = .pointer (some ad))
    (k : IntKind) (v : Int) (hc : w.cell? ad = some (.int k v)) (hud : P.underlying ty = some (.int k))
    (h : gSeq P ops Q fs n0 r (a.put o.dst (.int k v)) w) : gSeq P ops Q fs n0 ((1, j) :: r) a w :=
  gSeq_still ho hw _ (fun w' hG => exec_load_cell hop hx hud (hG.cell hc (by simp))) h
theorem Has.of_upd {x x' : It} {L L' : List It} (h : Upd x x' L L') : Has x L := by
  induction h with
  | here r => exact .here _
  | next y _ ih => exact .next _ ih
theorem gSeq_put_int (ho : nthO ops.toList j = some o) (hw : Region.wanted o (yielded ops a.tmps) = true) (HK : Own w0 w L) (ty : TypeId) (x y : Operand) (hop : o.op = .store ty x y) (p i : Nat) (k : IntKind) (v : Int) (hx : a.eval x = .pointer (some ⟨p, i, none⟩)) (hy : a.eval y = .int k v)
    (T : TypeId) (n : Nat) (s : List Int) (hu : Upd (.ints p k T n s) (.ints p k T n (s.set i v)) L L') (hi : i < n) (hinf : (P.info? ty).map (·.size) = some 1)
    (h : ∀ w', Own w0 w' L' → gSeq P ops Q fs n0 r (a.put o.dst undef) w') : gSeq P ops Q fs n0 ((3, j) :: r) a w := by
  have hm := HK.get (Has.of_upd hu)
  exact gSeq_store ho hw ty x y hop p i _ hx hy T _ hm.2.1 (by rw [size_encK, hm.2.2]; exact hi) hinf rfl rfl fun w' r g => h w' (HK.upd hu g ⟨hm.1, rowK_set r, by rw [List.length_set]; exact hm.2.2⟩ (.inl rfl))
theorem gSeq_put_sl (ho : nthO ops.toList j = some o) (hw : Region.wanted o (yielded ops a.tmps) = true) (HK : Own w0 w L) (ty : TypeId) (x y : Operand) (hop : o.op = .store ty x y) (g i : Nat) (k : IntKind) (v : Int) (hx : a.eval x = .pointer (some ⟨g, i, none⟩)) (hy : a.eval y = .int k v)
    (e : TypeId) (n c : Nat) (s : List Int) (hu : Upd (.sl e k (some ⟨g, 0, none⟩) n c s) (.sl e k (some ⟨g, 0, none⟩) n c (s.set i v)) L L') (hi : i < n) (hinf : (P.info? ty).map (·.size) = some 1)
    (h : ∀ w', Own w0 w' L' → gSeq P ops Q fs n0 r (a.put o.dst undef) w') : gSeq P ops Q fs n0 ((3, j) :: r) a w := by
  obtain ⟨cur, hg, hc, hs⟩ := sl_set (v := v) HK (Has.of_upd hu) hi
  exact gSeq_store ho hw ty x y hop g i _ hx hy e _ hg hc hinf rfl rfl fun w' r gr => h w' (HK.upd hu gr (hs w' r) (.inl rfl))
theorem gSeq_put_row (ho : nthO ops.toList j = some o) (hw : Region.wanted o (yielded ops a.tmps) = true) (HK : Own w0 w L) (ty : TypeId) (x y : Operand) (hop : o.op = .store ty x y) (p : Nat) (k : IntKind) (s' : List Int) (hx : a.eval x = .pointer (some ⟨p, 0, none⟩)) (hy : a.eval y = .agg (encK k s'))
    (T : TypeId) (n : Nat) (s : List Int) (hu : Upd (.ints p k T n s) (.ints p k T n s') L L') (hs' : s'.length = n) (hinf : (P.info? ty).map (·.size) = some n)
    (h : ∀ w', Own w0 w' L' → gSeq P ops Q fs n0 r (a.put o.dst undef) w') : gSeq P ops Q fs n0 ((3, j) :: r) a w := by
  have hm := HK.get (Has.of_upd hu)
  refine gSeq_store_range ho hw ty x y hop p 0 _ hx hy T _ hm.2.1 (by rw [size_encK, size_encK, hm.2.2, hs']; omega) (by rw [size_encK, hs']; exact hinf) (one_encK _ _) fun w' r g => h w' (HK.upd hu g ⟨hm.1, ?_, hs'⟩ (.inl rfl))
  rw [putAt_all _ _ (by rw [Array.length_toList, size_encK, size_encK, hm.2.2, hs'])] at r
  exact r
end
end Go.Proofs.YtmankjhopfilaaaL
