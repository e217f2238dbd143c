/- A region that draws its order and whose calls only make memory (nothing that was there is written): ONE walk serves every order: all that only reads is taken as soon as it may come up, a call when nothing else may. (The library's law on regions with held conditions, turned to worlds that have grown.) -/
import Derived.OrdersHeld
import Derived.BigRegion
import Derived.WalkKit
import Derived.Test.YtfhopjkpefclpaaArr
namespace Go.Proofs.YtfhopjkpefclpaaL
set_option linter.unusedVariables false
set_option linter.unusedSimpArgs false
section
variable {P : Program} {ops : Array Oper} {Q : Exit → Act → World → Prop} {md : Region.Mode}

def wpAnyG (P : Program) (md : Region.Mode) (ops : Array Oper) (Q : Exit → Act → World → Prop) : Nat → Array Bool → Act → World → Prop
  | 0, listed, a, w => Region.ready md ops listed = [] ∧ Q .normal a w
  | fuel + 1, listed, a, w =>
    (Region.ready md ops listed = [] → Q .normal a w) ∧
    ∀ i ∈ Region.ready md ops listed, wpOp P ops Q i (fun a' w' => w.grownBy w' none ∧ wpAnyG P md ops Q fuel (listed.setIfInBounds i true) a' w') a w

theorem wpAny_of_grow : ∀ (fuel : Nat) (listed : Array Bool) (a : Act) (w : World), wpAnyG P md ops Q fuel listed a w → wpAny P md ops Q fuel listed a w
  | 0, _, _, _, h => h
  | fuel + 1, _, _, _, h => ⟨h.1, fun i hi => wpOp_mono (fun a' w' h' => wpAny_of_grow fuel _ a' w' h'.2) (h.2 i hi)⟩

theorem yieldsIf_grown {o : Oper} {v : Value} {a : Act} {w w' : World} (h : YieldsIf P ops (fun u => w.grownBy u none) o v a) (g : w.grownBy w' none) : YieldsIf P ops (fun u => w'.grownBy u none) o v a := by
  rcases h with ⟨hw, h⟩ | h
  · exact .inl ⟨hw, fun u hu => h u (grown_trans g hu)⟩
  · exact .inr h

theorem wpAnyG_first {i : Nat} {oi : Oper} {v : Value} (hi : ops[i]? = some oi) (hsel : ∀ (j : Nat) (o : Oper) cs b, ops[j]? = some o → o.op ≠ .select cs b)
    (hQ : ∀ c a w, Q (.panic c) (a.put oi.dst v) w → Q (.panic c) a w) :
    ∀ (fuel : Nat) (listed : Array Bool) (a : Act) (w : World),
      (∀ j oj, ops[j]? = some oj → j ≠ i → listed.getD j true = false → (∀ e ∈ oj.after, Region.binds md e = true → e.on ≠ i) → oi.apart ops oj = true) →
      i ∈ Region.ready md ops listed → YieldsIf P ops (fun u => w.grownBy u none) oi v a →
      wpAnyG P md ops Q fuel (listed.setIfInBounds i true) (a.put oi.dst v) w → wpAnyG P md ops Q (fuel + 1) listed a w := by
  intro fuel
  induction fuel with
  | zero =>
    intro listed a w _ hr hy H
    refine ⟨fun h => (by rw [h] at hr; cases hr), fun j hj => ?_⟩
    by_cases hji : j = i
    · subst hji; exact hy.wpOp hi (grown_refl w none) ⟨grown_refl w none, H⟩
    · have := ready_mono hj hji
      rw [H.1] at this
      cases this
  | succ fuel ih =>
    intro listed a w hfree hr hy H
    refine ⟨fun h => (by rw [h] at hr; cases hr), fun j hj => ?_⟩
    by_cases hji : j = i
    · subst hji; exact hy.wpOp hi (grown_refl w none) ⟨grown_refl w none, H⟩
    · have h1 := H.2 j (ready_mono hj hji)
      obtain ⟨hjun, oj, hoj, hall⟩ := mem_ready.1 hj
      have hnot : ∀ e ∈ oj.after, Region.binds md e = true → e.on ≠ i := fun e he hb heq => by
        have h1 := hall e he hb
        have h0 := (mem_ready.1 hr).1
        rw [heq] at h1
        rcases Nat.lt_or_ge i listed.size with h' | h'
        · simp [h'] at h0 h1; rw [h0] at h1; cases h1
        · simp [Array.getElem?_eq_none h'] at h1
      have h2 := wpOp_putIf hoj (hfree j oj hoj hji hjun hnot) (fun cs b => hsel i oi cs b hi) (fun cs b => hsel j oj cs b hoj) hQ hy h1
      have hfree' : ∀ k ok, ops[k]? = some ok → k ≠ i → (listed.setIfInBounds j true).getD k true = false →
          (∀ e ∈ ok.after, Region.binds md e = true → e.on ≠ i) → oi.apart ops ok = true := fun k ok hk hki hun hno => by
        refine hfree k ok hk hki ?_ hno
        by_cases hjk : j = k
        · subst hjk; exact hjun
        · rw [getD_set_ne true hjk] at hun; exact hun
      refine wpOp_mono (fun a' w' h3 => ⟨h3.2.1, ih (listed.setIfInBounds j true) a' w' hfree' (ready_mono hr (Ne.symm hji)) (yieldsIf_grown h3.1 h3.2.1) ?_⟩) h2
      rw [Array.setIfInBounds_comm _ _ hji]
      exact h3.2.2

/-- One order: 'true': an operation that only reads; 'false': one that may make memory. -/
def gSeq0 (P : Program) (ops : Array Oper) (Q : Exit → Act → World → Prop) : List (Bool × Nat) → Act → World → Prop
  | [], a, w => Q .normal a w
  | (s, i) :: r, a, w => match ops[i]? with
    | none => False
    | some o => if Region.wanted o (yielded ops a.tmps) = true then
        (if s = true then ∃ v, (∀ w', w.grownBy w' none → (execOp a.eval o).run P w' = .ok (.value v) w') ∧ gSeq0 P ops Q r (a.put o.dst v) w
         else o.wp P a w (fun a' w' => w.grownBy w' none ∧ gSeq0 P ops Q r a' w') Q)
      else gSeq0 P ops Q r (a.put o.dst undef) w
/-- Is it an order that serves all? -/
def gCheck (md : Region.Mode) (ops : Array Oper) : List (Bool × Nat) → Array Bool → Bool
  | [], listed => Region.ready md ops listed == []
  | (true, i) :: r, listed => (Region.ready md ops listed).contains i && (Region.free md ops listed i && gCheck md ops r (listed.setIfInBounds i true))
  | (false, i) :: r, listed => Region.ready md ops listed == [i] && gCheck md ops r (listed.setIfInBounds i true)

theorem putQ (hQ : ∀ c a (d : Tmp) v w, Q (.panic c) (a.put (some d) v) w → Q (.panic c) a w) : ∀ c a (d : Option Tmp) v w, Q (.panic c) (a.put d v) w → Q (.panic c) a w
  | c, a, none, v, w, h => h
  | c, a, some d, v, w, h => hQ c a d v w h
theorem wpAnyG_of_seq (hs : Region.noSelect ops = true) (hQ : ∀ c a (d : Tmp) v w, Q (.panic c) (a.put (some d) v) w → Q (.panic c) a w) :
    ∀ (l : List (Bool × Nat)) (listed : Array Bool) (a : Act) (w : World), gCheck md ops l listed = true → gSeq0 P ops Q l a w → wpAnyG P md ops Q l.length listed a w
  | [], listed, a, w, hc, h => ⟨by simpa [gCheck] using hc, h⟩
  | (true, i) :: r, listed, a, w, hc, h => by
    simp only [gCheck, Bool.and_eq_true] at hc
    obtain ⟨h1, h2, h3⟩ := hc
    cases hi : ops[i]? with
    | none => simp [gSeq0, hi] at h
    | some o =>
      simp only [gSeq0, hi] at h
      have hr : i ∈ Region.ready md ops listed := by simpa using h1
      by_cases hw : Region.wanted o (yielded ops a.tmps) = true
      · simp only [hw, if_true] at h
        obtain ⟨v, hv, hk⟩ := h
        exact wpAnyG_first hi (Region.noSelect_spec hs) (fun c a w => putQ hQ c a _ _ w) _ _ _ _ (Region.free_spec hi h2) hr (.inl ⟨hw, hv⟩) (wpAnyG_of_seq hs hQ r _ _ _ h3 hk)
      · simp only [hw] at h
        exact wpAnyG_first hi (Region.noSelect_spec hs) (fun c a w => putQ hQ c a _ _ w) _ _ _ _ (Region.free_spec hi h2) hr (.inr ⟨by simpa using hw, rfl⟩) (wpAnyG_of_seq hs hQ r _ _ _ h3 h)
  | (false, i) :: r, listed, a, w, hc, h => by
    simp only [gCheck, Bool.and_eq_true, beq_iff_eq] at hc
    obtain ⟨h1, h3⟩ := hc
    refine ⟨fun h0 => (by rw [h1] at h0; cases h0), fun j hj => ?_⟩
    rw [h1] at hj
    have : j = i := by simpa using hj
    subst this
    unfold wpOp
    cases hi : ops[j]? with
    | none => simp [gSeq0, hi] at h
    | some o =>
      simp only [gSeq0, hi] at h
      by_cases hw : Region.wanted o (yielded ops a.tmps) = true
      · simp only [hw, if_true] at h ⊢
        exact .inl (Oper.wp_mono (fun a' w' hk => ⟨hk.1, wpAnyG_of_seq hs hQ r _ _ _ h3 hk.2⟩) h)
      · simp only [hw] at h ⊢
        exact ⟨grown_refl w none, wpAnyG_of_seq hs hQ r _ _ _ h3 h⟩

/-- The order, closed: no tactic looks into it. -/
structure gSeq (P : Program) (ops : Array Oper) (Q : Exit → Act → World → Prop) (l : List (Bool × Nat)) (a : Act) (w : World) : Prop where
  out : gSeq0 P ops Q l a w

theorem wp_region_grow {id : Nat} {a : Act} {w : World} (l : List (Bool × Nat)) (hm : P.follows .mixedOrders = true)
    (hB : (Region.noSelect ops && (l.length == ops.size && gCheck .any ops l (Array.replicate ops.size false))) = true) (hQ : ∀ c a (d : Tmp) v w, Q (.panic c) (a.put (some d) v) w → Q (.panic c) a w)
    (h : gSeq P ops Q l a w.drew) : (Code.region id ops true).wp P Q a w := by
  simp only [Bool.and_eq_true, beq_iff_eq] at hB
  obtain ⟨h1, h2, h3⟩ := hB
  refine wp_region_any hm (wpAny_of_grow _ _ _ _ ?_)
  rw [← h2]
  exact wpAnyG_of_seq h1 hQ l _ _ _ (by rw [h2]; exact h3) h.out

/-! The steps. -/
/-- Operation number i, by looking. -/
def nthO : List Oper → Nat → Option Oper
  | [], _ => none
  | o :: _, 0 => some o
  | _ :: l, n + 1 => nthO l n
theorem nthO_eq : ∀ (l : List Oper) (i : Nat), nthO l i = l[i]?
  | [], _ => by simp [nthO]
  | o :: l, 0 => by simp [nthO]
  | o :: l, n + 1 => by simp [nthO, nthO_eq l n]
theorem nthO_get {i : Nat} {o : Oper} (h : nthO ops.toList i = some o) : ops[i]? = some o := by
  rw [nthO_eq] at h; simpa using h
section
variable {i : Nat} {r : List (Bool × Nat)} {a : Act} {w : World} {o : Oper} {s : Bool}
theorem gSeq_nil (h : Q .normal a w) : gSeq P ops Q [] a w := ⟨h⟩
theorem gSeq_skip (ho : nthO ops.toList i = some o) (hw : Region.wanted o (yielded ops a.tmps) = false) (h : gSeq P ops Q r (a.put o.dst undef) w) : gSeq P ops Q ((s, i) :: r) a w := by
  refine ⟨?_⟩
  simp only [gSeq0, nthO_get ho, hw]; exact h.out
theorem gSeq_still (ho : nthO ops.toList i = some o) (hw : Region.wanted o (yielded ops a.tmps) = true) (v : Value) (hv : ∀ w', w.grownBy w' none → (execOp a.eval o).run P w' = .ok (.value v) w')
    (h : gSeq P ops Q r (a.put o.dst v) w) : gSeq P ops Q ((true, i) :: r) a w := by
  refine ⟨?_⟩
  simp only [gSeq0, nthO_get ho, hw, if_true]; exact ⟨v, hv, h.out⟩
theorem gSeq_move (x : Operand) (ho : nthO ops.toList i = some o) (hx : o.op = .move x) (hw : Region.wanted o (yielded ops a.tmps) = true)
    (h : gSeq P ops Q r (a.put o.dst (a.eval x)) w) : gSeq P ops Q ((true, i) :: r) a w :=
  gSeq_still ho hw _ (fun w' _ => BigFrame.run_move x hx _) h
theorem gSeq_assign (x : Operand) (ho : nthO ops.toList i = some o) (hx : o.op = .assign x) (hw : Region.wanted o (yielded ops a.tmps) = true)
    (h : gSeq P ops Q r (a.put o.dst (a.eval x)) w) : gSeq P ops Q ((true, i) :: r) a w :=
  gSeq_still ho hw _ (fun w' _ => BigFrame.run_assign x hx _) h
theorem gSeq_do (ho : nthO ops.toList i = some o) (hw : Region.wanted o (yielded ops a.tmps) = true)
    (h : ∀ K : Act → World → Prop, (∀ a' w', w.grownBy w' none → gSeq P ops Q r a' w' → K a' w') → o.wp P a w K Q) : gSeq P ops Q ((false, i) :: r) a w := by
  refine ⟨?_⟩
  simp only [gSeq0, nthO_get ho, hw, if_true]
  exact h _ fun a' w' h1 h2 => ⟨h1, h2.out⟩
/-- A load of an array or a struct from a block known whole. -/
theorem gSeq_row (ho : nthO ops.toList i = some o) (hw : Region.wanted o (yielded ops a.tmps) = true) (ty : TypeId) (x : Operand) (hop : o.op = .load ty x)
    (g : Nat) (hx : a.eval x = .pointer (some ⟨g, 0, none⟩)) (t : TypeId) (cs : Array Value) (fr : Nat × Nat) (d : TypeDesc) (hg : w.heap[g]? = some (.cells cs t fr))
    (hu : P.underlying ty = some d) (hd : (match d with | .struct _ | .array _ _ => true | _ => false) = true) (hi : (P.info? ty).map (·.size) = some cs.size)
    (h : gSeq P ops Q r (a.put o.dst (.agg cs)) w) : gSeq P ops Q ((true, i) :: r) a w :=
  gSeq_still ho hw _ (fun w' hG => by
    have hg' : w'.heap[g]? = some (.cells cs t fr) := (hG.block _ (row_lt hg) (by simp)).trans hg
    unfold execOp
    simp only [hop, hx, Instr.loadAt, Instr.sureAddr, Sem.run_bind, Sem.run_pure, Result.andThen_ok, run_loadVar_row w' g t ty cs fr d hg' hu hd hi]) h
/-- 'string(b)' of bytes. -/
theorem gSeq_string (ho : nthO ops.toList i = some o) (hw : Region.wanted o (yielded ops a.tmps) = true) (src dst : TypeId) (x : Operand) (hop : o.op = .convert src dst x)
    (e : TypeId) (hs : P.underlying src = some (.slice e)) (he : P.underlying e = some (.int .u8)) (hd : P.underlying dst = some .string)
    (ad : Option Addr) (len cap : Nat) (hx : a.eval x = .slice ad len cap) (xs : List Int) (hl : xs.length = len)
    (hc : ∀ i, i < len → ∃ x, ad = some x ∧ w.cell? (x.add i) = some (.int .u8 (xs.getD i 0)))
    (h : gSeq P ops Q r (a.put o.dst (.string (str8 xs))) w) : gSeq P ops Q ((true, i) :: r) a w :=
  gSeq_still ho hw _ (fun w' hG => by
    have hr := run_string_src w' src dst e hs he hd ad len cap xs hl (fun j hj => let ⟨x, h1, h2⟩ := hc j hj; ⟨x, h1, hG.cell h2 (by simp)⟩)
    unfold execOp
    simp only [hop, hx, Sem.run_bind, Sem.run_pure, Result.andThen_ok, hr]) h
/-- Arrays of numbers held against one another. -/
theorem gSeq_eql (ho : nthO ops.toList i = some o) (hw : Region.wanted o (yielded ops a.tmps) = true) (t : TypeId) (x y : Operand) (t' : TypeId) (hop : o.op = .binOp .eql t x y t')
    (n : Nat) (e : TypeId) (k : IntKind) (hu : P.underlying t = some (.array n e)) (he : P.underlying e = some (.int k)) (hs : (P.info? e).map (·.size) = some 1) (hg : P.eqGuardType P.depth t = false)
    (xs ys : List Int) (hx : a.eval x = .agg (encK k xs)) (hy : a.eval y = .agg (encK k ys)) (hlx : xs.length = n) (hly : ys.length = n) (b : Bool) (hb : (xs == ys) = b)
    (h : gSeq P ops Q r (a.put o.dst (.bool b)) w) : gSeq P ops Q ((true, i) :: r) a w :=
  gSeq_still ho hw _ (fun w' hG => by
    unfold execOp
    simp only [hop, hx, hy, Sem.run_bind, Sem.run_pure, run_eqGuard_agg w' _ t x y _ _ hg, Result.andThen_ok, run_eql_ints hu he hs xs ys hlx hly, hb]) h
end
end
end Go.Proofs.YtfhopjkpefclpaaL
