/- copy of numbers into a block known whole. -/
import Derived.Test.YtmankjhopfilaaaRow
import Derived.Laws.CopyRow
import Derived.Laws.IdiomCopy
import Derived.Laws.CopyOwn
namespace Go.Proofs.YtmankjhopfilaaaL
set_option linter.unusedVariables false
set_option linter.unusedSimpArgs false
open Go.RowKit
theorem run_copy_ints {P : Program} (w : World) (dT sT ty elem : TypeId) (g o dLen dCap : Nat) (ad : Option Addr) (sLen sCap : Nat) (cur : List Int) (t : TypeId) (k : IntKind) (xs : List Int) (hr : Rd k w ad sLen xs)
    (hu : P.underlying dT = some (.slice elem)) (hs : (P.info? elem).map (·.size) = some 1) (hg : w.heap[g]? = some (.cells (encK k cur) t (0, 0))) (n : Nat) (hn : n = min sLen dLen) (hfit : o + n ≤ cur.length) :
    ∃ w', (Builtin.copy_ #[dT, sT] ty #[.slice (some ⟨g, o, none⟩) dLen dCap, .slice ad sLen sCap]).run P w = .ok (goInt n) w' ∧ w'.heap[g]? = some (.cells (encK k (cur.take o ++ xs.take n ++ cur.drop (o + n))) t (0, 0)) ∧ w.grownBy w' (some g) := by
  by_cases h0 : n = 0
  · subst h0
    refine ⟨w, ?_, ?_, grown_refl w _⟩
    · exact run_copy_none w dT sT ty elem _ _ dLen dCap sLen sCap hu hs (by show min sLen dLen = 0; omega)
    · rw [hg]; simp
  · obtain ⟨x, hx, -⟩ := hr.2 0 (by omega)
    subst hx
    have hlen : ((xs.take n).map (Value.int k)).length = n := by rw [List.length_map, List.length_take, hr.1]; omega
    have h := run_copy_row (P := P) w dT sT ty elem g o dLen dCap x sLen sCap (encK k cur) t ((xs.take n).map (Value.int k)) hu hs hg (by rw [hlen]; exact hn) (fun j v hj => by
      rw [List.getElem?_map, Option.map_eq_some_iff] at hj
      obtain ⟨y, hy, rfl⟩ := hj
      have hjn : j < n := by
        have := (List.getElem?_eq_some_iff.1 hy).1
        rw [List.length_take] at this; omega
      obtain ⟨x', hx', hc⟩ := hr.2 j (by omega)
      injection hx' with hx'
      rw [hx', hc, List.getD_eq_getElem?_getD]
      rw [List.getElem?_take, if_pos hjn] at hy
      rw [hy]; rfl) (by rw [hlen, size_encK]; exact hfit) (fun v hv => by
      obtain ⟨y, -, rfl⟩ := List.mem_map.1 hv
      rfl)
    rw [hlen] at h
    refine ⟨_, h, ?_, ⟨rfl, rfl, rfl, (by simp [World.setRow]), fun j _ hj => setRow_other w g j _ (fun e => hj (by rw [e]))⟩⟩
    have := setRow_heap w g _ ((encK k cur).toList.take o ++ (xs.take n).map (Value.int k) ++ (encK k cur).toList.drop (o + n)).toArray t _ hg
    rw [this]
    congr 2
    simp [encK, List.map_take, List.map_drop]
section
variable {P : Program} {ops : Array Oper} {Q : Exit → Act → World → Prop} {fs : List Fl} {n0 : Nat} {j : Nat} {r : List (Nat × Nat)} {a : Act} {w : World} {op : Oper} {rest : List Oper}
theorem gSeq_copy (ho : nthO ops.toList j = some op) (hw : Region.wanted op (yielded ops a.tmps) = true) (d s : Operand) (dT sT : TypeId) (hop : op.op = .call { callee := .builtin .copy, args := #[d, s], argTypes := #[dT, sT] })
    (elem g o dLen dCap : Nat) (ad : Option Addr) (sLen sCap : Nat) (cur : List Int) (t : TypeId) (k : IntKind) (xs : List Int) (hu : P.underlying dT = some (.slice elem)) (hs : (P.info? elem).map (·.size) = some 1)
    (hd : a.eval d = .slice (some ⟨g, o, none⟩) dLen dCap) (hsv : a.eval s = .slice ad sLen sCap) (hr : Rd k w ad sLen xs) (hg : w.heap[g]? = some (.cells (encK k cur) t (0, 0))) (n : Nat) (hn : n = min sLen dLen) (hfit : o + n ≤ cur.length)
    (h : ∀ w', w'.heap[g]? = some (.cells (encK k (cur.take o ++ xs.take n ++ cur.drop (o + n))) t (0, 0)) → w.grownBy w' (some g) → gSeq P ops Q fs n0 r (a.put op.dst (goInt n)) w') : gSeq P ops Q fs n0 ((3, j) :: r) a w :=
  gSeq_write ho hw fun K hK => by
    obtain ⟨w', h1, h2, h3⟩ := run_copy_ints (P := P) w dT sT op.type elem g o dLen dCap ad sLen sCap cur t k xs hr hu hs hg n hn hfit
    unfold Oper.wp execOp
    simp only [hop, resolve, invoke, builtin, Sem.run_bind, Sem.run_pure, Result.andThen_ok, List.map_toArray, List.map_cons, List.map_nil, hd, hsv, h1]
    exact hK _ _ (h w' h2 h3)
theorem wpList_copy_ints (hgd : op.guard = none) (d s : Operand) (dT sT : TypeId) (hop : op.op = .call { callee := .builtin .copy, args := #[d, s], argTypes := #[dT, sT] })
    (elem g o dLen dCap : Nat) (ad : Option Addr) (sLen sCap : Nat) (cur : List Int) (t : TypeId) (k : IntKind) (xs : List Int) (hu : P.underlying dT = some (.slice elem)) (hs : (P.info? elem).map (·.size) = some 1)
    (hd : a.eval d = .slice (some ⟨g, o, none⟩) dLen dCap) (hsv : a.eval s = .slice ad sLen sCap) (hr : Rd k w ad sLen xs) (hg : w.heap[g]? = some (.cells (encK k cur) t (0, 0))) (n : Nat) (hn : n = min sLen dLen) (hfit : o + n ≤ cur.length)
    (h : ∀ w', w'.heap[g]? = some (.cells (encK k (cur.take o ++ xs.take n ++ cur.drop (o + n))) t (0, 0)) → w.grownBy w' (some g) → wpList P ops Q rest (a.put op.dst (goInt n)) w') : wpList P ops Q (op :: rest) a w :=
  wpList_plain hgd fun K hK => by
    obtain ⟨w', h1, h2, h3⟩ := run_copy_ints (P := P) w dT sT op.type elem g o dLen dCap ad sLen sCap cur t k xs hr hu hs hg n hn hfit
    unfold Oper.wp execOp
    simp only [hop, resolve, invoke, builtin, Sem.run_bind, Sem.run_pure, Result.andThen_ok, List.map_toArray, List.map_cons, List.map_nil, hd, hsv, h1]
    exact hK _ _ (h w' h2 h3)
end
end Go.Proofs.YtmankjhopfilaaaL
