/- Arrays read out of slices; slices cut shorter; results of two cells. -/
import Derived.Test.YtmankjhopfilaaaSep
namespace Go.Proofs.YtmankjhopfilaaaL
set_option linter.unusedVariables false
set_option linter.unusedSimpArgs false
open Go.RowKit
section
variable {P : Program} {ops : Array Oper} {rest : List Oper} {o : Oper} {a : Act} {w w0 : World} {L L' : List It} {Q : Exit → Act → World → Prop}
/-- An operation whose run is known. -/
theorem wpList_run (hw : Region.wanted o (yielded ops a.tmps) = true) {v : Value} (hr : (execOp a.eval o).run P w = .ok (.value v) w) (h : wpList P ops Q rest (a.put o.dst v) w) : wpList P ops Q (o :: rest) a w :=
  wpList_when hw fun _ hK => by
    unfold Oper.wp
    rw [hr]
    exact hK _ _ h
theorem run_loadVar_rd {k : IntKind} {x : Addr} {n : Nat} {xs : List Int} {ty : TypeId} {e : TypeId} (h : Rd k w (some x) n xs) (hu : P.underlying ty = some (.array n e)) (hi : (P.info? ty).map (·.size) = some n) :
    (loadVar ty x).run P w = .ok (.agg (encK k xs)) w := by
  have hl : (loadCells x (xs.map (Value.int k)).length).run P w = .ok (xs.map (Value.int k)).toArray w :=
    run_loadCells_list (P := P) w x _ (fun j v hv => by
      rw [List.getElem?_map] at hv
      have hj : j < n := by
        rw [← h.1]
        cases hx : xs[j]? with
        | none => rw [hx] at hv; cases hv
        | some y => exact (List.getElem?_eq_some_iff.1 hx).1
      obtain ⟨y, hy, hc⟩ := h.2 j hj
      injection hy with hy
      subst hy
      rw [hc]
      rw [List.getD_eq_getElem?_getD]
      cases hx : xs[j]? with
      | none => rw [hx] at hv; cases hv
      | some y => rw [hx] at hv; simpa using hv)
  cases hq : P.info? ty with
  | none => simp [hq] at hi
  | some i =>
    have hs : i.size = n := by simpa [hq] using hi
    have hagg : (isAgg ty).run P w = .ok true w := by
      unfold isAgg
      rw [Sem.run_bind, run_underlying hu w]
      simp
    rw [List.length_map, h.1] at hl
    simp [loadVar, Sem.run_bind, hagg, sizeOf, typeInfo, hq, hs, hl, encK]
theorem run_loadr {k : IntKind} {ρ : Operand → Value} {ad : Addr} {n : Nat} {xs : List Int} {ty : TypeId} {e : TypeId} {x : Operand} (hop : o.op = .load ty x) (hx : ρ x = .pointer (some ad)) (h : Rd k w (some ad) n xs) (hu : P.underlying ty = some (.array n e)) (hi : (P.info? ty).map (·.size) = some n) :
    (execOp ρ o).run P w = .ok (.value (.agg (encK k xs))) w := by
  unfold execOp
  simp only [hop, hx, Instr.loadAt, Instr.sureAddr, Sem.run_bind, Sem.run_pure, Result.andThen_ok, run_loadVar_rd h hu hi]
theorem run_arp {ρ : Operand → Value} {ad : Option Addr} {len cap n : Nat} {arr e : TypeId} {x : Operand} (hop : o.op = .sliceToArrayPointer arr x) (hx : ρ x = .slice ad len cap) (hu : P.underlying arr = some (.array n e)) (hn : n ≤ len) :
    (execOp ρ o).run P w = .ok (.value (.pointer ad)) w := by
  have h : ¬ len < n := by omega
  unfold execOp
  simp [hop, hx, Instr.arrayAt, Sem.run_bind, run_underlying hu, h]
theorem run_sl {ρ : Operand → Value} {t : TypeId} {x : Operand} {lo hi : Option Operand} (hop : o.op = .slice t x lo hi none) {vx : Value} (hx : ρ x = vx) {vl vh : Option Value} (hvl : lo.map ρ = vl) (hvh : hi.map ρ = vh) {v : Value} (hr : (Instr.sliceAt t vx vl vh none).run P w = .ok v w) :
    (execOp ρ o).run P w = .ok (.value v) w := by
  unfold execOp
  simp only [hop, hx, hvl, hvh, Sem.run_bind, Sem.run_pure, Option.map_none, hr, Result.andThen_ok]
/-- A slice's front. -/
theorem Own.trunc (HK : Own w0 w L) {e : TypeId} {k : IntKind} {ad : Option Addr} {n c : Nat} {s : List Int} (m : Nat) (hu : Upd (.sl e k ad n c s) (.sl e k ad m c (s.take m)) L L') (hm : m ≤ n) : Own w0 w L' := by
  have hx : Has (.sl e k ad n c s) L := Has.of_upd hu
  have h0 : w.ownsRow w0.heap.size e 1 (.slice ad n c) n (s.map (Value.int k)) := HK.get hx
  refine HK.upd hu (grown_refl w _) ?_ (.inl (by cases ad <;> rfl))
  have hl : s.length = n := HK.lensl hx
  obtain ⟨h1, ⟨h2, h3⟩ | ⟨g, cap, cur, h2, h3, h4, h5, h6, h7, h8⟩⟩ := h0
  · injection h2 with e1 e2 e3
    subst e1 e3 h3
    have hm0 : m = 0 := by omega
    subst hm0
    exact ⟨by simp, .inl ⟨rfl, rfl⟩⟩
  · injection h2 with e1 e2 e3
    subst e1 e3
    refine ⟨by simp [hl]; omega, .inr ⟨g, c, cur, rfl, h3, h4, by omega, h6, h7, ?_⟩⟩
    have : (s.map (Value.int k)).take m = (cur.toList.take (n * 1)).take (m * 1) := by rw [h8, Nat.mul_one]
    rw [List.take_take, Nat.min_eq_left (by omega)] at this
    rw [← this, List.map_take]
theorem results_own2 {fn : Func} {p q : Tmp} {ty : TypeId} (h : fn.results = #[.cell p ty, .cell q ty]) (tmps : Array Value) (HK : Own w0 w L) (g g' : Nat) (hp : tmps.getD p undef = .pointer (some ⟨g, 0, none⟩)) (hq : tmps.getD q undef = .pointer (some ⟨g', 0, none⟩))
    {k : IntKind} {T T' : TypeId} {n : Nat} {s s' : List Int} (hm : Has (.ints g k T n s) L) (hm' : Has (.ints g' k T' n s') L) {e : TypeId} (hu : P.underlying ty = some (.array n e)) (hi : (P.info? ty).map (·.size) = some n) :
    (results fn tmps).run P w = .ok (.tuple #[.agg (encK k s), .agg (encK k s')]) w := by
  have h1 := run_loadVar_row (P := P) w g T ty _ (0, 0) _ (HK.row hm) hu rfl (by rw [size_encK, HK.len hm]; exact hi)
  have h2 := run_loadVar_row (P := P) w g' T' ty _ (0, 0) _ (HK.row hm') hu rfl (by rw [size_encK, HK.len hm']; exact hi)
  have hp' : tmps[p]?.getD undef = .pointer (some ⟨g, 0, none⟩) := by rw [← Array.getD_eq_getD_getElem?]; exact hp
  have hq' : tmps[q]?.getD undef = .pointer (some ⟨g', 0, none⟩) := by rw [← Array.getD_eq_getD_getElem?]; exact hq
  unfold results
  simp only [h]
  simp [hp', hq', h1, h2, Sem.run_bind, asAddr]
end
end Go.Proofs.YtmankjhopfilaaaL
