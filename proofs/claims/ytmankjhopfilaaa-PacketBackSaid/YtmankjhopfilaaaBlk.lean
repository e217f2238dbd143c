/- Boxes: a block known whole (a struct, flat): made, read, stored. -/
import Derived.Test.YtmankjhopfilaaaSep
import Derived.Deep.MidRow
namespace Go.Proofs.YtmankjhopfilaaaL
set_option linter.unusedVariables false
open Go.RowKit
section
variable {P : Program} {ops : Array Oper} {Q : Exit → Act → World → Prop} {a : Act} {w0 w : World} {op : Oper} {rest : List Oper} {L L' : List It}
theorem own_alloc (HK : Own w0 w L) (o : Obj) : Own w0 (w.alloc o) (.blk w.heap.size o :: L) :=
  HK.add (World.grownBy_alloc _ _ _) ⟨HK.grown.size, alloc_at _ _ rfl⟩ (fun p hp => by injection hp with hp; omega)
theorem wpList_put_blk (hgd : op.guard = none) (HK : Own w0 w L) (ty : TypeId) (x y : Operand) (ho : op.op = .store ty x y) (p : Nat) (cs' : Array Value) (hx : a.eval x = .pointer (some ⟨p, 0, none⟩)) (hy : a.eval y = .agg cs')
    (T : TypeId) (cs : Array Value) (hu : Upd (.blk p (.cells cs T (0, 0))) (.blk p (.cells cs' T (0, 0))) L L') (hsz : cs'.size = cs.size) (hinf : (P.info? ty).map (·.size) = some cs'.size) (h1 : cs'.all (·.oneCell') = true)
    (h : ∀ w', Own w0 w' L' → wpList P ops Q rest (a.put op.dst undef) w') : wpList P ops Q (op :: rest) a w := by
  obtain ⟨A, B, hL, hL'⟩ := hu.parts
  have hm := HK.has (.blk p (.cells cs T (0, 0))) (by rw [hL]; simp)
  refine wpList_store_range hgd ty x y ho p 0 _ hx hy T _ hm.2 (by omega) hinf h1 fun w' r g => h w' (HK.upd hu g ⟨hm.1, ?_⟩ (.inl rfl))
  rw [putAt_all _ _ (by rw [Array.length_toList, hsz])] at r
  exact r
/-- A struct within a block, read. -/
theorem run_mid {w : World} {ty : TypeId} {ρ : Operand → Value} {x : Operand} {o : Oper} (hop : o.op = .load ty x) {b i : Nat} (hx : ρ x = .pointer (some ⟨b, i, none⟩)) (cs : List Value) {d : TypeDesc} (hc : w.rangeAt b i cs)
    (hu : P.underlying ty = some d) (hd : d.isRow = true) (hi : (P.info? ty).map (·.size) = some cs.length) : (execOp ρ o).run P w = .ok (.value (.agg cs.toArray)) w := by
  unfold execOp
  simp only [hop, hx, Instr.loadAt, Instr.sureAddr, Sem.run_bind, Sem.run_pure, Result.andThen_ok, run_loadVar_mid w b i ty cs d hc hu hd hi]
theorem cell_blk {w : World} {b : Nat} {cs : Array Value} {T : TypeId} {fr : Nat × Nat} (h : w.heap[b]? = some (.cells cs T fr)) (i : Nat) : w.cell? ⟨b, i, none⟩ = cs[i]? := by simp [World.cell?, h]
end
end Go.Proofs.YtmankjhopfilaaaL
