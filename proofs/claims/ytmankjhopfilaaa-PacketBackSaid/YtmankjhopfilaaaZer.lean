/- 'append(s, make([]T, k)...)' as gc has it, onto a slice of numbers of the call's own. -/
import Derived.Test.YtmankjhopfilaaaOwn
import Derived.Lib.AppendZerosOnto
namespace Go.Proofs.YtmankjhopfilaaaL
set_option linter.unusedVariables false
set_option linter.unusedSimpArgs false
open Go.RowKit
section
variable {P : Program}
theorem map_mod_one (z : Value) (q : Nat) : List.map (fun i => [z][i % 1]?.getD default) (List.range q) = List.replicate q z := by
  apply List.ext_getElem
  · simp
  · intro j h1 h2; simp [Nat.mod_one]
theorem run_append_room_zeros (w : World) (t tn ty e : TypeId) (i : TypeInfo) (z : Value) (kq kn : IntKind) (ht : P.underlying t = some (.slice e)) (htn : P.underlying tn = some (.int kn)) (hi : P.info? e = some i) (hz : i.zero = some z) (hs : i.size = 1) (hzs : z.cells = #[z]) (hz1 : z.oneCell' = true)
    (g sLen sCap : Nat) (cur : Array Value) (hg : w.heap[g]? = some (.cells cur e (0, 0))) (k : Nat) (h0 : 0 < k) (hroom : sLen + k ≤ sCap) (hcap : (sCap : Int) ≤ 9223372036854775807) (hb : k * i.bytes ≤ 281474976710656) (hfit : sLen + k ≤ cur.size) :
    (Builtin.append_ #[t, tn] ty #[.slice (some ⟨g, 0, none⟩) sLen sCap, .int kq k]).run P w =
      .ok (.slice (some ⟨g, 0, none⟩) (sLen + k) sCap) (w.setRow g (cur.toList.take sLen ++ List.replicate k z ++ cur.toList.drop (sLen + k)).toArray) := by
  have hk : k ≠ 0 := by omega
  have hw : IntKind.i64.wrap (k : Int) = k := by rw [IntKind.wrap_i64]; omega
  have hkn : ¬ ((k : Int) < 0) := by omega
  have hb' : ¬ (281474976710656 < (k : Int) * (i.bytes : Int)) := by
    rw [← Int.natCast_mul]
    omega
  have hst := run_storeCells_at P g sLen e (List.replicate k z) 0 cur w hg (by rw [List.length_replicate]; omega) (fun u hu => by rw [List.eq_of_mem_replicate hu]; exact hz1)
  simp only [Nat.add_zero, List.length_replicate] at hst
  simp [Builtin.append_, asInt, asIntOf, run_underlying ht, run_underlying htn, sizeOf, typeInfo, zeroValue, hi, hz, hs, hzs, hw, hkn, hb', hk, hroom, Builtin.zeroCells, madeCells_one, Addr.add_lit]
  have hzz : List.map (fun i => [z][i % 1]?.getD default) (List.range k) = List.replicate k z := by
    apply List.ext_getElem
    · simp
    · intro j h1 h2; simp [Nat.mod_one]
  rw [hzz, hst]
  simp
theorem wpList_app_zeros {ops : Array Oper} {rest : List Oper} {op : Oper} {a : Act} {w w0 : World} {L L' : List It} {Q : Exit → Act → World → Prop} (hgd : op.guard = none) (HK : Own w0 w L) (s x : Operand) (t tn : TypeId) (ho : op.op = .call { callee := .builtin .append, args := #[s, x], argTypes := #[t, tn] })
    (e : TypeId) (k : IntKind) (bytes : Nat) (ht : P.underlying t = some (.slice e)) (htn : P.underlying tn = some (.int .i64)) (hinf : (P.info? e).map (fun i => (i.zero, i.size, i.bytes)) = some (some (.int k 0), 1, bytes))
    (ad : Option Addr) (n c : Nat) (xs : List Int) (hs : a.eval s = .slice ad n c) (hd : Del (.sl e k ad n c xs) L L') (m : Nat) (N : Int) (hx : a.eval x = .int .i64 N) (hN : N = m) (h0 : 0 < m) (h63 : n + m ≤ maxLen) (hbytes : (n + m) * bytes ≤ 140737488355328)
    (h : ∀ a' c' w', Own w0 w' (.sl e k a' (n + m) c' (xs ++ zer m) :: L') → wpList P ops Q rest (a.put op.dst (.slice a' (n + m) c')) w') : wpList P ops Q (op :: rest) a w := by
  subst hN
  have hown : w.ownsRow w0.heap.size e 1 (.slice ad n c) n (xs.map (Value.int k)) := HK.get (Has.of_del hd)
  obtain ⟨i, hi, hz, hsize, hby⟩ := info_parts hinf
  have hlx : xs.length = n := by have := hown.1; simpa using this
  have hb0 : m * i.bytes ≤ 281474976710656 := by
    rw [hby]
    have : m * bytes ≤ (n + m) * bytes := Nat.mul_le_mul_right _ (by omega)
    omega
  have hm63 : n + m ≤ 9223372036854775807 := by unfold maxLen at h63; omega
  refine wpList_plain hgd fun K hK => ?_
  have main : ∀ v' w', (Builtin.append_ #[t, tn] op.type #[.slice ad n c, .int .i64 m]).run P w = .ok v' w' → K (a.put op.dst v') w' → Oper.wp P op a w K Q := fun v' w' hr hk => by
    unfold Oper.wp execOp
    simp only [ho, resolve, invoke, builtin, Sem.run_bind, Sem.run_pure, Result.andThen_ok, List.map_toArray, List.map_cons, List.map_nil, hs, hx, hr]
    exact hk
  have grow : ∀ (hold : (Builtin.firstCells i.size n (.slice ad n c)).run P w.drew = .ok (xs.map (Value.int k)).toArray w.drew) (hg : c < n + m), Oper.wp P op a w K Q := fun hold hg => by
    have hfit := growslice_fits (bytes := i.bytes) (show c < n + m from hg) (by rw [hby]; exact hbytes)
    have hr := Lib.run_append_grow_zeros w t tn op.type e i (.int k 0) .i64 .i64 ht htn hi hz ad n c (xs.map (Value.int k)) hold m h0 (by omega) hg (by omega) hb0 hfit
    refine main _ _ hr (hK _ _ (h _ _ _ ?_))
    have hge := grownCap_ge w (n + m) c e
    have hle : grownCap w (n + m) c e ≤ maxLen := grownCap_le_maxLen w (n + m) c e h63
    obtain ⟨cap, hcap⟩ : ∃ q, q = grownCap w (n + m) c e := ⟨_, rfl⟩
    rw [← hcap] at hge hle ⊢
    refine HK.turn (x' := .sl e k (some ⟨w.heap.size, 0, none⟩) (n + m) cap (xs ++ zer m)) hd (grown_weak (grown_alloc (grown_drew w none) _)) ⟨by simp [hlx, length_zer], .inr ⟨w.heap.size, cap, _, rfl, HK.base, alloc_at (w := w.drew) _ rfl, hge, hle, ?_, ?_⟩⟩ (.inr fun p hp => by simp [It.foot, Value.ownBlock] at hp; omega)
    · simp [Builtin.zeroCells, madeCells_one, Value.cells, hlx]; omega
    · simp [Builtin.zeroCells, madeCells_one, Value.cells, zer, hlx]
      rw [map_mod_one, map_mod_one, ← List.append_assoc]
      exact List.take_left' (by simp [hlx])
  rcases hown.2 with ⟨hv, hn0⟩ | ⟨g, cap, cur, hv, hbg, hg, hnc, hcm, hcs, htake⟩
  · injection hv with e1 e2 e3
    subst e1 e3 hn0
    have hx0 : xs = [] := List.length_eq_zero_iff.1 hlx
    subst hx0
    exact grow (run_firstCells_none w.drew i.size 0 0 0) (by omega)
  · injection hv with e1 e2 e3
    subst e1 e3
    by_cases hroom : n + m ≤ c
    · have hr := run_append_room_zeros w t tn op.type e i (.int k 0) .i64 .i64 ht htn hi hz hsize rfl rfl g n c cur hg m h0 hroom (by unfold maxLen at hcm; omega) hb0 (by omega)
      refine main _ _ hr (hK _ _ (h _ _ _ ?_))
      refine HK.turn (x' := .sl e k (some ⟨g, 0, none⟩) (n + m) c (xs ++ zer m)) hd ⟨rfl, rfl, rfl, (by simp [World.setRow]), fun j _ hj => setRow_other w g j _ (fun e => hj (by rw [e]; rfl))⟩ ⟨by simp [hlx, length_zer], .inr ⟨g, c, _, rfl, hbg, setRow_heap w g cur _ e _ hg, hroom, hcm, ?_, ?_⟩⟩ (.inl rfl)
      · simp; omega
      · rw [Nat.mul_one] at htake
        simp only [List.toList_toArray, htake, Nat.mul_one, List.map_append, zer, List.map_replicate]
        exact List.take_left' (by simp [hlx])
    · refine grow ?_ (by omega)
      have := run_firstCells_some (P := P) w.drew i.size n ⟨g, 0, none⟩ n c (xs.map (Value.int k)) (by rw [hsize]; simp [hlx]) (fun j u hu => by
        have := hown.cells (g := g) rfl j u hu
        simpa using this)
      exact this
theorem run_append_no_zeros (w : World) (t tn ty e : TypeId) (i : TypeInfo) (kq kn : IntKind) (ht : P.underlying t = some (.slice e)) (htn : P.underlying tn = some (.int kn)) (hi : P.info? e = some i) (ad : Option Addr) (n c : Nat) (hnc : n ≤ c) :
    (Builtin.append_ #[t, tn] ty #[.slice ad n c, .int kq 0]).run P w = .ok (.slice ad n c) w := by
  have hw : IntKind.i64.wrap (0 : Int) = 0 := by decide
  cases ad <;> simp [Builtin.append_, asInt, asIntOf, run_underlying ht, run_underlying htn, sizeOf, typeInfo, hi, hw, hnc, storeCells]
theorem wpList_app_zeros_any {ops : Array Oper} {rest : List Oper} {op : Oper} {a : Act} {w w0 : World} {L L' : List It} {Q : Exit → Act → World → Prop} (hgd : op.guard = none) (HK : Own w0 w L) (s x : Operand) (t tn : TypeId) (ho : op.op = .call { callee := .builtin .append, args := #[s, x], argTypes := #[t, tn] })
    (e : TypeId) (k : IntKind) (bytes : Nat) (ht : P.underlying t = some (.slice e)) (htn : P.underlying tn = some (.int .i64)) (hinf : (P.info? e).map (fun i => (i.zero, i.size, i.bytes)) = some (some (.int k 0), 1, bytes))
    (ad : Option Addr) (n c : Nat) (xs : List Int) (hs : a.eval s = .slice ad n c) (hd : Del (.sl e k ad n c xs) L L') (m : Nat) (N : Int) (hx : a.eval x = .int .i64 N) (hN : N = m) (h63 : n + m ≤ maxLen) (hbytes : (n + m) * bytes ≤ 140737488355328)
    (h : ∀ a' c' w', Own w0 w' (.sl e k a' (n + m) c' (xs ++ zer m) :: L') → wpList P ops Q rest (a.put op.dst (.slice a' (n + m) c')) w') : wpList P ops Q (op :: rest) a w := by
  by_cases h0 : 0 < m
  · exact wpList_app_zeros hgd HK s x t tn ho e k bytes ht htn hinf ad n c xs hs hd m N hx hN h0 h63 hbytes h
  · have hm : m = 0 := by omega
    subst hm
    subst hN
    obtain ⟨i, hi, hz, hsize, hby⟩ := info_parts hinf
    have hnc : n ≤ c := (HK.cap (Has.of_del hd)).1
    refine wpList_plain hgd fun K hK => ?_
    have hr := run_append_no_zeros (P := P) w t tn op.type e i .i64 .i64 ht htn hi ad n c hnc
    unfold Oper.wp execOp
    simp only [ho, resolve, invoke, builtin, Sem.run_bind, Sem.run_pure, Result.andThen_ok, List.map_toArray, List.map_cons, List.map_nil, hs, hx, Int.natCast_zero, hr]
    have h1 := h ad c w (by rw [Nat.add_zero, zer, List.replicate_zero, List.append_nil]; exact HK.front hd)
    rw [Nat.add_zero] at h1
    exact hK _ _ h1
end
end Go.Proofs.YtmankjhopfilaaaL
