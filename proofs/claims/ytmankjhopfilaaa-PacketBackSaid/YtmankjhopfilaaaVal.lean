/- What a call owns: slices of any values; 'append' onto them. -/
import Derived.Test.YtmankjhopfilaaaOwn
import Derived.Test.YtmankjhopfilaaaCopy
namespace Go.Proofs.YtmankjhopfilaaaL
set_option linter.unusedVariables false
set_option linter.unusedSimpArgs false
open Go.RowKit

section
variable {P : Program} {ops : Array Oper} {rest : List Oper} {op : Oper} {a : Act} {w w0 : World} {L L' : List It} {Q : Exit → Act → World → Prop}
/-- A row of values just made. -/
theorem Own.row_vals (h : Own w0 w L) (e : TypeId) (xs : List Value) {n p : Nat} (hn : xs.length = n) (hp : w.heap.size = p) (hm : n ≤ maxLen) : Own w0 (w.alloc (.cells xs.toArray e (0, 0))) (.vals e (some ⟨p, 0, none⟩) n n xs :: L) :=
  h.add (World.grownBy_alloc _ _ _) ⟨by simp [hn], .inr ⟨p, n, xs.toArray, rfl, by rw [← hp]; exact h.base, by rw [← hp]; exact alloc_at _ _ rfl, Nat.le_refl _, hm, by simp [hn], by simp [← hn]⟩⟩ (fun q hq => by simp [It.foot, Value.ownBlock] at hq; omega)
theorem Own.vals_cell (h : Own w0 w L) {e : TypeId} {ad : Option Addr} {n c : Nat} {xs : List Value} (hx : Has (.vals e ad n c xs) L) : ∀ i b, xs[i]? = some b → ∃ x, ad = some x ∧ w.cell? (x.add i) = some b := by
  intro i b hb
  have ho : w.ownsRow w0.heap.size e 1 (.slice ad n c) n xs := h.get hx
  rcases ho.2 with ⟨hv, hnil⟩ | ⟨g, cap, cur, hv, -⟩
  · have : xs = [] := List.eq_nil_of_length_eq_zero (by rw [ho.1]; simp at hv; omega)
    subst this
    simp at hb
  · injection hv with h1 h2 h3
    exact ⟨⟨g, 0, none⟩, h1, ho.cells (g := g) (by rw [h1]; rfl) i b hb⟩
/-- 'append' of values onto a slice of the call's own. -/
theorem wpList_app_vals (hgd : op.guard = none) (HK : Own w0 w L) (s x : Operand) (t : TypeId) (ho : op.op = .call { callee := .builtin .append, args := #[s, x], argTypes := #[t, t] })
    (e : TypeId) (z : Value) (bytes : Nat) (ht : P.underlying t = some (.slice e)) (hinf : (P.info? e).map (fun i => (i.zero, i.size, i.bytes)) = some (some z, 1, bytes)) (hzs : z.cells.size = 1)
    (ad : Option Addr) (n c : Nat) (xs : List Value) (hs : a.eval s = .slice ad n c) (hd : Del (.vals e ad n c xs) L L') (sv : Value) (m : Nat) (news : List Value) (hx : a.eval x = sv) (hm : news.length = m) (h1 : ∀ u ∈ news, u.oneCell' = true) (hsrc : Src w sv news)
    (h63 : n + m ≤ maxLen) (hbytes : (n + m) * bytes ≤ 140737488355328)
    (h : ∀ a' c' w', Own w0 w' (.vals e a' (n + m) c' (xs ++ news) :: L') → wpList P ops Q rest (a.put op.dst (.slice a' (n + m) c')) w') : wpList P ops Q (op :: rest) a w := by
  have hown : w.ownsRow w0.heap.size e 1 (.slice ad n c) n xs := HK.get (Has.of_del hd)
  obtain ⟨i, hi, hz, hsize, hby⟩ := info_parts hinf
  rcases hsrc with ⟨hv, hn0⟩ | ⟨src, cs, hv, hc⟩
  · subst hn0
    have hm0 : m = 0 := by rw [← hm]; rfl
    subst hm0
    exact wpList_append_own_none hgd s x t ho w0.heap.size e i 1 ht hi _ n _ hs hown (hx.trans hv) (by simpa using h ad c w (by simpa using HK.front hd))
  · rw [hm] at hv
    have hl1 : news.length = m * 1 := by rw [hm, Nat.mul_one]
    refine wpList_plain hgd fun K hK => ?_
    obtain ⟨v', w', hr, ho', hg', -⟩ := run_append_own (P := P) w w0.heap.size t op.type e i z 1 bytes ht hi hz hsize hby hzs (by decide) _ n _ hown src m cs _ hl1 hc h1 h63 hbytes HK.base
    have hf := append_lies (P := P) w0.heap.size t op.type e i z 1 bytes ht hi hz hsize hby hzs (by decide) _ n _ hown src m cs _ hl1 hc h1 h63 hbytes v' w' hr
    unfold Oper.wp execOp
    simp only [ho, resolve, invoke, builtin, Sem.run_bind, Sem.run_pure, Result.andThen_ok, List.map_toArray, List.map_cons, List.map_nil, hs, hx, hv, hr]
    obtain ⟨a', c', rfl⟩ := own_slice ho'
    exact hK _ _ (h a' c' w' (HK.turn (x' := .vals e a' (n + m) c' (xs ++ news)) hd hg' ho' hf))
/-- 'make([]T, n)', as a block of numbers. -/
theorem wpList_make_ints (hgd : op.guard = none) (HK : Own w0 w L) (l c : Operand) (t : TypeId) (ho : op.op = .makeSlice t l c)
    (e : TypeId) (k : IntKind) (bytes : Nat) (ht : P.underlying t = some (.slice e)) (hinf : (P.info? e).map (fun i => (i.zero, i.size, i.bytes)) = some (some (.int k 0), 1, bytes))
    (n : Nat) (N : Int) (hl : a.eval l = .int .i64 N) (hc : a.eval c = .int .i64 N) (hN : N = n) (hb : bytes * n ≤ 281474976710656) (h63 : (n : Int) ≤ 9223372036854775807)
    (h : ∀ w' p, Own w0 w' (.ints p k e n (zer n) :: L) → wpList P ops Q rest (a.put op.dst (.slice (some ⟨p, 0, none⟩) n n)) w') : wpList P ops Q (op :: rest) a w :=
  wpList_make_zeros hgd l c t ho e _ bytes ht hinf rfl n N hl hc hN hb h63 fun w' hr g =>
    h w' _ (HK.add (x := .ints w.heap.size k e n (zer n)) g ⟨HK.base, by rw [hr]; congr 2; simp [encK, zer], length_zer n⟩ (fun p hp => by simp [It.foot] at hp; omega))
/-- A block of numbers, as a slice of the call's own. -/
theorem Own.ints_sl (HK : Own w0 w L) {p : Nat} {k : IntKind} {e : TypeId} {n : Nat} {s : List Int} (hu : Upd (.ints p k e n s) (.sl e k (some ⟨p, 0, none⟩) n n s) L L') (hm : n ≤ maxLen) : Own w0 w L' := by
  have hx : Has (.ints p k e n s) L := Has.of_upd hu
  have h := HK.get hx
  exact HK.upd hu (grown_refl w _) ⟨by rw [List.length_map, h.2.2, Nat.mul_one], .inr ⟨p, n, encK k s, rfl, h.1, h.2.1, Nat.le_refl _, hm, by rw [size_encK, h.2.2, Nat.mul_one], by simp only [encK, ← h.2.2, Nat.mul_one]; exact List.take_of_length_le (by simp)⟩⟩ (.inl rfl)
/-- 'copy' onto a block of numbers. -/
theorem wpList_copy_own (hgd : op.guard = none) (HK : Own w0 w L) (d s : Operand) (dT sT : TypeId) (hop : op.op = .call { callee := .builtin .copy, args := #[d, s], argTypes := #[dT, sT] })
    (elem : TypeId) (p o dLen dCap : Nat) (ad : Option Addr) (sLen sCap : Nat) (k : IntKind) (T : TypeId) (n : Nat) (cur xs : List Int) (hu : P.underlying dT = some (.slice elem)) (hs : (P.info? elem).map (·.size) = some 1)
    (hd : a.eval d = .slice (some ⟨p, o, none⟩) dLen dCap) (hsv : a.eval s = .slice ad sLen sCap) (hr : Rd k w ad sLen xs) (q : Nat) (hq : q = min sLen dLen) (hfit : o + q ≤ n)
    (hup : Upd (.ints p k T n cur) (.ints p k T n (cur.take o ++ xs.take q ++ cur.drop (o + q))) L L')
    (h : ∀ w', Own w0 w' L' → wpList P ops Q rest (a.put op.dst (goInt q)) w') : wpList P ops Q (op :: rest) a w := by
  have hx : Has (.ints p k T n cur) L := Has.of_upd hup
  have hg := HK.get hx
  have hxl := hr.1
  refine wpList_copy_ints hgd d s dT sT hop elem p o dLen dCap ad sLen sCap cur T k xs hu hs hd hsv hr hg.2.1 q hq (by rw [hg.2.2]; exact hfit) fun w' hr' hg' => h w' (HK.upd hup hg' ⟨hg.1, hr', ?_⟩ (.inl rfl))
  have := hg.2.2
  simp only [List.length_append, List.length_take, List.length_drop]
  omega
end
end Go.Proofs.YtmankjhopfilaaaL
