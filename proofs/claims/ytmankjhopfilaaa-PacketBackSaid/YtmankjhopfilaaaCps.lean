/- copy onto the middle of a slice that is owned. -/
import Derived.Test.YtmankjhopfilaaaVal
namespace Go.Proofs.YtmankjhopfilaaaL
set_option linter.unusedVariables false
set_option linter.unusedSimpArgs false
open Go.RowKit
section
variable {P : Program} {ops : Array Oper} {Q : Exit → Act → World → Prop} {a : Act} {w0 w : World} {op : Oper} {rest : List Oper} {L L' : List It}
theorem take_mid {α : Type} (cur ys : List α) (o q m n : Nat) (h : o + q ≤ n) (hm : ys.length = q) (hc : n ≤ cur.length) : (cur.take o ++ ys ++ cur.drop (o + q)).take n = (cur.take n).take o ++ ys ++ (cur.take n).drop (o + q) := by
  have h1 : (cur.take o).length = o := by rw [List.length_take]; omega
  rw [List.take_append, List.length_append, h1, hm, List.take_of_length_le (by rw [List.length_append, h1, hm]; exact h), List.take_take, Nat.min_eq_left (by omega), List.drop_take]
theorem wpList_copy_sl (hgd : op.guard = none) (HK : Own w0 w L) (d s : Operand) (dT sT : TypeId) (hop : op.op = .call { callee := .builtin .copy, args := #[d, s], argTypes := #[dT, sT] })
    (elem : TypeId) (p o dLen dCap : Nat) (ad : Option Addr) (sLen sCap : Nat) (k : IntKind) (n c : Nat) (cur xs : List Int) (hu : P.underlying dT = some (.slice elem)) (hs : (P.info? elem).map (·.size) = some 1)
    (hd : a.eval d = .slice (some ⟨p, o, none⟩) dLen dCap) (hsv : a.eval s = .slice ad sLen sCap) (hr : Rd k w ad sLen xs) (q : Nat) (hq : q = min sLen dLen) (h0 : 0 < q) (hfit : o + q ≤ n) (e : TypeId)
    (hup : Upd (.sl e k (some ⟨p, 0, none⟩) n c cur) (.sl e k (some ⟨p, 0, none⟩) n c (cur.take o ++ xs.take q ++ cur.drop (o + q))) L L')
    (h : ∀ w', Own w0 w' L' → wpList P ops Q rest (a.put op.dst (goInt q)) w') : wpList P ops Q (op :: rest) a w := by
  have hx : Has (.sl e k (some ⟨p, 0, none⟩) n c cur) L := Has.of_upd hup
  obtain ⟨hlen, hv | ⟨g, cap, cs, hv, hb, hg, hn, hmx, hsz, htk⟩⟩ := HK.get hx
  · cases hv.1
  injection hv with e1 e2 e3
  injection e1 with e1
  injection e1 with e1
  subst e1 e3
  obtain ⟨x, hx0, -⟩ := hr.2 0 (by omega)
  subst hx0
  have hyl : ((xs.take q).map (Value.int k)).length = q := by rw [List.length_map, List.length_take, hr.1]; omega
  refine wpList_plain hgd fun K hK => ?_
  have hrun := run_copy_row (P := P) w dT sT op.type elem p o dLen dCap x sLen sCap cs e ((xs.take q).map (Value.int k)) hu hs hg (by rw [hyl]; exact hq) (fun j v hj => by
      rw [List.getElem?_map, Option.map_eq_some_iff] at hj
      obtain ⟨y, hy, rfl⟩ := hj
      have hjn : j < q := by
        have := (List.getElem?_eq_some_iff.1 hy).1
        rw [List.length_take] at this; omega
      obtain ⟨x', hx', hc⟩ := hr.2 j (by omega)
      injection hx' with hx'
      rw [hx', hc, List.getD_eq_getElem?_getD]
      rw [List.getElem?_take, if_pos hjn] at hy
      rw [hy]; rfl) (by rw [hyl, hsz]; omega) (fun v hv => by
      obtain ⟨y, -, rfl⟩ := List.mem_map.1 hv
      rfl)
  rw [hyl] at hrun
  unfold Oper.wp execOp
  simp only [hop, resolve, invoke, builtin, Sem.run_bind, Sem.run_pure, Result.andThen_ok, List.map_toArray, List.map_cons, List.map_nil, hd, hsv, hrun]
  have hset := setRow_heap w p _ (cs.toList.take o ++ (xs.take q).map (Value.int k) ++ cs.toList.drop (o + q)).toArray e _ hg
  have hcl : cs.toList.length = c := by rw [Array.length_toList, hsz, Nat.mul_one]
  have hgr : w.grownBy (w.setRow p (cs.toList.take o ++ (xs.take q).map (Value.int k) ++ cs.toList.drop (o + q)).toArray) (some p) := ⟨rfl, rfl, rfl, (by simp [World.setRow]), fun j _ hj => setRow_other w p j _ (fun e => hj (by rw [e]))⟩
  refine hK _ _ (h _ (HK.upd hup hgr ?_ (.inl rfl)))
  refine ⟨?_, .inr ⟨p, c, _, rfl, hb, hset, hn, hmx, ?_, ?_⟩⟩
  · have hcu : cur.length = n := by rw [List.length_map, Nat.mul_one] at hlen; exact hlen
    simp only [List.length_map, List.length_append, List.length_take, List.length_drop, hcu, hr.1]
    omega
  · simp only [List.size_toArray, List.length_append, List.length_take, List.length_drop, hyl, hcl]
    omega
  · rw [Nat.mul_one] at htk ⊢
    rw [take_mid _ _ o q n n hfit hyl (by omega), htk]
    simp [List.map_take, List.map_drop]
end
end Go.Proofs.YtmankjhopfilaaaL
