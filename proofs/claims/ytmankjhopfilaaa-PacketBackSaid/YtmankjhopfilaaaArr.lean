/- Arrays of numbers held against one another; bytes as strings. -/
import Derived.Test.YtmankjhopfilaaaLib
import Derived.ChangeKeysEq
import Derived.Laws.StructEq
import Derived.Laws.BytesArg
namespace Go.Proofs.YtmankjhopfilaaaL
set_option linter.unusedVariables false
set_option linter.unusedSimpArgs false
open Go.RowKit
section
variable {P : Program}
def encK (k : IntKind) (s : List Int) : Array Value := (s.map (Value.int k)).toArray
theorem run_eqItems_ints {e : TypeId} {k : IntKind} (he : P.underlying e = some (.int k)) (d : Nat) (xs ys : List Int) (w : World) :
    ∀ (m : Nat) (i : Nat), i + m ≤ xs.length → i + m ≤ ys.length →
    (Op.eqItems (d + 1) e 1 (encK k xs) (encK k ys) (List.range' i m)).run P w = .ok ((xs.drop i).take m == (ys.drop i).take m) w := by
  intro m
  have hp : P.plainKey e = true := by unfold Program.plainKey; rw [he]
  induction m with
  | zero => intro i _ _; simp [Op.eqItems]
  | succ m ih =>
    intro i h1 h2
    have e1 : (encK k xs)[i * 1]? = some (.int k (xs[i]'(by omega))) := by simp [encK, List.getElem?_eq_getElem (show i < xs.length by omega)]
    have e2 : (encK k ys)[i * 1]? = some (.int k (ys[i]'(by omega))) := by simp [encK, List.getElem?_eq_getElem (show i < ys.length by omega)]
    rw [List.range'_succ]
    simp only [Op.eqItems, Sem.run_bind, run_part_plain w hp e1, run_part_plain w hp e2, Result.andThen_ok, run_equalIn_int w d e k k _ _ he]
    rw [List.drop_eq_getElem_cons (show i < xs.length by omega), List.drop_eq_getElem_cons (show i < ys.length by omega), List.take_succ_cons, List.take_succ_cons]
    cases hb : (xs[i]'(by omega) == ys[i]'(by omega)) with
    | false => simp [hb]
    | true =>
      simp only [Bool.not_true, Bool.false_eq_true, if_false]
      rw [ih (i + 1) (by omega) (by omega)]
      simp [List.cons_beq_cons, hb]
theorem run_equalIn_ints {t e : TypeId} {n : Nat} {k : IntKind} (hu : P.underlying t = some (.array n e)) (he : P.underlying e = some (.int k)) (hs : (P.info? e).map (·.size) = some 1) (d : Nat) (xs ys : List Int) (hx : xs.length = n) (hy : ys.length = n) (w : World) :
    (Op.equalIn (d + 2) t (.agg (encK k xs)) (.agg (encK k ys))).run P w = .ok (xs == ys) w := by
  cases hq : P.info? e with
  | none => simp [hq] at hs
  | some q =>
    have hc : P.cellsOf e = 1 := by simp [Program.cellsOf, hs]
    rw [run_equalIn_array w (d + 1) _ _ hu hq, hc, List.range_eq_range', run_eqItems_ints he d xs ys w n 0 (by omega) (by omega)]
    simp [List.take_of_length_le, hx, hy]
theorem run_eql_ints {t e : TypeId} {n : Nat} {k : IntKind} (hu : P.underlying t = some (.array n e)) (he : P.underlying e = some (.int k)) (hs : (P.info? e).map (·.size) = some 1) (xs ys : List Int) (hx : xs.length = n) (hy : ys.length = n) (w : World) :
    (binOp .eql t (.agg (encK k xs)) (.agg (encK k ys))).run P w = .ok (.bool (xs == ys)) w := by
  rw [run_eql_struct, run_equalIn_ints hu he hs 9998 xs ys hx hy]
  rfl
theorem run_neq_ints {t e : TypeId} {n : Nat} {k : IntKind} (hu : P.underlying t = some (.array n e)) (he : P.underlying e = some (.int k)) (hs : (P.info? e).map (·.size) = some 1) (xs ys : List Int) (hx : xs.length = n) (hy : ys.length = n) (w : World) :
    (binOp .neq t (.agg (encK k xs)) (.agg (encK k ys))).run P w = .ok (.bool (!(xs == ys))) w := by
  rw [run_neq_struct, run_equalIn_ints hu he hs 9998 xs ys hx hy]
  rfl

/-- The bytes of these numbers. -/
def str8 (xs : List Int) : ByteArray := ⟨(xs.map fun n => UInt8.ofNat n.toNat).toArray⟩
theorem str8_eq {xs ys : List Int} (hx : ∀ x ∈ xs, 0 ≤ x ∧ x < 256) (hy : ∀ y ∈ ys, 0 ≤ y ∧ y < 256) : ((str8 xs).toList == (str8 ys).toList) = (xs == ys) := by
  have inj : ∀ (xs ys : List Int), (∀ x ∈ xs, 0 ≤ x ∧ x < 256) → (∀ y ∈ ys, 0 ≤ y ∧ y < 256) → xs.map (fun n => UInt8.ofNat n.toNat) = ys.map (fun n => UInt8.ofNat n.toNat) → xs = ys := by
    intro xs
    induction xs with
    | nil => intro ys _ _ h; cases ys with
      | nil => rfl
      | cons => simp at h
    | cons x xs ih => intro ys h1 h2 h; cases ys with
      | nil => simp at h
      | cons y ys =>
        simp only [List.map_cons, List.cons.injEq] at h
        have hx := h1 x (by simp)
        have hy := h2 y (by simp)
        have : x.toNat = y.toNat := by
          have h0 := congrArg UInt8.toNat h.1
          simp only [UInt8.toNat_ofNat'] at h0
          omega
        rw [ih ys (fun z hz => h1 z (by simp [hz])) (fun z hz => h2 z (by simp [hz])) h.2, show x = y by omega]
  rw [ByteArray.toList_eq, ByteArray.toList_eq]
  rw [Bool.eq_iff_iff]
  simp only [beq_iff_eq]
  constructor
  · intro h
    exact inj xs ys hx hy (by simpa [str8] using h)
  · intro h; rw [h]
theorem str8_strOf (xs : List Int) : strOfNums xs = str8 xs := by simp [strOfNums, str8]
/-- 'string(b)' of a slice that reads as these bytes. -/
theorem run_string_src (w : World) (src dst e : TypeId) (hs : P.underlying src = some (.slice e)) (he : P.underlying e = some (.int .u8)) (hd : P.underlying dst = some .string) (a : Option Addr) (len cap : Nat) (xs : List Int) (hl : xs.length = len)
    (hc : ∀ i, i < len → ∃ x, a = some x ∧ w.cell? (x.add i) = some (.int .u8 (xs.getD i 0))) :
    (convert src dst (.slice a len cap)).run P w = .ok (.string (str8 xs)) w := by
  rw [run_convert_bytes_string w src dst e a len cap hs he hd]
  cases a with
  | none =>
    have : xs = [] := by
      cases xs with
      | nil => rfl
      | cons y ys => obtain ⟨x, hx, -⟩ := hc 0 (by rw [← hl]; simp); cases hx
    subst this
    simp [Conv.bytesToString, str8]; rfl
  | some x =>
    have h := run_loadCells_list (P := P) w x (xs.map (Value.int .u8)) (fun j v hj => by
      rw [List.getElem?_map, Option.map_eq_some_iff] at hj
      obtain ⟨y, hy, rfl⟩ := hj
      have hjl := (List.getElem?_eq_some_iff.1 hy).1
      obtain ⟨x', hx', hcc⟩ := hc j (by omega)
      injection hx' with hx'
      subst hx'
      rw [hcc, List.getD_eq_getElem?_getD, hy]; rfl)
    rw [List.length_map, hl] at h
    rw [run_bytesToString w x len cap xs h]
    have : ∀ (ns : List Int) (r : ByteArray), ns.foldl (fun r n => r.push (UInt8.ofNat n.toNat)) r = ⟨r.data ++ (ns.map fun n => UInt8.ofNat n.toNat).toArray⟩ := by
      intro ns
      induction ns with
      | nil => intro r; simp
      | cons n ns ih => intro r; rw [List.foldl_cons, ih]; simp [ByteArray.push]
    rw [this]
    have he0 : ByteArray.empty.data = #[] := rfl
    rw [he0]
    simp [str8]
end
end Go.Proofs.YtmankjhopfilaaaL
