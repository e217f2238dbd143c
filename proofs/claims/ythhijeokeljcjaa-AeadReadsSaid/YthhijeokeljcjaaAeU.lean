/- Open, whatever bytes come: one contract for the program, one for the reference. -/
import Derived.Test.YthhijeokeljcjaaAeT
namespace Go.Proofs.Ythhijeokeljcjaa
set_option linter.unusedVariables false
set_option linter.unusedSimpArgs false
open Go.RowKit Go.Proofs.YthhijeokeljcjaaL

def oB (key : List Int) (n : Int) (more c : List Int) : Bool := decide (16 ≤ c.length) && (tagL key n more (c.take (c.length - 16)) == c.drop (c.length - 16))
def oX (key : List Int) (n : Int) (more c : List Int) : List Int := if oB key n more c = true then encL key n (c.take (c.length - 16)) else []
def oE (b : Bool) : Int := if b then 0 else 21
theorem rd_nil (w : World) : Rd .u8 w none 0 [] := ⟨rfl, fun j hj => absurd hj (Nat.not_lt_zero _)⟩
theorem own_reads {w w' : World} {a : Option Addr} {n c : Nat} {s : List Int} {t : TypeId} (ho : w'.ownsRow w.heap.size t 1 (.slice a n c) n (s.map (Value.int .u8))) (hg : w.grownBy w' none) : Rd .u8 w' a n s :=
  (own_back (own_start w) hg ho).rdsl (.here _)
theorem oB_short {key : List Int} {n : Int} {more c : List Int} (h : c.length < 16) : oB key n more c = false := by
  unfold oB
  rw [decide_eq_false (by omega)]
  rfl
theorem oB_long {key : List Int} {n : Int} {more c : List Int} {k : Nat} (h : c.length = k + 16) : oB key n more c = (tagL key n more (c.take k) == c.drop k) := by
  unfold oB
  rw [decide_eq_true (by omega), show c.length - 16 = k by omega]
  rfl
theorem oX_long {key : List Int} {n : Int} {more c : List Int} {k : Nat} (h : c.length = k + 16) (hb : oB key n more c = true) : oX key n more c = encL key n (c.take k) := by
  unfold oX
  rw [if_pos hb, show c.length - 16 = k by omega]
theorem oX_no {key : List Int} {n : Int} {more c : List Int} (hb : oB key n more c = false) : oX key n more c = [] := by
  unfold oX
  rw [if_neg (by rw [hb]; decide)]
theorem ok_oX (key : List Int) (n : Int) (more c : List Int) : okB 256 (oX key n more c) := by
  unfold oX
  split
  · exact ok_encL _ _ _
  · exact fun x hx => by cases hx
theorem open_all (key : List Int) (n : Int) (M C : Bs) (w : World) (hk : key.length = 32) (hko : okB 256 key) (hn0 : 0 ≤ n) (hn1 : n < 18446744073709551616) (hm : M.ok w) (hb : C.ok w) (hlc : C.len ≤ C.cap) :
    Calls Try.prog 8 #[.agg (encK .u8 key), .int .u64 n, M.val, C.val] w fun e w' => ∃ a k c, e = .returned (.tuple #[.slice a k c, .int .i64 (oE (oB key n M.xs C.xs))]) ∧ Rd .u8 w' a k (oX key n M.xs C.xs) ∧ w.grownBy w' none := by
  have hl : C.xs.length = C.len := hb.1.1
  by_cases h : C.len < 16
  · refine (open_short key n M.val C.ad C.len C.cap w h).mono ?_
    rintro e w' ⟨rfl, hg⟩
    have h1 : oB key n M.xs C.xs = false := oB_short (by omega)
    exact ⟨none, 0, 0, by rw [h1]; rfl, by rw [oX_no h1]; exact rd_nil _, hg⟩
  · obtain ⟨k, hk'⟩ : ∃ k, C.len = k + 16 := ⟨C.len - 16, by omega⟩
    have h2 : C.xs.length = k + 16 := by omega
    refine (open_long (oB key n M.xs C.xs) key n M C k w hk hko hn0 hn1 hm hb hlc hk' (oB_long h2).symm).mono ?_
    rintro e w' ⟨q1, q2, hg⟩
    cases hb1 : oB key n M.xs C.xs with
    | true =>
      obtain ⟨a, c, rfl, ho⟩ := q1 hb1
      exact ⟨a, k, c, rfl, by rw [oX_long h2 hb1]; exact own_reads ho hg, hg⟩
    | false =>
      obtain rfl := q2 hb1
      exact ⟨none, 0, 0, rfl, by rw [oX_no hb1]; exact rd_nil _, hg⟩
theorem ropen_all (key : List Int) (n : Int) (M C : Bs) (w : World) (hk : key.length = 32) (hko : okB 256 key) (hn0 : 0 ≤ n) (hn1 : n < 18446744073709551616) (hm : M.ok w) (hb : C.ok w) (hlc : C.len ≤ C.cap) :
    Calls Try.prog 10 #[.agg (encK .u8 key), .int .u64 n, M.val, C.val] w fun e w' => ∃ a k c, e = .returned (.tuple #[.slice a k c, .bool (oB key n M.xs C.xs)]) ∧ Rd .u8 w' a k (oX key n M.xs C.xs) ∧ w.grownBy w' none := by
  have hl : C.xs.length = C.len := hb.1.1
  by_cases h : C.len < 16
  · refine (ropen_short key n M.val C.ad C.len C.cap w h).mono ?_
    rintro e w' ⟨rfl, hg⟩
    have h1 : oB key n M.xs C.xs = false := oB_short (by omega)
    exact ⟨none, 0, 0, by rw [h1], by rw [oX_no h1]; exact rd_nil _, hg⟩
  · obtain ⟨k, hk'⟩ : ∃ k, C.len = k + 16 := ⟨C.len - 16, by omega⟩
    have h2 : C.xs.length = k + 16 := by omega
    refine (ropen_long (oB key n M.xs C.xs) key n M C k w hk hko hn0 hn1 hm hb hlc hk' (oB_long h2).symm).mono ?_
    rintro e w' ⟨q1, q2, hg⟩
    cases hb1 : oB key n M.xs C.xs with
    | true =>
      obtain ⟨a, c, rfl, ho⟩ := q1 hb1
      exact ⟨a, k, c, rfl, by rw [oX_long h2 hb1]; exact own_reads ho hg, hg⟩
    | false =>
      obtain rfl := q2 hb1
      exact ⟨none, 0, 0, rfl, by rw [oX_no hb1]; exact rd_nil _, hg⟩
end Go.Proofs.Ythhijeokeljcjaa
