/- poly's reference: the key's first half. -/
import Derived.Test.YthhijeokeljcjaaPolG
import Derived.Test.YthhijeokeljcjaaPolK
namespace Go.Proofs.Ythhijeokeljcjaa
set_option linter.unusedVariables false
set_option linter.unusedSimpArgs false
open Go.RowKit Go.Proofs.YthhijeokeljcjaaL

theorem nat_and_cons (x m X M : Nat) (hx : x < 256) (hm : m < 256) : (x + 256 * X) &&& (m + 256 * M) = (x &&& m) + 256 * (X &&& M) := by
  apply Nat.eq_of_testBit_eq
  intro i
  have h1 : x &&& m < 2 ^ 8 := Nat.and_lt_two_pow _ hm
  rw [Nat.testBit_and, Nat.add_comm x, Nat.add_comm m, Nat.add_comm (x &&& m), show 256 = 2 ^ 8 from rfl, Nat.testBit_two_pow_mul_add X hx, Nat.testBit_two_pow_mul_add M hm, Nat.testBit_two_pow_mul_add (X &&& M) h1]
  split
  · rw [Nat.testBit_and]
  · rw [Nat.testBit_and]
/-- Bytes' and. -/
def andB : List Int → List Int → List Int
  | x :: r, m :: s => ((x.toNat &&& m.toNat : Nat) : Int) :: andB r s
  | _, _ => []
theorem and_num : ∀ (xs ms : List Int), okB 256 xs → okB 256 ms → xs.length = ms.length → (((numB 256 xs).toNat &&& (numB 256 ms).toNat : Nat) : Int) = numB 256 (andB xs ms)
  | [], [], _, _, _ => rfl
  | x :: r, m :: s, hx, hm, hl => by
    have h1 := hx x (by simp)
    have h2 := hm m (by simp)
    have hr : okB 256 r := fun y hy => hx y (by simp [hy])
    have hs : okB 256 s := fun y hy => hm y (by simp [hy])
    have ih := and_num r s hr hs (by simpa using hl)
    have h3 := (numB_range (B := 256) (by decide) r hr).1
    have h4 := (numB_range (B := 256) (by decide) s hs).1
    rw [andB, numB, numB, numB, ← ih]
    rw [show (x + 256 * numB 256 r).toNat = x.toNat + 256 * (numB 256 r).toNat by omega, show (m + 256 * numB 256 s).toNat = m.toNat + 256 * (numB 256 s).toNat by omega, nat_and_cons _ _ _ _ (by omega) (by omega)]
    simp
/-- The key's bytes, clamped. -/
def clampR (key : List Int) : List Int := andB (key.take 16) [255, 255, 255, 15, 252, 255, 255, 15, 252, 255, 255, 15, 252, 255, 255, 15]
theorem length_andB : ∀ (xs ms : List Int), xs.length = ms.length → (andB xs ms).length = ms.length
  | [], [], _ => rfl
  | x :: r, m :: s, h => by rw [andB, List.length_cons, List.length_cons, length_andB r s (by simpa using h)]
theorem andB_app : ∀ (a m b n : List Int), a.length = m.length → andB (a ++ b) (m ++ n) = andB a m ++ andB b n
  | [], [], b, n, _ => rfl
  | x :: r, y :: s, b, n, h => by rw [List.cons_append, List.cons_append, andB, andB, List.cons_append, andB_app r s b n (by simpa using h)]
theorem clampR_num {key : List Int} (h : key.length = 32) (ho : okB 256 key) : numB 256 (clampR key) = keyR key := by
  have e : key.take 16 = key.take 8 ++ (key.drop 8).take 8 := by
    rw [← List.take_add]
  have l1 : (key.take 8).length = 8 := by rw [List.length_take, h]; decide
  have l2 : ((key.drop 8).take 8).length = 8 := by rw [List.length_take, List.length_drop, h]; decide
  have o1 : okB 256 (key.take 8) := fun x hx => ho x (List.mem_of_mem_take hx)
  have o2 : okB 256 ((key.drop 8).take 8) := fun x hx => ho x (List.mem_of_mem_drop (List.mem_of_mem_take hx))
  have n1 := num8 ho
  have n2 := num8 (ok_drop ho 8)
  have m1 : okB 256 [255, 255, 255, 15, 252, 255, 255, 15] := by unfold okB; decide
  have m2 : okB 256 [252, 255, 255, 15, 252, 255, 255, 15] := by unfold okB; decide
  have h1 := and_num _ _ o1 m1 l1
  have h2 := and_num _ _ o2 m2 l2
  rw [show (numB 256 [255, 255, 255, 15, 252, 255, 255, 15]).toNat = (1152921487695413247 : Int).toNat by decide] at h1
  rw [show (numB 256 [252, 255, 255, 15, 252, 255, 255, 15]).toNat = (1152921487695413244 : Int).toNat by decide] at h2
  rw [← u64_and _ _ n1.1 n1.2 (by decide) (by decide)] at h1
  rw [← u64_and _ _ n2.1 n2.2 (by decide) (by decide)] at h2
  unfold keyR rA rB
  rw [h1, h2, clampR, e, show ([255, 255, 255, 15, 252, 255, 255, 15, 252, 255, 255, 15, 252, 255, 255, 15] : List Int) = [255, 255, 255, 15, 252, 255, 255, 15] ++ [252, 255, 255, 15, 252, 255, 255, 15] from rfl, andB_app _ _ _ _ l1, numB_append, length_andB _ _ l1]
  rfl
end Go.Proofs.Ythhijeokeljcjaa
