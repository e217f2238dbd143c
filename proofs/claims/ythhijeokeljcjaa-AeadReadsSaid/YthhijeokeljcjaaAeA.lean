/- Numbers of eight bytes, noughts up to whole blocks, walked: the program's. -/
import Derived.Test.YthhijeokeljcjaaArp
import Derived.Test.YthhijeokeljcjaaZer
import Derived.Test.YthhijeokeljcjaaVal
import Derived.Test.YthhijeokeljcjaaBs
import Derived.Test.YthhijeokeljcjaaChaY
namespace Go.Proofs.Ythhijeokeljcjaa
set_option linter.unusedVariables false
set_option linter.unusedSimpArgs false
open Go.RowKit Go.Proofs.YthhijeokeljcjaaL

def lenOf : Value → Nat
  | .slice _ n _ => n
  | _ => 0
theorem ok_app {B : Int} {s t : List Int} (hs : okB B s) (ht : okB B t) : okB B (s ++ t) := fun x hx => by
  rcases List.mem_append.1 hx with hx | hx
  · exact hs x hx
  · exact ht x hx
theorem pow8 (k : Nat) : (2 : Int) ^ (8 * k) = 256 ^ k := by rw [Int.pow_mul]; rfl
/-- Eight bytes of a number, the lowest first. -/
def le8 (n : Int) : List Int := digB 256 8 n
theorem length_le8 (n : Int) : (le8 n).length = 8 := length_digB _ _ _
theorem ok_le8 (n : Int) : okB 256 (le8 n) := ok_digB (by decide) _ _
def fillN (n : Nat) : Nat := (16 - n % 16) % 16

set_option maxHeartbeats 8000000 in
set_option maxRecDepth 100000 in
theorem number_any (n : Int) (w : World) (hn0 : 0 ≤ n) (hn1 : n < 18446744073709551616) :
    Calls Try.prog 20 #[.int .u64 n] w fun e w' => ∃ a c, e = .returned (.slice a 8 c) ∧ w'.ownsRow w.heap.size 5 1 (.slice a 8 c) 8 ((le8 n).map (Value.int .u8)) ∧ w.grownBy w' none := by
  have HN0 := Lib.hid hn0
  have HN1 := Lib.hid hn1
  clear hn1
  have HK := Lib.hid ((own_start w).nil 5 .u8)
  go_enter Try.func20, Try.ntmps20
  go_wp2_with fail
  go_loopw [3, 5] (fun v i wr => ∃ (k : Nat) (a : Option Addr) (c : Nat), k ≤ 8 ∧ i = .int .i64 k ∧ v = .slice a k c ∧ Hid (Own w wr [.sl 5 .u8 a k c (digB 256 k n)])) (fun v _ _ => 8 - (lenOf v))
  case atStart => exact ⟨0, none, 0, by omega, rfl, rfl, HK⟩
  case round =>
    obtain ⟨k, a, c, hk, rfl, rfl, HK'⟩ := hrel
    clear HK
    have HK := HK'
    clear HK'
    by_cases hlt : k < 8
    · have hk8 : (k : Int) < 8 := by omega
      have hk0 : (0 : Int) ≤ k := by omega
      have hk1 : 0 ≤ 8 * (k : Int) := by omega
      have HD := Lib.hid (digB_next 256 (by decide) k n)
      go_wp2_with (at_builtin; refine wpList_push_own rfl HK.out _ _ 24 rfl 5 (.int .u8 0) 1 Try.underlying24 (by kernel_rfl) rfl .u8 _ _ _ _ rfl (by first | exact Del.here _ | exact Del.next _ (Del.here _) | exact Del.next _ (Del.next _ (Del.here _)) | exact Del.next _ (Del.next _ (Del.next _ (Del.here _))) | exact Del.next _ (Del.next _ (Del.next _ (Del.next _ (Del.here _)))) | exact Del.next _ (Del.next _ (Del.next _ (Del.next _ (Del.next _ (Del.here _))))) | exact Del.next _ (Del.next _ (Del.next _ (Del.next _ (Del.next _ (Del.next _ (Del.here _)))))) | exact Del.next _ (Del.next _ (Del.next _ (Del.next _ (Del.next _ (Del.next _ (Del.next _ (Del.here _))))))) | exact Del.next _ (Del.next _ (Del.next _ (Del.next _ (Del.next _ (Del.next _ (Del.next _ (Del.next _ (Del.here _)))))))) | exact Del.next _ (Del.next _ (Del.next _ (Del.next _ (Del.next _ (Del.next _ (Del.next _ (Del.next _ (Del.next _ (Del.here _)))))))))) _ _ _ rfl (by unfold maxLen; omega) (by omega) ?_)
      intro a2 c2 w3 hk
      rw [pow8, ← HD.out] at hk
      clear HK
      have HK := Lib.hid hk
      clear hk
      go_wp2_with fail
      exact ⟨⟨k + 1, a2, c2, by omega, by go_num, rfl, HK⟩, by simp [lenOf]; omega⟩
    · have hk2 : k = 8 := by omega
      subst hk2
      clear hlt hk
      rw [show ((8 : Nat) : Int) = 8 from rfl]
      go_wp2_with fail
      exact bodyPost_ret (results_tmp rfl _ _ _) rfl ⟨a, c, rfl, HK.out.get (.here _), HK.out.grown⟩

set_option maxHeartbeats 8000000 in
set_option maxRecDepth 100000 in
theorem fill_any (a : Option Addr) (n c : Nat) (w : World) (hn : n ≤ 3000) :
    Calls Try.prog 22 #[.slice a n c] w fun e w' => ∃ p, e = .returned (.slice (some ⟨p, 0, none⟩) (fillN n) (fillN n)) ∧ w'.ownsRow w.heap.size 5 1 (.slice (some ⟨p, 0, none⟩) (fillN n) (fillN n)) (fillN n) ((zer (fillN n)).map (Value.int .u8)) ∧ w.grownBy w' none := by
  obtain ⟨m, hm⟩ : ∃ m, m = fillN n := ⟨_, rfl⟩
  have hm16 : m < 16 := by rw [hm]; unfold fillN; omega
  have HM := Lib.hid (show (16 - (n : Int) % 16) % 16 = m by rw [hm]; unfold fillN; omega)
  rw [← hm]
  clear hm
  have hn3 : (n : Int) ≤ 3000 := by omega
  have hmb : 1 * m ≤ 281474976710656 := by omega
  have hm6 : (m : Int) ≤ 9223372036854775807 := by omega
  have HK := Lib.hid (own_start w)
  go_enter Try.func22, Try.ntmps22
  go_wp2_with (refine Go.Proofs.YthhijeokeljcjaaL.wpList_make_ints rfl HK.out _ _ 24 rfl 5 .u8 1 Try.underlying24 (by kernel_rfl) m _ rfl rfl HM.out hmb hm6 ?_)
  intro wn p hk
  clear HK
  have HK := Lib.hid hk
  clear hk
  go_wp2_with fail
  have ho := (HK.out.ints_sl (.here _) (by unfold maxLen; omega)).get (.here _)
  exact bodyPost_ret (results_tmp rfl _ _ _) rfl ⟨p, rfl, ho, HK.out.grown⟩
end Go.Proofs.Ythhijeokeljcjaa
