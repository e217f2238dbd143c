/- Numbers, their bytes highest first: the program's number, the reference's PutU. -/
import Derived.Test.YtmankjhopfilaaaArp
import Derived.Test.YtmankjhopfilaaaZer
import Derived.Test.YtmankjhopfilaaaVal
import Derived.Test.YtmankjhopfilaaaBs
namespace Go.Proofs.Ytmankjhopfilaaa
set_option linter.unusedVariables false
set_option linter.unusedSimpArgs false
open Go.RowKit Go.Proofs.YtmankjhopfilaaaL

def lenOf : Value → Nat
  | .slice _ n _ => n
  | _ => 0
theorem ok_app {B : Int} {s t : List Int} (hs : okB B s) (ht : okB B t) : okB B (s ++ t) := fun x hx => by
  rcases List.mem_append.1 hx with hx | hx
  · exact hs x hx
  · exact ht x hx
theorem pow8 (k : Nat) : (2 : Int) ^ (8 * k) = 256 ^ k := by rw [Int.pow_mul]; rfl
/-- k bytes of a number, the highest first. -/
def beB (n : Int) : Nat → List Int
  | 0 => []
  | k + 1 => (n / 256 ^ k % 256) :: beB n k
theorem length_beB (n : Int) : ∀ k, (beB n k).length = k
  | 0 => rfl
  | k + 1 => by simp [beB, length_beB n k]
theorem ok_beB (n : Int) : ∀ k, okB 256 (beB n k)
  | 0 => fun x hx => by cases hx
  | k + 1 => fun x hx => by
    rcases List.mem_cons.1 hx with hx | hx
    · subst hx; omega
    · exact ok_beB n k x hx
theorem beB_zero (n : Int) : beB n 0 = [] := rfl
theorem beB_next (n : Int) (k : Nat) (s t : List Int) (h : s ++ beB n (k + 1) = t) : (s ++ [n / 256 ^ k % 256]) ++ beB n k = t := by
  rw [← h]; simp [beB]

set_option maxHeartbeats 8000000 in
set_option maxRecDepth 100000 in
theorem number_any (n : Int) (m : Nat) (w : World) (hn0 : 0 ≤ n) (hn1 : n < 18446744073709551616) (hm : m ≤ 8) :
    Calls Try.prog 25 #[.int .u64 n, .int .i64 m] w fun e w' => ∃ a c, e = .returned (.slice a m c) ∧ w'.ownsRow w.heap.size 5 1 (.slice a m c) m ((beB n m).map (Value.int .u8)) ∧ w.grownBy w' none := by
  have HN0 := Lib.hid hn0
  have HN1 := Lib.hid hn1
  clear hn1
  have hm1 : (m : Int) ≤ 8 := by omega
  have HK := Lib.hid ((own_start w).nil 5 .u8)
  go_enter Try.func25, Try.ntmps25
  go_wp2_with fail
  go_loopw [5, 6] (fun v i wr => ∃ (j k : Nat) (a : Option Addr) (c : Nat) (s : List Int), Hid (j + k = m) ∧ i = .int .i64 ((k : Int) - 1) ∧ v = .slice a j c ∧ Hid (s ++ beB n k = beB n m) ∧ Hid (Own w wr [.sl 5 .u8 a j c s])) (fun v _ _ => 8 - (lenOf v))
  case atStart => exact ⟨0, m, none, 0, [], Lib.hid (by omega), rfl, rfl, Lib.hid rfl, HK⟩
  case round =>
    obtain ⟨j, k, a, c, s, hjk, rfl, rfl, hs, HK'⟩ := hrel
    clear HK
    have HK := HK'
    clear HK'
    cases k with
    | zero =>
      have hj : j = m := by have := hjk.out; omega
      rw [show ((0 : Nat) : Int) - 1 = -1 from rfl]
      subst hj
      have hs1 : s = beB n j := by have := hs.out; simpa [beB] using this
      subst hs1
      clear hs hjk
      go_wp2_with fail
      exact bodyPost_ret (results_tmp rfl _ _ _) rfl ⟨a, c, rfl, HK.out.get (.here _), HK.out.grown⟩
    | succ k =>
      rw [show ((k + 1 : Nat) : Int) - 1 = (k : Int) by omega]
      have hk8 : (k : Int) < 8 := by have := hjk.out; omega
      have hk0 : (0 : Int) ≤ k := by omega
      have hk1 : 0 ≤ 8 * (k : Int) := by omega
      have HS := Lib.hid (beB_next n k s _ hs.out)
      have hj8 : j < 8 := by have := hjk.out; omega
      have HJK := Lib.hid (show (j + 1) + k = m by have := hjk.out; omega)
      clear hs hjk
      go_wp2_with (at_builtin; refine wpList_push_own rfl HK.out _ _ 27 rfl 5 (.int .u8 0) 1 Try.underlying27 (by kernel_rfl) rfl .u8 _ _ _ _ rfl (by first | exact Del.here _ | exact Del.next _ (Del.here _) | exact Del.next _ (Del.next _ (Del.here _)) | exact Del.next _ (Del.next _ (Del.next _ (Del.here _))) | exact Del.next _ (Del.next _ (Del.next _ (Del.next _ (Del.here _)))) | exact Del.next _ (Del.next _ (Del.next _ (Del.next _ (Del.next _ (Del.here _))))) | exact Del.next _ (Del.next _ (Del.next _ (Del.next _ (Del.next _ (Del.next _ (Del.here _)))))) | exact Del.next _ (Del.next _ (Del.next _ (Del.next _ (Del.next _ (Del.next _ (Del.next _ (Del.here _))))))) | exact Del.next _ (Del.next _ (Del.next _ (Del.next _ (Del.next _ (Del.next _ (Del.next _ (Del.next _ (Del.here _)))))))) | exact Del.next _ (Del.next _ (Del.next _ (Del.next _ (Del.next _ (Del.next _ (Del.next _ (Del.next _ (Del.next _ (Del.here _)))))))))) _ _ _ rfl (by unfold maxLen; omega) (by omega) ?_)
      intro a2 c2 w3 hk
      rw [pow8] at hk
      clear HK
      have HK := Lib.hid hk
      clear hk
      go_wp2_with fail
      exact ⟨⟨j + 1, k, a2, c2, _, HJK, by go_num, rfl, HS, HK⟩, by simp [lenOf]; omega⟩

set_option maxHeartbeats 8000000 in
set_option maxRecDepth 100000 in
theorem putU_own {w0 : World} {L : List It} {a0 : Option Addr} {j0 c0 : Nat} {xs : List Int} (n : Int) (m : Nat) {w : World} (hk : Own w0 w (.sl 5 .u8 a0 j0 c0 xs :: L)) (hn0 : 0 ≤ n) (hn1 : n < 18446744073709551616) (hm : m ≤ 8) (hj : j0 ≤ 3000) :
    Calls Try.prog 30 #[.slice a0 j0 c0, .int .u64 n, .int .i64 m] w fun e w' => ∃ a c, e = .returned (.slice a (j0 + m) c) ∧ Own w0 w' (.sl 5 .u8 a (j0 + m) c (xs ++ beB n m) :: L) := by
  have HN0 := Lib.hid hn0
  have HN1 := Lib.hid hn1
  clear hn1
  have hm1 : (m : Int) ≤ 8 := by omega
  have HK := Lib.hid hk
  clear hk
  go_enter Try.func30, Try.ntmps30
  go_wp2_with fail
  go_loopw [0, 7] (fun v i wr => ∃ (j k : Nat) (a : Option Addr) (c : Nat) (s : List Int), Hid (j + k = j0 + m ∧ k ≤ m) ∧ i = .int .i64 ((k : Int) - 1) ∧ v = .slice a j c ∧ Hid (s ++ beB n k = xs ++ beB n m) ∧ Hid (Own w0 wr (.sl 5 .u8 a j c s :: L))) (fun v _ _ => 4000 - (lenOf v))
  case atStart => exact ⟨j0, m, a0, c0, xs, Lib.hid ⟨rfl, Nat.le_refl _⟩, rfl, rfl, Lib.hid rfl, HK⟩
  case round =>
    obtain ⟨j, k, a, c, s, hjk, rfl, rfl, hs, HK'⟩ := hrel
    clear HK
    have HK := HK'
    clear HK'
    cases k with
    | zero =>
      have hj : j = j0 + m := by have := hjk.out.1; omega
      rw [show ((0 : Nat) : Int) - 1 = -1 from rfl]
      have hs1 : s = xs ++ beB n m := by have := hs.out; simpa [beB_zero] using this
      subst hs1
      subst hj
      clear hs hjk
      go_wp2_with fail
      exact bodyPost_ret (results_tmp rfl _ _ _) rfl ⟨a, c, rfl, HK.out⟩
    | succ k =>
      rw [show ((k + 1 : Nat) : Int) - 1 = (k : Int) by omega]
      have hk8 : (k : Int) < 8 := by have := hjk.out; omega
      have hk0 : (0 : Int) ≤ k := by omega
      have hk1 : 0 ≤ 8 * (k : Int) := by omega
      have HS := Lib.hid (beB_next n k s _ hs.out)
      have hj8 : j < 3008 := by have := hjk.out; omega
      have HJK := Lib.hid (show (j + 1) + k = j0 + m ∧ k ≤ m by have := hjk.out; omega)
      clear hs hjk
      go_wp2_with (at_builtin; refine wpList_push_own rfl HK.out _ _ 27 rfl 5 (.int .u8 0) 1 Try.underlying27 (by kernel_rfl) rfl .u8 _ _ _ _ rfl (by first | exact Del.here _ | exact Del.next _ (Del.here _) | exact Del.next _ (Del.next _ (Del.here _)) | exact Del.next _ (Del.next _ (Del.next _ (Del.here _))) | exact Del.next _ (Del.next _ (Del.next _ (Del.next _ (Del.here _)))) | exact Del.next _ (Del.next _ (Del.next _ (Del.next _ (Del.next _ (Del.here _))))) | exact Del.next _ (Del.next _ (Del.next _ (Del.next _ (Del.next _ (Del.next _ (Del.here _)))))) | exact Del.next _ (Del.next _ (Del.next _ (Del.next _ (Del.next _ (Del.next _ (Del.next _ (Del.here _))))))) | exact Del.next _ (Del.next _ (Del.next _ (Del.next _ (Del.next _ (Del.next _ (Del.next _ (Del.next _ (Del.here _)))))))) | exact Del.next _ (Del.next _ (Del.next _ (Del.next _ (Del.next _ (Del.next _ (Del.next _ (Del.next _ (Del.next _ (Del.here _)))))))))) _ _ _ rfl (by unfold maxLen; omega) (by omega) ?_)
      intro a2 c2 w3 hk
      rw [pow8] at hk
      clear HK
      have HK := Lib.hid hk
      clear hk
      go_wp2_with fail
      exact ⟨⟨j + 1, k, a2, c2, _, HJK, by go_num, rfl, HS, HK⟩, by simp [lenOf]; omega⟩

/-- The number of bytes, the highest first. -/
def beV (s : List Int) : Int := s.foldl (fun n c => n * 256 + c) 0
theorem beV_nil : beV [] = 0 := rfl
theorem beV_add (s : List Int) (c : Int) : beV (s ++ [c]) = beV s * 256 + c := by simp [beV]
theorem beV_range : ∀ (k : Nat) (s : List Int), s.length = k → okB 256 s → 0 ≤ beV s ∧ beV s < 256 ^ k := by
  intro k
  induction k with
  | zero => intro s h _; rw [List.length_eq_zero_iff.1 h]; exact ⟨by decide, by decide⟩
  | succ k ih =>
    intro s h ho
    obtain ⟨t, c, rfl⟩ : ∃ t c, s = t ++ [c] := ⟨s.dropLast, s.getLast (by intro e; subst e; cases h), (List.dropLast_concat_getLast _).symm⟩
    have h1 : t.length = k := by simpa using h
    have h2 := ih t h1 (fun x hx => ho x (List.mem_append_left _ hx))
    have h3 := ho c (by simp)
    rw [beV_add, Int.pow_succ]; omega
theorem beV_next (xs : List Int) (k : Nat) (h : k < xs.length) : beV (xs.take (k + 1)) = beV (xs.take k) * 256 + xs.getD k 0 := by
  rw [take_next xs k h, beV_add]
theorem beV_take (xs : List Int) (ho : okB 256 xs) (k : Nat) (h : k < 8) (hl : k ≤ xs.length) : 0 ≤ beV (xs.take k) ∧ beV (xs.take k) < 72057594037927936 := by
  have h1 := beV_range k (xs.take k) (by rw [List.length_take]; omega) (fun x hx => ho x (List.mem_of_mem_take hx))
  refine ⟨h1.1, Int.lt_of_lt_of_le h1.2 ?_⟩
  rw [show (72057594037927936 : Int) = 256 ^ 7 from rfl]
  exact ipow_le (by decide) (by omega)
theorem or_shl (x c : Int) (hx : 0 ≤ x) (hx1 : x < 72057594037927936) (hc : 0 ≤ c) (hc1 : c < 256) : bits .or .u64 (x * 256) c = x * 256 + c := by
  have h := u64_or_add c x 8 hc (by omega) (by omega) hx (by omega)
  rw [show bits .or .u64 (x * 256) c = bits .or .u64 c (x * 256) from ?_]
  · rw [show (2 : Int) ^ 8 = 256 from rfl] at h; rw [h]; omega
  · rw [u64_or _ _ (by omega) (by omega) hc (by omega), u64_or _ _ hc (by omega) (by omega) (by omega), Nat.or_comm]
theorem rdx_at {k : IntKind} {w : World} {x : Addr} {len : Nat} {xs : List Int} (h : Rd k w (some x) len xs) (i : Nat) (hi : i < len) : w.cell? (x.add i) = some (.int k (xs.getD i 0)) := by
  obtain ⟨y, hy, hc⟩ := h.2 i hi
  injection hy with hy
  subst hy
  exact hc
def intOf : Value → Int
  | .int _ n => n
  | _ => 0

set_option maxHeartbeats 8000000 in
set_option maxRecDepth 100000 in
theorem value_any (a : Option Addr) (n c : Nat) (xs : List Int) (w : World) (h : Rd .u8 w a n xs) (ho : okB 256 xs) (hn : n ≤ 8) :
    Calls Try.prog 38 #[.slice a n c] w fun e w' => e = .returned (.int .u64 (beV xs)) ∧ w' = w := by
  have hl := h.1
  have HL := Lib.hid hl
  have HX := Lib.hid h
  have HO := Lib.hid ho
  clear h ho hl
  have hn1 : (n : Int) ≤ 8 := by omega
  go_enter Try.func38, Try.ntmps38
  go_wp2_with fail
  go_loopw [3, 8] (fun v i wr => ∃ (j : Nat), j ≤ n ∧ i = .int .i64 j ∧ v = .int .u64 (beV (xs.take j)) ∧ Hid (wr = w)) (fun _ v _ => n - (intOf v).toNat)
  case atStart => exact ⟨0, by omega, rfl, rfl, Lib.hid rfl⟩
  case round =>
    obtain ⟨j, hj, rfl, rfl, HW⟩ := hrel
    have hw := HW.out
    subst hw
    clear HW
    by_cases hlt : j < n
    · obtain ⟨x, hx, -⟩ := HX.out.2 j hlt
      subst hx
      have hj0 : (0 : Int) ≤ j := by omega
      have hj1 : (j : Int) < n := by omega
      have hr := beV_take xs HO.out j (by omega) (by have := HL.out; omega)
      have HN := Lib.hid (beV_next xs j (by have := HL.out; omega))
      obtain ⟨y, hy⟩ : ∃ y, y = beV (xs.take j) := ⟨_, rfl⟩
      rw [← hy] at hr ⊢
      rw [← hy] at HN
      clear hy
      have c0 := rdx_at HX.out j hlt
      have hc := ok_getD (by decide) HO.out j
      obtain ⟨z, hz⟩ : ∃ z, z = xs.getD j 0 := ⟨_, rfl⟩
      rw [← hz] at HN c0 hc
      clear hz
      have HR := Lib.hid (or_shl y z hr.1 hr.2 hc.1 hc.2)
      obtain ⟨r0, r1⟩ := hr
      obtain ⟨r2, r3⟩ := hc
      go_wp2_with fail
      exact ⟨⟨j + 1, by omega, by go_num, by rw [HR.out, HN.out], Lib.hid trivial⟩, by simp only [intOf]; omega⟩
    · have hj2 : j = n := by omega
      subst hj2
      rw [show xs.take j = xs by rw [List.take_of_length_le (by have := HL.out; omega)]]
      go_wp2_with fail
      exact bodyPost_ret (results_tmp rfl _ _ _) rfl ⟨rfl, rfl⟩
set_option maxHeartbeats 8000000 in
set_option maxRecDepth 100000 in
theorem readU_any (a : Option Addr) (l n c : Nat) (xs : List Int) (w : World) (h : Rd .u8 w a l xs) (ho : okB 256 xs) (hn : n ≤ 8) (hnl : n ≤ l) :
    Calls Try.prog 22 #[.slice a l c, .int .i64 n] w fun e w' => e = .returned (.int .u64 (beV (xs.take n))) ∧ w' = w := by
  have hl := h.1
  have HL := Lib.hid hl
  have HX := Lib.hid h
  have HO := Lib.hid ho
  clear h ho hl
  have hn1 : (n : Int) ≤ 8 := by omega
  go_enter Try.func22, Try.ntmps22
  go_wp2_with fail
  go_loopw [5, 6] (fun v i wr => ∃ (j : Nat), j ≤ n ∧ i = .int .i64 j ∧ v = .int .u64 (beV (xs.take j)) ∧ Hid (wr = w)) (fun _ v _ => n - (intOf v).toNat)
  case atStart => exact ⟨0, by omega, rfl, rfl, Lib.hid rfl⟩
  case round =>
    obtain ⟨j, hj, rfl, rfl, HW⟩ := hrel
    have hw := HW.out
    subst hw
    clear HW
    by_cases hlt : j < n
    · have hjl : (j : Int) < l := by omega
      obtain ⟨x, hx, -⟩ := HX.out.2 j (by omega)
      subst hx
      have hj0 : (0 : Int) ≤ j := by omega
      have hj1 : (j : Int) < n := by omega
      have hr := beV_take xs HO.out j (by omega) (by have := HL.out; omega)
      have HN := Lib.hid (beV_next xs j (by have := HL.out; omega))
      obtain ⟨y, hy⟩ : ∃ y, y = beV (xs.take j) := ⟨_, rfl⟩
      rw [← hy] at hr ⊢
      rw [← hy] at HN
      clear hy
      have c0 := rdx_at HX.out j (by omega)
      have hc := ok_getD (by decide) HO.out j
      obtain ⟨z, hz⟩ : ∃ z, z = xs.getD j 0 := ⟨_, rfl⟩
      rw [← hz] at HN c0 hc
      clear hz
      have HR := Lib.hid (or_shl y z hr.1 hr.2 hc.1 hc.2)
      obtain ⟨r0, r1⟩ := hr
      obtain ⟨r2, r3⟩ := hc
      go_wp2_with fail
      exact ⟨⟨j + 1, by omega, by go_num, by rw [HR.out, HN.out], Lib.hid trivial⟩, by simp only [intOf]; omega⟩
    · have hj2 : j = n := by omega
      subst hj2
      go_wp2_with fail
      exact bodyPost_ret (results_tmp rfl _ _ _) rfl ⟨rfl, rfl⟩
end Go.Proofs.Ytmankjhopfilaaa
