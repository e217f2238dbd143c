/- The sums over a row of parts; the law's known sums, walked. -/
import Derived.Test.YtncdbgpmhkiedaaShaK
import Derived.Test.YtncdbgpmhkiedaaShaN
import Derived.Lib.SlBytesConst
namespace Go.Proofs.Ytncdbgpmhkiedaa
set_option linter.unusedVariables false
set_option linter.unusedSimpArgs false
open Go.RowKit Go.Proofs.YtncdbgpmhkiedaaL

theorem parts_cell {w : World} {s : Nat} {T : TypeId} {L : List Bs} (h : w.heap[s]? = some (.cells (L.map Bs.val).toArray T (0, 0))) : ∀ i b, L[i]? = some b → ∃ x, some (⟨s, 0, none⟩ : Addr) = some x ∧ w.cell? (x.add i) = some b.val :=
  fun i b hb => ⟨_, rfl, by
    rw [Addr.add_mid, Nat.zero_add]
    exact row_cell h i _ (by simp [hb])⟩
theorem sum256_row (s : Nat) (L : List Bs) (n : Nat) (w : World) (h : w.heap[s]? = some (.cells (L.map Bs.val).toArray 22 (0, 0))) (hok : ∀ b ∈ L, b.ok w) (hn : L.length = n) (hlen : n ≤ 30) :
    Calls Try.prog 9 #[.slice (some ⟨s, 0, none⟩) n n] w fun e w' => e = .returned (.agg (encK .u8 (sum32 (catB L)))) ∧ w.grownBy w' none :=
  sum256_any _ n n L w hn (parts_cell h) hok hlen
theorem sum512_row (s : Nat) (L : List Bs) (n : Nat) (w : World) (h : w.heap[s]? = some (.cells (L.map Bs.val).toArray 22 (0, 0))) (hok : ∀ b ∈ L, b.ok w) (hn : L.length = n) (hlen : n ≤ 30) :
    Calls Try.prog 10 #[.slice (some ⟨s, 0, none⟩) n n] w fun e w' => e = .returned (.agg (encK .u8 (sum64 (catB L)))) ∧ w.grownBy w' none :=
  sum512_any _ n n L w hn (parts_cell h) hok hlen
/-- Bytes of a block as a part. -/
theorem block_ok {w : World} {g n : Nat} {xs : List Int} {T : TypeId} {fr : Nat × Nat} (h : w.heap[g]? = some (.cells (encK .u8 xs) T fr)) (hl : xs.length = n) (ho : okB 256 xs) (hn : n ≤ 3000) : (⟨some ⟨g, 0, none⟩, n, n, xs⟩ : Bs).ok w :=
  ⟨⟨hl, fun i hi => ⟨⟨g, 0, none⟩, rfl, by
    have hi' : i < xs.length := by rw [hl]; exact hi
    rw [Addr.add_mid, Nat.zero_add]
    simp [World.cell?, h, encK, hi']⟩⟩, ho, (fun h => by cases h), hn⟩

theorem abc256 (w : World) : Calls Try.prog 9 #[.slice (some ⟨w.heap.size + 1, 0, none⟩) 1 1] ((w.alloc (.cells #[.int .u8 97, .int .u8 98, .int .u8 99] 5 (3, 4))).alloc (.cells #[.slice (some ⟨w.heap.size, 0, none⟩) 3 3] 22)) fun e w' => e = .returned (.agg (encK .u8 abcO)) ∧ w.grownBy w' none := by
  have h1 : ((w.alloc (.cells #[.int .u8 97, .int .u8 98, .int .u8 99] 5 (3, 4))).alloc (.cells #[.slice (some ⟨w.heap.size, 0, none⟩) 3 3] 22)).heap[w.heap.size]? = some (.cells (encK .u8 [97, 98, 99]) 5 (3, 4)) :=
    (alloc_up _ _ (by rw [alloc_size]; omega)).trans (alloc_at _ _ rfl)
  refine (sum256_row (w.heap.size + 1) [⟨some ⟨w.heap.size, 0, none⟩, 3, 3, [97, 98, 99]⟩] 1 _ (alloc_at _ _ (by rw [alloc_size])) (fun b hb => ?_) rfl (by decide)).mono ?_
  · rw [List.mem_singleton] at hb
    subst hb
    exact block_ok h1 rfl (by unfold okB; decide) (by decide)
  · rintro e w' ⟨rfl, g⟩
    refine ⟨?_, grown_trans (grown_alloc (grown_alloc (grown_refl w none) _) _) g⟩
    rw [show catB [(⟨some ⟨w.heap.size, 0, none⟩, 3, 3, [97, 98, 99]⟩ : Bs)] = [97, 98, 99] from rfl, abc_sum]
theorem abc512 (w : World) : Calls Try.prog 10 #[.slice (some ⟨w.heap.size + 1, 0, none⟩) 1 1] ((w.alloc (.cells #[.int .u8 97, .int .u8 98, .int .u8 99] 5 (3, 4))).alloc (.cells #[.slice (some ⟨w.heap.size, 0, none⟩) 3 3] 22)) fun e w' => e = .returned (.agg (encK .u8 abdO)) ∧ w.grownBy w' none := by
  have h1 : ((w.alloc (.cells #[.int .u8 97, .int .u8 98, .int .u8 99] 5 (3, 4))).alloc (.cells #[.slice (some ⟨w.heap.size, 0, none⟩) 3 3] 22)).heap[w.heap.size]? = some (.cells (encK .u8 [97, 98, 99]) 5 (3, 4)) :=
    (alloc_up _ _ (by rw [alloc_size]; omega)).trans (alloc_at _ _ rfl)
  refine (sum512_row (w.heap.size + 1) [⟨some ⟨w.heap.size, 0, none⟩, 3, 3, [97, 98, 99]⟩] 1 _ (alloc_at _ _ (by rw [alloc_size])) (fun b hb => ?_) rfl (by decide)).mono ?_
  · rw [List.mem_singleton] at hb
    subst hb
    exact block_ok h1 rfl (by unfold okB; decide) (by decide)
  · rintro e w' ⟨rfl, g⟩
    refine ⟨?_, grown_trans (grown_alloc (grown_alloc (grown_refl w none) _) _) g⟩
    rw [show catB [(⟨some ⟨w.heap.size, 0, none⟩, 3, 3, [97, 98, 99]⟩ : Bs)] = [97, 98, 99] from rfl, abd_sum]
set_option maxHeartbeats 4000000 in
set_option maxRecDepth 100000 in
theorem known_any (w : World) : Calls Try.prog 6 #[] w fun e w' => e = .returned (.bool true) ∧ w.grownBy w' none := by
  have HK := Lib.hid (own_start w)
  have kc := fun (w : World) (C : Array Value) (n c : Nat) => Lib.run_convert_bytes_const (P := Try.prog) w 22 5 C n c Try.underlying22 Try.underlying5
  go_enter Try.func6, Try.ntmps6
  go_wp2_with fail
  refine (abc256 w).mono ?_
  rintro e w1 ⟨rfl, g⟩
  have hk := HK.out.grow g
  clear HK
  have HK := Lib.hid hk
  clear hk
  clear g
  obtain ⟨S, hS⟩ : ∃ S, S = abcO := ⟨_, rfl⟩
  rw [← hS]
  have HS := Lib.hid hS
  clear hS
  go_wp2_with fail
  refine (abc512 w1).mono ?_
  rintro e w2 ⟨rfl, g⟩
  have hk := HK.out.grow g
  clear HK
  have HK := Lib.hid hk
  clear hk
  clear g kc
  obtain ⟨T, hT⟩ : ∃ T, T = abdO := ⟨_, rfl⟩
  rw [← hT]
  have HT := Lib.hid hT
  clear hT
  have HSL := Lib.hid (show S.length = 32 by rw [HS.out]; rfl)
  have HTL := Lib.hid (show T.length = 64 by rw [HT.out]; rfl)
  have s0 : S[0]?.getD 0 = 186 := by rw [HS.out]; rfl
  have s1 : S[1]?.getD 0 = 120 := by rw [HS.out]; rfl
  have s2 : S[31]?.getD 0 = 173 := by rw [HS.out]; rfl
  have t0 : T[0]?.getD 0 = 221 := by rw [HT.out]; rfl
  have t1 : T[1]?.getD 0 = 175 := by rw [HT.out]; rfl
  have t2 : T[63]?.getD 0 = 159 := by rw [HT.out]; rfl
  go_wp2_with ((refine wpList_new_ints rfl HK.out _ rfl .u8 25 32 (zer 32) (length_zer _) (fun w => by go_simp; first | exact ⟨rfl, rfl⟩ | kernel_rfl) ?_))
  intro wn pa hkn
  have HKN := Lib.hid hkn
  clear hkn HK
  have HK := HKN
  clear HKN
  go_wp2_with ((refine wpList_new_ints rfl HK.out _ rfl .u8 27 64 (zer 64) (length_zer _) (fun w => by go_simp; first | exact ⟨rfl, rfl⟩ | kernel_rfl) ?_))
  intro wn pb hkn
  have HKN := Lib.hid hkn
  clear hkn HK
  have HK := HKN
  clear HKN
  go_wp2_with (first | (refine wpList_put_row rfl HK.out 25 _ _ rfl _ _ S rfl rfl _ _ _ (by first | exact Upd.here _ | exact Upd.next _ (Upd.here _) | exact Upd.next _ (Upd.next _ (Upd.here _)) | exact Upd.next _ (Upd.next _ (Upd.next _ (Upd.here _))) | exact Upd.next _ (Upd.next _ (Upd.next _ (Upd.next _ (Upd.here _)))) | exact Upd.next _ (Upd.next _ (Upd.next _ (Upd.next _ (Upd.next _ (Upd.here _))))) | exact Upd.next _ (Upd.next _ (Upd.next _ (Upd.next _ (Upd.next _ (Upd.next _ (Upd.here _)))))) | exact Upd.next _ (Upd.next _ (Upd.next _ (Upd.next _ (Upd.next _ (Upd.next _ (Upd.next _ (Upd.here _))))))) | exact Upd.next _ (Upd.next _ (Upd.next _ (Upd.next _ (Upd.next _ (Upd.next _ (Upd.next _ (Upd.next _ (Upd.here _)))))))) | exact Upd.next _ (Upd.next _ (Upd.next _ (Upd.next _ (Upd.next _ (Upd.next _ (Upd.next _ (Upd.next _ (Upd.next _ (Upd.here _)))))))))) (by exact HSL.out) (by kernel_rfl) ?_; (intro wn hkn; have HKN := Lib.hid hkn; clear hkn; clear HK; have HK := HKN; clear HKN)) | (refine wpList_put_row rfl HK.out 27 _ _ rfl _ _ T rfl rfl _ _ _ (by first | exact Upd.here _ | exact Upd.next _ (Upd.here _) | exact Upd.next _ (Upd.next _ (Upd.here _)) | exact Upd.next _ (Upd.next _ (Upd.next _ (Upd.here _))) | exact Upd.next _ (Upd.next _ (Upd.next _ (Upd.next _ (Upd.here _)))) | exact Upd.next _ (Upd.next _ (Upd.next _ (Upd.next _ (Upd.next _ (Upd.here _))))) | exact Upd.next _ (Upd.next _ (Upd.next _ (Upd.next _ (Upd.next _ (Upd.next _ (Upd.here _)))))) | exact Upd.next _ (Upd.next _ (Upd.next _ (Upd.next _ (Upd.next _ (Upd.next _ (Upd.next _ (Upd.here _))))))) | exact Upd.next _ (Upd.next _ (Upd.next _ (Upd.next _ (Upd.next _ (Upd.next _ (Upd.next _ (Upd.next _ (Upd.here _)))))))) | exact Upd.next _ (Upd.next _ (Upd.next _ (Upd.next _ (Upd.next _ (Upd.next _ (Upd.next _ (Upd.next _ (Upd.next _ (Upd.here _)))))))))) (by exact HTL.out) (by kernel_rfl) ?_; (intro wn hkn; have HKN := Lib.hid hkn; clear hkn; clear HK; have HK := HKN; clear HKN)) | (refine wpList_get_int rfl HK.out _ _ rfl _ _ rfl _ _ _ _ (by first | exact Has.here _ | exact Has.next _ (Has.here _) | exact Has.next _ (Has.next _ (Has.here _)) | exact Has.next _ (Has.next _ (Has.next _ (Has.here _))) | exact Has.next _ (Has.next _ (Has.next _ (Has.next _ (Has.here _)))) | exact Has.next _ (Has.next _ (Has.next _ (Has.next _ (Has.next _ (Has.here _))))) | exact Has.next _ (Has.next _ (Has.next _ (Has.next _ (Has.next _ (Has.next _ (Has.here _)))))) | exact Has.next _ (Has.next _ (Has.next _ (Has.next _ (Has.next _ (Has.next _ (Has.next _ (Has.here _))))))) | exact Has.next _ (Has.next _ (Has.next _ (Has.next _ (Has.next _ (Has.next _ (Has.next _ (Has.next _ (Has.here _)))))))) | exact Has.next _ (Has.next _ (Has.next _ (Has.next _ (Has.next _ (Has.next _ (Has.next _ (Has.next _ (Has.next _ (Has.here _)))))))))) rfl (by omega) ?_))
  exact bodyPost_ret (results_tmp rfl _ _ _) rfl ⟨rfl, HK.out.grown⟩
end Go.Proofs.Ytncdbgpmhkiedaa
