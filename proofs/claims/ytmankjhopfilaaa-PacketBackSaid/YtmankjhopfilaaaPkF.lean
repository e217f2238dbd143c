/- Which addresses are right. -/
import Derived.Test.YtmankjhopfilaaaPkE
namespace Go.Proofs.Ytmankjhopfilaaa
set_option linter.unusedVariables false
set_option linter.unusedSimpArgs false
open Go.RowKit Go.Proofs.YtmankjhopfilaaaL

theorem nat_high (x : Nat) (hx : x < 2 ^ 64) : x &&& (18446744073709551615 - 4294967295) = x - x % 4294967296 := by
  have e : x - x % 4294967296 = 2 ^ 32 * (x / 2 ^ 32) := by omega
  rw [e, show 18446744073709551615 - 4294967295 = 2 ^ 32 * (2 ^ 32 - 1) from rfl]
  refine Nat.eq_of_testBit_eq fun i => ?_
  rw [Nat.testBit_and, Nat.testBit_two_pow_mul, Nat.testBit_two_pow_mul, Nat.testBit_two_pow_sub_one, Nat.testBit_div_two_pow]
  by_cases h : 32 ≤ i
  · have e1 : 32 + (i - 32) = i := by omega
    by_cases h2 : i < 64
    · simp [h, show i - 32 < 32 by omega, e1, Nat.add_comm]
    · have : x.testBit i = false := Nat.testBit_lt_two_pow (Nat.lt_of_lt_of_le hx (Nat.pow_le_pow_right (by decide) (by omega)))
      simp [h, e1, this, Nat.add_comm]
  · simp [h]
theorem high64 (x : Int) (h0 : 0 ≤ x) (h1 : x < 18446744073709551616) : bits .andNot .u64 x 4294967295 = x - x % 4294967296 := by
  obtain ⟨X, rfl⟩ := Int.eq_ofNat_of_zero_le h0
  rw [show (4294967295 : Int) = ((4294967295 : Nat) : Int) from rfl, u64_andNot_nat X _ (by omega) (by decide), nat_high X (by omega)]
  omega
def Ad.right (A : Ad) : Bool := A.v6 || (A.lo == 0 && A.hi % 4294967296 == 0)

set_option maxHeartbeats 8000000 in
set_option maxRecDepth 100000 in
theorem width_any (A : Ad) (w : World) : Calls Try.prog 42 #[A.val] w fun e w' => e = .returned (.int .i64 (if A.v6 then 128 else 32)) ∧ w.grownBy w' none := by
  obtain ⟨v6, hi, lo⟩ := A
  cases v6
  · show Calls Try.prog _ #[.agg #[.bool false, .int .u64 hi, .int .u64 lo]] w fun e w' => e = .returned (.int .i64 32) ∧ w.grownBy w' none
    go_enter Try.func42, Try.ntmps42
    go_wp2_with fail
    exact bodyPost_ret (results_tmp rfl _ _ _) rfl ⟨rfl, World.grownBy_alloc _ _ _⟩
  · show Calls Try.prog _ #[.agg #[.bool true, .int .u64 hi, .int .u64 lo]] w fun e w' => e = .returned (.int .i64 128) ∧ w.grownBy w' none
    go_enter Try.func42, Try.ntmps42
    go_wp2_with fail
    exact bodyPost_ret (results_tmp rfl _ _ _) rfl ⟨rfl, World.grownBy_alloc _ _ _⟩

set_option maxHeartbeats 8000000 in
set_option maxRecDepth 100000 in
theorem masked4_any (hi lo : Int) (w : World) (h0 : 0 ≤ hi) (h1 : hi < 18446744073709551616) : Calls Try.prog 41 #[.agg #[.bool false, .int .u64 hi, .int .u64 lo], .int .i64 32] w fun e w' => e = .returned (.agg #[.bool false, .int .u64 (hi - hi % 4294967296), .int .u64 0]) ∧ w.grownBy w' none := by
  have hh := high64 hi h0 h1
  go_enter Try.func41, Try.ntmps41
  go_wp2_with fail
  exact bodyPost_ret (results_cell_row rfl _ _ (w.heap.size + 1) _ _ _ _ rfl (alloc_at _ _ (by rw [alloc_size])) Try.underlying26 rfl (by kernel_rfl)) rfl ⟨rfl, grown_trans (World.grownBy_alloc _ _ _) (World.grownBy_alloc _ _ _)⟩
set_option maxHeartbeats 8000000 in
set_option maxRecDepth 100000 in
theorem masked6_any (hi lo : Int) (w : World) : Calls Try.prog 41 #[.agg #[.bool true, .int .u64 hi, .int .u64 lo], .int .i64 128] w fun e w' => e = .returned (.agg #[.bool true, .int .u64 hi, .int .u64 lo]) ∧ w.grownBy w' none := by
  go_enter Try.func41, Try.ntmps41
  go_wp2_with fail
  exact bodyPost_ret (results_cell_row rfl _ _ (w.heap.size + 1) _ _ _ _ rfl (alloc_at _ _ (by rw [alloc_size])) Try.underlying26 rfl (by kernel_rfl)) rfl ⟨rfl, grown_trans (World.grownBy_alloc _ _ _) (World.grownBy_alloc _ _ _)⟩

set_option maxHeartbeats 8000000 in
set_option maxRecDepth 100000 in
theorem rrightAddr_any (A : Ad) (w : World) (hA : A.ok) : Calls Try.prog 29 #[A.val] w fun e w' => e = .returned (.bool A.right) ∧ w.grownBy w' none := by
  obtain ⟨v6, hi, lo⟩ := A
  obtain ⟨h0, h1, l0, l1⟩ := hA
  have h0' : 0 ≤ hi := h0
  have h1' : hi < 18446744073709551616 := h1
  have hand : bits .and .u64 hi 4294967295 = hi % 4294967296 := by
    obtain ⟨X, rfl⟩ := Int.eq_ofNat_of_zero_le h0'
    rw [u64_and _ 4294967295 h0' h1' (by decide) (by decide), Int.toNat_natCast, show (4294967295 : Int).toNat = 2 ^ 32 - 1 from rfl, Nat.and_two_pow_sub_one_eq_mod]
    rfl
  clear h0 h1 l0 l1
  cases v6
  · by_cases hl : lo = 0
    · subst hl
      show Calls Try.prog _ #[.agg #[.bool false, .int .u64 hi, .int .u64 0]] w fun e w' => e = .returned (.bool (hi % 4294967296 == 0)) ∧ w.grownBy w' none
      go_enter Try.func29, Try.ntmps29
      go_wp2_with fail
      exact bodyPost_ret (results_tmp rfl _ _ _) rfl ⟨rfl, World.grownBy_alloc _ _ _⟩
    · have hlb : (lo == 0) = false := by simpa using hl
      show Calls Try.prog _ #[.agg #[.bool false, .int .u64 hi, .int .u64 lo]] w fun e w' => e = .returned (.bool ((lo == 0) && hi % 4294967296 == 0)) ∧ w.grownBy w' none
      rw [hlb, Bool.false_and]
      go_enter Try.func29, Try.ntmps29
      go_wp2_with fail
      exact bodyPost_ret (results_tmp rfl _ _ _) rfl ⟨rfl, World.grownBy_alloc _ _ _⟩
  · show Calls Try.prog _ #[.agg #[.bool true, .int .u64 hi, .int .u64 lo]] w fun e w' => e = .returned (.bool true) ∧ w.grownBy w' none
    go_enter Try.func29, Try.ntmps29
    go_wp2_with fail
    exact bodyPost_ret (results_tmp rfl _ _ _) rfl ⟨rfl, World.grownBy_alloc _ _ _⟩

set_option maxHeartbeats 8000000 in
set_option maxRecDepth 100000 in
theorem rightAddr_any (A : Ad) (w : World) (hA : A.ok) : Calls Try.prog 36 #[A.val] w fun e w' => e = .returned (.bool A.right) ∧ w.grownBy w' none := by
  obtain ⟨v6, hi, lo⟩ := A
  obtain ⟨h0, h1, l0, l1⟩ := hA
  have h0' : 0 ≤ hi := h0
  have h1' : hi < 18446744073709551616 := h1
  clear h0 h1 l0 l1
  have HK := Lib.hid (own_start w)
  cases v6
  · show Calls Try.prog _ #[.agg #[.bool false, .int .u64 hi, .int .u64 lo]] w fun e w' => e = .returned (.bool (lo == 0 && hi % 4294967296 == 0)) ∧ w.grownBy w' none
    go_enter Try.func36, Try.ntmps36
    go_upto_region 1 with fail
    have hk := own_alloc HK.out (Obj.cells #[Value.bool false, Value.int IntKind.u64 hi, Value.int IntKind.u64 lo] 26 (0, 0))
    obtain ⟨p, hp⟩ : ∃ p, p = w.heap.size := ⟨_, rfl⟩
    rw [← hp] at hk ⊢
    clear hp
    clear HK
    have HK := Lib.hid hk
    clear hk
    refine wp_region_sep [] [.blk p (Obj.cells #[Value.bool false, Value.int IntKind.u64 hi, Value.int IntKind.u64 lo] 26 (0, 0))] [] [] 7 (by kernel_rfl) (by kernel_rfl) (w0 := w) HK.out ?_
    (try simp only [Act.put, Act.eval, List.setIfInBounds_toArray, List.set_cons_zero, List.set_cons_succ, Array.getD_eq_getD_getElem?, List.getElem?_toArray, List.getElem?_cons_succ, List.getElem?_cons_zero, Option.getD_some, Nat.reduceAdd, List.nil_append, List.cons_append, En.get])
    refine fs_read rfl (fun f => rfl) rfl (fun _ => .agg #[.bool false, .int .u64 hi, .int .u64 lo]) ?_ (fun _ _ _ => rfl) ?_
    · intro f lof w1 Lf HF HK1
      clear HF
      (try simp only [itms, itm, usesOf, readsOf, takesOf, List.find?, Nat.reduceBEq, List.flatMap_cons, List.flatMap_nil, Nat.reduceLT, if_true, if_false, Nat.reduceSub, List.getD_cons_zero, List.getD_cons_succ, List.append_nil, List.cons_append, List.nil_append, List.append_nil] at HK1)
      exact run_rowl rfl rfl (HK1.at (.here _)) Try.underlying26 rfl (by kernel_rfl)
    (try simp only [Act.put, Act.eval, List.setIfInBounds_toArray, List.set_cons_zero, List.set_cons_succ, Array.getD_eq_getD_getElem?, List.getElem?_toArray, List.getElem?_cons_succ, List.getElem?_cons_zero, Option.getD_some, Nat.reduceAdd, List.nil_append, List.cons_append, En.get])
    refine fs_read rfl (fun f => rfl) rfl (fun _ => .agg #[.bool false, .int .u64 hi, .int .u64 lo]) ?_ (fun _ _ _ => rfl) ?_
    · intro f lof w1 Lf HF HK1
      clear HF
      (try simp only [itms, itm, usesOf, readsOf, takesOf, List.find?, Nat.reduceBEq, List.flatMap_cons, List.flatMap_nil, Nat.reduceLT, if_true, if_false, Nat.reduceSub, List.getD_cons_zero, List.getD_cons_succ, List.append_nil, List.cons_append, List.nil_append, List.append_nil] at HK1)
      exact run_rowl rfl rfl (HK1.at (.here _)) Try.underlying26 rfl (by kernel_rfl)
    (try simp only [Act.put, Act.eval, List.setIfInBounds_toArray, List.set_cons_zero, List.set_cons_succ, Array.getD_eq_getD_getElem?, List.getElem?_toArray, List.getElem?_cons_succ, List.getElem?_cons_zero, Option.getD_some, Nat.reduceAdd, List.nil_append, List.cons_append, En.get])
    refine fs_read rfl (fun f => rfl) rfl (fun _ => .agg #[.bool false, .int .u64 hi, .int .u64 lo]) ?_ (fun _ _ _ => rfl) ?_
    · intro f lof w1 Lf HF HK1
      clear HF
      (try simp only [itms, itm, usesOf, readsOf, takesOf, List.find?, Nat.reduceBEq, List.flatMap_cons, List.flatMap_nil, Nat.reduceLT, if_true, if_false, Nat.reduceSub, List.getD_cons_zero, List.getD_cons_succ, List.append_nil, List.cons_append, List.nil_append, List.append_nil] at HK1)
      exact run_rowl rfl rfl (HK1.at (.here _)) Try.underlying26 rfl (by kernel_rfl)
    (try simp only [Act.put, Act.eval, List.setIfInBounds_toArray, List.set_cons_zero, List.set_cons_succ, Array.getD_eq_getD_getElem?, List.getElem?_toArray, List.getElem?_cons_succ, List.getElem?_cons_zero, Option.getD_some, Nat.reduceAdd, List.nil_append, List.cons_append, En.get])
    refine fs_callv rfl (fun f => rfl) rfl 42 _ _ rfl (fun args w => by simp [callFunc, Try.func42]; rfl) (fun _ => .int .i64 32) ?_ (fun _ _ _ => rfl) ?_
    · intro f lof w1 Lf HF HK1
      simp only [List.map_toArray, List.map_cons, List.map_nil, Act.eval, Array.getD_eq_getD_getElem?, List.getElem?_toArray, List.getElem?_cons_succ, List.getElem?_cons_zero, Option.getD_some, List.append_nil]
      clear HF HK1
      have q4 := width_any ⟨false, hi, lo⟩ w1
      exact q4
    (try simp only [Act.put, Act.eval, List.setIfInBounds_toArray, List.set_cons_zero, List.set_cons_succ, Array.getD_eq_getD_getElem?, List.getElem?_toArray, List.getElem?_cons_succ, List.getElem?_cons_zero, Option.getD_some, Nat.reduceAdd, List.nil_append, List.cons_append, En.get])
    refine fs_callv rfl (fun f => rfl) rfl 41 _ _ rfl (fun args w => by simp [callFunc, Try.func41]; rfl) (fun _ => .agg #[.bool false, .int .u64 (hi - hi % 4294967296), .int .u64 0]) ?_ (fun _ _ _ => rfl) ?_
    · intro f lof w1 Lf HF HK1
      simp only [List.map_toArray, List.map_cons, List.map_nil, Act.eval, Array.getD_eq_getD_getElem?, List.getElem?_toArray, List.getElem?_cons_succ, List.getElem?_cons_zero, Option.getD_some, List.append_nil]
      clear HF HK1
      have q4 := masked4_any hi lo w1 h0' h1'
      exact q4
    (try simp only [Act.put, Act.eval, List.setIfInBounds_toArray, List.set_cons_zero, List.set_cons_succ, Array.getD_eq_getD_getElem?, List.getElem?_toArray, List.getElem?_cons_succ, List.getElem?_cons_zero, Option.getD_some, Nat.reduceAdd, List.nil_append, List.cons_append, En.get])
    refine fs_pure rfl (fun f => rfl) rfl (fun _ => .bool (lo == 0 && hi % 4294967296 == 0)) ?_ (fun _ _ _ => rfl) ?_
    · intro f w1
      go_simp
      by_cases e1 : hi % 4294967296 = 0
      · rw [if_pos (by omega)]
        by_cases e2 : lo = 0
        · rw [if_pos e2, e1, e2]; rfl
        · rw [if_neg e2, show (lo == 0) = false by simpa using e2]; rfl
      · rw [if_neg (by omega), show (hi % 4294967296 == 0) = false by simpa using e1, Bool.and_false]
    (try simp only [Act.put, Act.eval, List.setIfInBounds_toArray, List.set_cons_zero, List.set_cons_succ, Array.getD_eq_getD_getElem?, List.getElem?_toArray, List.getElem?_cons_succ, List.getElem?_cons_zero, Option.getD_some, Nat.reduceAdd, List.nil_append, List.cons_append, En.get])
    (repeat (first | (refine fs_skip rfl (fun f => rfl) ?_; (try simp only [Act.put, Act.eval, List.setIfInBounds_toArray, List.set_cons_zero, List.set_cons_succ, Array.getD_eq_getD_getElem?, List.getElem?_toArray, List.getElem?_cons_succ, List.getElem?_cons_zero, Option.getD_some, Nat.reduceAdd, List.nil_append, List.cons_append, En.get])) | (refine fs_move _ rfl rfl (fun f => rfl) rfl ?_ ?_; ((first | exact fun _ _ _ => rfl | exact fun f f' hcg => hcg _ (by kernel_rfl) | (intro f f' hcg; rw [hcg]; kernel_rfl) | (intro f f' hcg; rw [hcg, hcg]; (kernel_rfl; kernel_rfl)) | exact trivial)); (try simp only [Act.put, Act.eval, List.setIfInBounds_toArray, List.set_cons_zero, List.set_cons_succ, Array.getD_eq_getD_getElem?, List.getElem?_toArray, List.getElem?_cons_succ, List.getElem?_cons_zero, Option.getD_some, Nat.reduceAdd, List.nil_append, List.cons_append, En.get])) | (refine fs_assign _ rfl rfl (fun f => rfl) rfl ?_ ?_; ((first | exact fun _ _ _ => rfl | exact fun f f' hcg => hcg _ (by kernel_rfl) | (intro f f' hcg; rw [hcg]; kernel_rfl) | (intro f f' hcg; rw [hcg, hcg]; (kernel_rfl; kernel_rfl)) | exact trivial)); (try simp only [Act.put, Act.eval, List.setIfInBounds_toArray, List.set_cons_zero, List.set_cons_succ, Array.getD_eq_getD_getElem?, List.getElem?_toArray, List.getElem?_cons_succ, List.getElem?_cons_zero, Option.getD_some, Nat.reduceAdd, List.nil_append, List.cons_append, En.get])) | (fail) | (refine fs_pure rfl (fun f => rfl) rfl ?_ ?_ ?_ ?_; (rotate_left; (intro f w1; (skip); go_simp; (first | done | with_reducible rfl)); ((first | exact fun _ _ _ => rfl | exact fun f f' hcg => hcg _ (by kernel_rfl) | (intro f f' hcg; rw [hcg]; kernel_rfl) | (intro f f' hcg; rw [hcg, hcg]; (kernel_rfl; kernel_rfl)) | exact trivial)); (try simp only [Act.put, Act.eval, List.setIfInBounds_toArray, List.set_cons_zero, List.set_cons_succ, Array.getD_eq_getD_getElem?, List.getElem?_toArray, List.getElem?_cons_succ, List.getElem?_cons_zero, Option.getD_some, Nat.reduceAdd, List.nil_append, List.cons_append, En.get])))))
    refine fs_end ?_
    intro f lof wn HF hk
    clear HF
    (try simp only [itms, itm, usesOf, readsOf, takesOf, List.find?, Nat.reduceBEq, List.flatMap_cons, List.flatMap_nil, Nat.reduceLT, if_true, if_false, Nat.reduceSub, List.getD_cons_zero, List.getD_cons_succ, List.append_nil, List.cons_append, List.nil_append, List.append_nil] at hk)
    clear f lof
    clear HK
    have HK := Lib.hid hk
    clear hk
    go_wp2_with fail
    exact bodyPost_ret (results_tmp rfl _ _ _) rfl ⟨rfl, HK.out.grown⟩
  · show Calls Try.prog _ #[.agg #[.bool true, .int .u64 hi, .int .u64 lo]] w fun e w' => e = .returned (.bool true) ∧ w.grownBy w' none
    go_enter Try.func36, Try.ntmps36
    go_upto_region 1 with fail
    have hk := own_alloc HK.out (Obj.cells #[Value.bool true, Value.int IntKind.u64 hi, Value.int IntKind.u64 lo] 26 (0, 0))
    obtain ⟨p, hp⟩ : ∃ p, p = w.heap.size := ⟨_, rfl⟩
    rw [← hp] at hk ⊢
    clear hp
    clear HK
    have HK := Lib.hid hk
    clear hk
    refine wp_region_sep [] [.blk p (Obj.cells #[Value.bool true, Value.int IntKind.u64 hi, Value.int IntKind.u64 lo] 26 (0, 0))] [] [] 7 (by kernel_rfl) (by kernel_rfl) (w0 := w) HK.out ?_
    (try simp only [Act.put, Act.eval, List.setIfInBounds_toArray, List.set_cons_zero, List.set_cons_succ, Array.getD_eq_getD_getElem?, List.getElem?_toArray, List.getElem?_cons_succ, List.getElem?_cons_zero, Option.getD_some, Nat.reduceAdd, List.nil_append, List.cons_append, En.get])
    refine fs_read rfl (fun f => rfl) rfl (fun _ => .agg #[.bool true, .int .u64 hi, .int .u64 lo]) ?_ (fun _ _ _ => rfl) ?_
    · intro f lof w1 Lf HF HK1
      clear HF
      (try simp only [itms, itm, usesOf, readsOf, takesOf, List.find?, Nat.reduceBEq, List.flatMap_cons, List.flatMap_nil, Nat.reduceLT, if_true, if_false, Nat.reduceSub, List.getD_cons_zero, List.getD_cons_succ, List.append_nil, List.cons_append, List.nil_append, List.append_nil] at HK1)
      exact run_rowl rfl rfl (HK1.at (.here _)) Try.underlying26 rfl (by kernel_rfl)
    (try simp only [Act.put, Act.eval, List.setIfInBounds_toArray, List.set_cons_zero, List.set_cons_succ, Array.getD_eq_getD_getElem?, List.getElem?_toArray, List.getElem?_cons_succ, List.getElem?_cons_zero, Option.getD_some, Nat.reduceAdd, List.nil_append, List.cons_append, En.get])
    refine fs_read rfl (fun f => rfl) rfl (fun _ => .agg #[.bool true, .int .u64 hi, .int .u64 lo]) ?_ (fun _ _ _ => rfl) ?_
    · intro f lof w1 Lf HF HK1
      clear HF
      (try simp only [itms, itm, usesOf, readsOf, takesOf, List.find?, Nat.reduceBEq, List.flatMap_cons, List.flatMap_nil, Nat.reduceLT, if_true, if_false, Nat.reduceSub, List.getD_cons_zero, List.getD_cons_succ, List.append_nil, List.cons_append, List.nil_append, List.append_nil] at HK1)
      exact run_rowl rfl rfl (HK1.at (.here _)) Try.underlying26 rfl (by kernel_rfl)
    (try simp only [Act.put, Act.eval, List.setIfInBounds_toArray, List.set_cons_zero, List.set_cons_succ, Array.getD_eq_getD_getElem?, List.getElem?_toArray, List.getElem?_cons_succ, List.getElem?_cons_zero, Option.getD_some, Nat.reduceAdd, List.nil_append, List.cons_append, En.get])
    refine fs_read rfl (fun f => rfl) rfl (fun _ => .agg #[.bool true, .int .u64 hi, .int .u64 lo]) ?_ (fun _ _ _ => rfl) ?_
    · intro f lof w1 Lf HF HK1
      clear HF
      (try simp only [itms, itm, usesOf, readsOf, takesOf, List.find?, Nat.reduceBEq, List.flatMap_cons, List.flatMap_nil, Nat.reduceLT, if_true, if_false, Nat.reduceSub, List.getD_cons_zero, List.getD_cons_succ, List.append_nil, List.cons_append, List.nil_append, List.append_nil] at HK1)
      exact run_rowl rfl rfl (HK1.at (.here _)) Try.underlying26 rfl (by kernel_rfl)
    (try simp only [Act.put, Act.eval, List.setIfInBounds_toArray, List.set_cons_zero, List.set_cons_succ, Array.getD_eq_getD_getElem?, List.getElem?_toArray, List.getElem?_cons_succ, List.getElem?_cons_zero, Option.getD_some, Nat.reduceAdd, List.nil_append, List.cons_append, En.get])
    refine fs_callv rfl (fun f => rfl) rfl 42 _ _ rfl (fun args w => by simp [callFunc, Try.func42]; rfl) (fun _ => .int .i64 128) ?_ (fun _ _ _ => rfl) ?_
    · intro f lof w1 Lf HF HK1
      simp only [List.map_toArray, List.map_cons, List.map_nil, Act.eval, Array.getD_eq_getD_getElem?, List.getElem?_toArray, List.getElem?_cons_succ, List.getElem?_cons_zero, Option.getD_some, List.append_nil]
      clear HF HK1
      have q4 := width_any ⟨true, hi, lo⟩ w1
      exact q4
    (try simp only [Act.put, Act.eval, List.setIfInBounds_toArray, List.set_cons_zero, List.set_cons_succ, Array.getD_eq_getD_getElem?, List.getElem?_toArray, List.getElem?_cons_succ, List.getElem?_cons_zero, Option.getD_some, Nat.reduceAdd, List.nil_append, List.cons_append, En.get])
    refine fs_callv rfl (fun f => rfl) rfl 41 _ _ rfl (fun args w => by simp [callFunc, Try.func41]; rfl) (fun _ => .agg #[.bool true, .int .u64 hi, .int .u64 lo]) ?_ (fun _ _ _ => rfl) ?_
    · intro f lof w1 Lf HF HK1
      simp only [List.map_toArray, List.map_cons, List.map_nil, Act.eval, Array.getD_eq_getD_getElem?, List.getElem?_toArray, List.getElem?_cons_succ, List.getElem?_cons_zero, Option.getD_some, List.append_nil]
      clear HF HK1
      have q4 := masked6_any hi lo w1
      exact q4
    (try simp only [Act.put, Act.eval, List.setIfInBounds_toArray, List.set_cons_zero, List.set_cons_succ, Array.getD_eq_getD_getElem?, List.getElem?_toArray, List.getElem?_cons_succ, List.getElem?_cons_zero, Option.getD_some, Nat.reduceAdd, List.nil_append, List.cons_append, En.get])
    refine fs_pure rfl (fun f => rfl) rfl (fun _ => .bool true) ?_ (fun _ _ _ => rfl) ?_
    · intro f w1
      go_simp
    (try simp only [Act.put, Act.eval, List.setIfInBounds_toArray, List.set_cons_zero, List.set_cons_succ, Array.getD_eq_getD_getElem?, List.getElem?_toArray, List.getElem?_cons_succ, List.getElem?_cons_zero, Option.getD_some, Nat.reduceAdd, List.nil_append, List.cons_append, En.get])
    (repeat (first | (refine fs_skip rfl (fun f => rfl) ?_; (try simp only [Act.put, Act.eval, List.setIfInBounds_toArray, List.set_cons_zero, List.set_cons_succ, Array.getD_eq_getD_getElem?, List.getElem?_toArray, List.getElem?_cons_succ, List.getElem?_cons_zero, Option.getD_some, Nat.reduceAdd, List.nil_append, List.cons_append, En.get])) | (refine fs_move _ rfl rfl (fun f => rfl) rfl ?_ ?_; ((first | exact fun _ _ _ => rfl | exact fun f f' hcg => hcg _ (by kernel_rfl) | (intro f f' hcg; rw [hcg]; kernel_rfl) | (intro f f' hcg; rw [hcg, hcg]; (kernel_rfl; kernel_rfl)) | exact trivial)); (try simp only [Act.put, Act.eval, List.setIfInBounds_toArray, List.set_cons_zero, List.set_cons_succ, Array.getD_eq_getD_getElem?, List.getElem?_toArray, List.getElem?_cons_succ, List.getElem?_cons_zero, Option.getD_some, Nat.reduceAdd, List.nil_append, List.cons_append, En.get])) | (refine fs_assign _ rfl rfl (fun f => rfl) rfl ?_ ?_; ((first | exact fun _ _ _ => rfl | exact fun f f' hcg => hcg _ (by kernel_rfl) | (intro f f' hcg; rw [hcg]; kernel_rfl) | (intro f f' hcg; rw [hcg, hcg]; (kernel_rfl; kernel_rfl)) | exact trivial)); (try simp only [Act.put, Act.eval, List.setIfInBounds_toArray, List.set_cons_zero, List.set_cons_succ, Array.getD_eq_getD_getElem?, List.getElem?_toArray, List.getElem?_cons_succ, List.getElem?_cons_zero, Option.getD_some, Nat.reduceAdd, List.nil_append, List.cons_append, En.get])) | (fail) | (refine fs_pure rfl (fun f => rfl) rfl ?_ ?_ ?_ ?_; (rotate_left; (intro f w1; (skip); go_simp; (first | done | with_reducible rfl)); ((first | exact fun _ _ _ => rfl | exact fun f f' hcg => hcg _ (by kernel_rfl) | (intro f f' hcg; rw [hcg]; kernel_rfl) | (intro f f' hcg; rw [hcg, hcg]; (kernel_rfl; kernel_rfl)) | exact trivial)); (try simp only [Act.put, Act.eval, List.setIfInBounds_toArray, List.set_cons_zero, List.set_cons_succ, Array.getD_eq_getD_getElem?, List.getElem?_toArray, List.getElem?_cons_succ, List.getElem?_cons_zero, Option.getD_some, Nat.reduceAdd, List.nil_append, List.cons_append, En.get])))))
    refine fs_end ?_
    intro f lof wn HF hk
    clear HF
    (try simp only [itms, itm, usesOf, readsOf, takesOf, List.find?, Nat.reduceBEq, List.flatMap_cons, List.flatMap_nil, Nat.reduceLT, if_true, if_false, Nat.reduceSub, List.getD_cons_zero, List.getD_cons_succ, List.append_nil, List.cons_append, List.nil_append, List.append_nil] at hk)
    clear f lof
    clear HK
    have HK := Lib.hid hk
    clear hk
    go_wp2_with fail
    exact bodyPost_ret (results_tmp rfl _ _ _) rfl ⟨rfl, HK.out.grown⟩
end Go.Proofs.Ytmankjhopfilaaa
