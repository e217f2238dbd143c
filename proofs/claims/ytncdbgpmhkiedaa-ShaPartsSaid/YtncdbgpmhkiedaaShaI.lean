/- SHA-512: what it computes; its constants. -/
import Derived.Test.YtncdbgpmhkiedaaShaH
namespace Go.Proofs.Ytncdbgpmhkiedaa
set_option linter.unusedVariables false
set_option linter.unusedSimpArgs false
open Go.RowKit Go.Proofs.YtncdbgpmhkiedaaL

theorem ok_H64 : okB 18446744073709551616 H64 := by unfold okB; decide +kernel
theorem ok_K64 : okB 18446744073709551616 K64 := by unfold okB; decide +kernel
/-- How many noughts ahead of the last eight bytes. -/
def zc5 (n : Nat) : Nat := (n + 144) / 128 * 128 - n - 9
def pad128 (m : List Int) : List Int := padZ m (zc5 m.length) ++ lenB8 m.length 8
theorem length_pad128 (m : List Int) : (pad128 m).length = m.length + 1 + zc5 m.length + 8 := by rw [pad128, List.length_append, length_padZ, length_lenB8]
theorem whole128 (n : Nat) : (n + 1 + zc5 n + 8) % 128 = 0 := by unfold zc5; omega
theorem ok_pad128 {m : List Int} (h : okB 256 m) : okB 256 (pad128 m) := ok_app (ok_app (ok_app h (ok_one (by decide))) (ok_rep (by decide) _)) (ok_lenB8 _ _)
def big05 (x : Int) : Int := bits .xor .u64 (bits .xor .u64 (rr64 x 28) (rr64 x 34)) (rr64 x 39)
def big15 (x : Int) : Int := bits .xor .u64 (bits .xor .u64 (rr64 x 14) (rr64 x 18)) (rr64 x 41)
def not64 (e : Int) : Int := bits .xor .u64 (if IntKind.u64.signed = true then -1 else IntKind.u64.max) e
def tmp15 (v : List Int) (e kk ww : Int) : Int := w64 (w64 (w64 (w64 (v.getD 7 0 + big15 e) + bits .xor .u64 (bits .and .u64 e (v.getD 5 0)) (bits .and .u64 (not64 e) (v.getD 6 0))) + kk) + ww)
def tmp25 (v : List Int) (a : Int) : Int := big05 a + bits .xor .u64 (bits .xor .u64 (bits .and .u64 a (v.getD 1 0)) (bits .and .u64 a (v.getD 2 0))) (bits .and .u64 (v.getD 1 0) (v.getD 2 0))
def stepX5 (v : List Int) (e a kk ww : Int) : List Int := [(tmp15 v e kk ww + tmp25 v a) % 18446744073709551616, v.getD 0 0, v.getD 1 0, v.getD 2 0, (v.getD 3 0 + tmp15 v e kk ww) % 18446744073709551616, v.getD 4 0, v.getD 5 0, v.getD 6 0]
def step64 (v : List Int) (kk ww : Int) : List Int := stepX5 v (v.getD 4 0) (v.getD 0 0) kk ww
def rn5 (h l : List Int) : Nat → List Int
  | 0 => h
  | j + 1 => step64 (rn5 h l j) (K64.getD j 0) (l.getD j 0)
def addH5 (h v : List Int) : Nat → List Int
  | 0 => h
  | j + 1 => (addH5 h v j).set j (w64 ((addH5 h v j).getD j 0 + v.getD j 0))
def wd64 (b : List Int) : List Int := wdB5 (wdA5 b 128) 64
def comp64 (h b : List Int) : List Int := addH5 h (rn5 h (wd64 b) 80) 8
def hs64 (m : List Int) : Nat → List Int
  | 0 => H64
  | k + 1 => comp64 (hs64 m k) (m.drop (128 * k))
def outA5 (h : List Int) : Nat → List Int
  | 0 => zer 64
  | k + 1 => (outA5 h k).set k (h.getD (k / 8) 0 / 2 ^ (56 - 8 * (k % 8)) % 256)
/-- SHA-512. -/
def sum64 (m : List Int) : List Int := outA5 (hs64 (pad128 m) ((pad128 m).length / 128)) 64
theorem length_step64 (v : List Int) (kk ww : Int) : (step64 v kk ww).length = 8 := rfl
theorem ok_step64 {v : List Int} (h : okB 18446744073709551616 v) (kk ww : Int) : okB 18446744073709551616 (step64 v kk ww) := fun x hx => by
  have g := fun i => ok_getD (B := 18446744073709551616) (by decide) h i
  simp only [step64, stepX5, List.mem_cons, List.not_mem_nil, or_false] at hx
  rcases hx with rfl | rfl | rfl | rfl | rfl | rfl | rfl | rfl <;> first | exact ⟨Int.emod_nonneg _ (by decide), Int.emod_lt_of_pos _ (by decide)⟩ | exact g _
theorem length_rn5 {h : List Int} (hh : h.length = 8) (l : List Int) : ∀ j, (rn5 h l j).length = 8
  | 0 => hh
  | j + 1 => rfl
theorem ok_rn5 {h : List Int} (hh : okB 18446744073709551616 h) (l : List Int) : ∀ j, okB 18446744073709551616 (rn5 h l j)
  | 0 => hh
  | j + 1 => ok_step64 (ok_rn5 hh l j) _ _
theorem length_addH5 (h v : List Int) : ∀ j, (addH5 h v j).length = h.length
  | 0 => rfl
  | j + 1 => by rw [addH5, List.length_set, length_addH5 h v j]
theorem ok_addH5 {h : List Int} (hh : okB 18446744073709551616 h) (v : List Int) : ∀ j, okB 18446744073709551616 (addH5 h v j)
  | 0 => hh
  | j + 1 => ok_set (ok_addH5 hh v j) _ _ (w64_range _).1 (w64_range _).2
theorem length_hs64 (m : List Int) : ∀ k, (hs64 m k).length = 8
  | 0 => rfl
  | k + 1 => by rw [hs64, comp64, length_addH5, length_hs64 m k]
theorem ok_hs64 (m : List Int) : ∀ k, okB 18446744073709551616 (hs64 m k)
  | 0 => ok_H64
  | k + 1 => ok_addH5 (ok_hs64 m k) _ _
theorem length_outA5 (h : List Int) : ∀ k, (outA5 h k).length = 64
  | 0 => length_zer _
  | k + 1 => by rw [outA5, List.length_set, length_outA5 h k]
theorem ok_outA5 (h : List Int) : ∀ k, okB 256 (outA5 h k)
  | 0 => ok_zer (by decide) _
  | k + 1 => ok_set (ok_outA5 h k) _ _ (Int.emod_nonneg _ (by decide)) (Int.emod_lt_of_pos _ (by decide))
theorem length_wd64 (b : List Int) : (wd64 b).length = 80 := by rw [wd64, length_wdB5, length_wdA5]
theorem length_sum64 (m : List Int) : (sum64 m).length = 64 := length_outA5 _ _
theorem ok_sum64 (m : List Int) : okB 256 (sum64 m) := ok_outA5 _ _

set_option maxHeartbeats 400000 in
theorem start512_any (w : World) : Calls Try.prog 21 #[] w fun e w' => e = .returned (.agg (encK .u64 H64)) ∧ w.grownBy w' none := by
  have HK := Lib.hid (own_start w)
  go_enter Try.func21, Try.ntmps21
  go_wp2_with ((refine wpList_new_ints rfl HK.out _ rfl .u64 39 8 (zer 8) (length_zer _) (fun w => by go_simp; first | exact ⟨rfl, rfl⟩ | kernel_rfl) ?_))
  intro wn p hkn
  have HKN := Lib.hid hkn
  clear hkn HK
  have HK := HKN
  clear HKN
  go_wp2_with (refine wpList_put_row rfl HK.out 39 _ _ rfl _ _ H64 rfl rfl _ _ _ (by first | exact Upd.here _ | exact Upd.next _ (Upd.here _) | exact Upd.next _ (Upd.next _ (Upd.here _)) | exact Upd.next _ (Upd.next _ (Upd.next _ (Upd.here _))) | exact Upd.next _ (Upd.next _ (Upd.next _ (Upd.next _ (Upd.here _)))) | exact Upd.next _ (Upd.next _ (Upd.next _ (Upd.next _ (Upd.next _ (Upd.here _))))) | exact Upd.next _ (Upd.next _ (Upd.next _ (Upd.next _ (Upd.next _ (Upd.next _ (Upd.here _)))))) | exact Upd.next _ (Upd.next _ (Upd.next _ (Upd.next _ (Upd.next _ (Upd.next _ (Upd.next _ (Upd.here _))))))) | exact Upd.next _ (Upd.next _ (Upd.next _ (Upd.next _ (Upd.next _ (Upd.next _ (Upd.next _ (Upd.next _ (Upd.here _)))))))) | exact Upd.next _ (Upd.next _ (Upd.next _ (Upd.next _ (Upd.next _ (Upd.next _ (Upd.next _ (Upd.next _ (Upd.next _ (Upd.here _)))))))))) (by rfl) (by kernel_rfl) ?_; (intro wn hkn; have HKN := Lib.hid hkn; clear hkn; clear HK; have HK := HKN; clear HKN))
  exact bodyPost_ret (results_own rfl _ HK.out _ rfl (by first | exact Has.here _ | exact Has.next _ (Has.here _) | exact Has.next _ (Has.next _ (Has.here _)) | exact Has.next _ (Has.next _ (Has.next _ (Has.here _))) | exact Has.next _ (Has.next _ (Has.next _ (Has.next _ (Has.here _)))) | exact Has.next _ (Has.next _ (Has.next _ (Has.next _ (Has.next _ (Has.here _))))) | exact Has.next _ (Has.next _ (Has.next _ (Has.next _ (Has.next _ (Has.next _ (Has.here _)))))) | exact Has.next _ (Has.next _ (Has.next _ (Has.next _ (Has.next _ (Has.next _ (Has.next _ (Has.here _))))))) | exact Has.next _ (Has.next _ (Has.next _ (Has.next _ (Has.next _ (Has.next _ (Has.next _ (Has.next _ (Has.here _)))))))) | exact Has.next _ (Has.next _ (Has.next _ (Has.next _ (Has.next _ (Has.next _ (Has.next _ (Has.next _ (Has.next _ (Has.here _)))))))))) _ Try.underlying39 rfl (by kernel_rfl)) rfl ⟨rfl, HK.out.grown⟩
theorem wpList_yield {P : Program} {ops : Array Oper} {rest : List Oper} {op : Oper} {a : Act} {w : World} {Q : Exit → Act → World → Prop} (hgd : op.guard = none) (v : Value) (hrun : ∀ w, (execOp a.eval op).run P w = .ok (.value v) w) (h : wpList P ops Q rest (a.put op.dst v) w) : wpList P ops Q (op :: rest) a w :=
  wpList_plain hgd fun _ hK => by
    unfold Oper.wp
    rw [hrun]
    exact hK _ _ h
set_option maxHeartbeats 1600000 in
set_option maxRecDepth 100000 in
theorem round512_any (w : World) : Calls Try.prog 22 #[] w fun e w' => e = .returned (.agg (encK .u64 K64)) ∧ w.grownBy w' none := by
  have HK := Lib.hid (own_start w)
  go_enter Try.func22, Try.ntmps22
  go_wp2_with ((refine wpList_new_ints rfl HK.out _ rfl .u64 47 80 (zer 80) (length_zer _) (fun w => by go_simp; first | exact ⟨rfl, rfl⟩ | kernel_rfl) ?_))
  intro wn p hkn
  have HKN := Lib.hid hkn
  clear hkn HK
  have HK := HKN
  clear HKN
  go_wp2_with (refine wpList_stop 1 rfl ?_)
  intro w5 hw5
  subst hw5
  refine wpList_yield rfl (.agg (encK .u64 K64)) (fun w => by kernel_rfl) ?_
  go_wp2_with (refine wpList_put_row rfl HK.out 47 _ _ rfl _ _ K64 rfl rfl _ _ _ (by first | exact Upd.here _ | exact Upd.next _ (Upd.here _) | exact Upd.next _ (Upd.next _ (Upd.here _)) | exact Upd.next _ (Upd.next _ (Upd.next _ (Upd.here _))) | exact Upd.next _ (Upd.next _ (Upd.next _ (Upd.next _ (Upd.here _)))) | exact Upd.next _ (Upd.next _ (Upd.next _ (Upd.next _ (Upd.next _ (Upd.here _))))) | exact Upd.next _ (Upd.next _ (Upd.next _ (Upd.next _ (Upd.next _ (Upd.next _ (Upd.here _)))))) | exact Upd.next _ (Upd.next _ (Upd.next _ (Upd.next _ (Upd.next _ (Upd.next _ (Upd.next _ (Upd.here _))))))) | exact Upd.next _ (Upd.next _ (Upd.next _ (Upd.next _ (Upd.next _ (Upd.next _ (Upd.next _ (Upd.next _ (Upd.here _)))))))) | exact Upd.next _ (Upd.next _ (Upd.next _ (Upd.next _ (Upd.next _ (Upd.next _ (Upd.next _ (Upd.next _ (Upd.next _ (Upd.here _)))))))))) (by rfl) (by kernel_rfl) ?_; (intro wn hkn; have HKN := Lib.hid hkn; clear hkn; clear HK; have HK := HKN; clear HKN))
  exact bodyPost_ret (results_own rfl _ HK.out _ rfl (by first | exact Has.here _ | exact Has.next _ (Has.here _) | exact Has.next _ (Has.next _ (Has.here _)) | exact Has.next _ (Has.next _ (Has.next _ (Has.here _))) | exact Has.next _ (Has.next _ (Has.next _ (Has.next _ (Has.here _)))) | exact Has.next _ (Has.next _ (Has.next _ (Has.next _ (Has.next _ (Has.here _))))) | exact Has.next _ (Has.next _ (Has.next _ (Has.next _ (Has.next _ (Has.next _ (Has.here _)))))) | exact Has.next _ (Has.next _ (Has.next _ (Has.next _ (Has.next _ (Has.next _ (Has.next _ (Has.here _))))))) | exact Has.next _ (Has.next _ (Has.next _ (Has.next _ (Has.next _ (Has.next _ (Has.next _ (Has.next _ (Has.here _)))))))) | exact Has.next _ (Has.next _ (Has.next _ (Has.next _ (Has.next _ (Has.next _ (Has.next _ (Has.next _ (Has.next _ (Has.here _)))))))))) _ Try.underlying47 rfl (by kernel_rfl)) rfl ⟨rfl, HK.out.grown⟩
end Go.Proofs.Ytncdbgpmhkiedaa
