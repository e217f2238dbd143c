/- PolyEdges, walked. -/
import Derived.Test.YtcfhpbnkebodiaaPolQ
import Derived.Test.YtcfhpbnkebodiaaBs
import Derived.Test.YtcfhpbnkebodiaaArp
import Derived.Test.YtcfhpbnkebodiaaVal
namespace Go.Proofs.Ytcfhpbnkebodiaa
set_option linter.unusedVariables false
set_option linter.unusedSimpArgs false
open Go.RowKit Go.Proofs.YtcfhpbnkebodiaaL

theorem four_pick (a b c d : Int) (ha : 0 ≤ a ∧ a < 256) (hb : 0 ≤ b ∧ b < 256) (hc : 0 ≤ c ∧ c < 256) (hd : 0 ≤ d ∧ d < 256) (i : Nat) : 0 ≤ ([a, b, c, d] : List Int).getD i 0 ∧ ([a, b, c, d] : List Int).getD i 0 < 256 := by
  rcases i with _ | _ | _ | _ | i
  · exact ha
  · exact hb
  · exact hc
  · exact hd
  · exact ⟨by simp, by simp⟩
/-- A number of a row of four. -/
theorem run_pick {P : Program} {o : Oper} {a : Act} {w0 w : World} {L : List It} (HK : Own w0 w L) {ty : TypeId} {x : Operand} (hop : o.op = .load ty x) {p i : Nat} (hx : a.eval x = .pointer (some ⟨p, i, none⟩)) (hu : P.underlying ty = some (.int .u8))
    {C : List Int} {T : TypeId} {fr : Nat × Nat} (hm : Has (.blk p (.cells (encK .u8 C) T fr)) L) (hi : i < C.length) {v : Int} (hv : C.getD i 0 = v) : (execOp a.eval o).run P w = .ok (.value (.int .u8 v)) w :=
  exec_load_cell hop hx hu (by
    subst hv
    have h := HK.at hm
    simp [World.cell?, h, encK, hi])

theorem one_ok {w : World} {B : Bs} (h : B.ok w) : ∀ b ∈ [B], b.ok w := fun b hb => by rw [List.mem_singleton] at hb; subst hb; exact h
theorem cat_one (B : Bs) : catB [B] = B.xs := List.append_nil _
set_option maxHeartbeats 8000000 in
set_option maxRecDepth 100000 in
theorem edges_walk (r s c n : Int) (w : World) (hr0 : 0 ≤ r) (hr1 : r < 256) (hs0 : 0 ≤ s) (hs1 : s < 256) (hc0 : 0 ≤ c) (hc1 : c < 256) (hn0 : 0 ≤ n) (hn1 : n < 256) :
    Calls Try.prog 4 #[.int .u8 r, .int .u8 s, .int .u8 c, .int .u8 n] w fun e w' => e = .returned (.bool true) ∧ w.grownBy w' none := by
  obtain ⟨ri, hri, hri4⟩ : ∃ i : Nat, r % 4 = i ∧ i < 4 := ⟨(r % 4).toNat, by omega, by omega⟩
  obtain ⟨si, hsi, hsi4⟩ : ∃ i : Nat, s % 4 = i ∧ i < 4 := ⟨(s % 4).toNat, by omega, by omega⟩
  obtain ⟨ci, hci, hci4⟩ : ∃ i : Nat, c % 4 = i ∧ i < 4 := ⟨(c % 4).toNat, by omega, by omega⟩
  obtain ⟨m, hm, hm70⟩ : ∃ m : Nat, n % 70 = m ∧ m < 70 := ⟨(n % 70).toNat, by omega, by omega⟩
  have HRI := Lib.hid (show r.tmod 4 = ri by rw [Int.tmod_eq_emod_of_nonneg hr0, hri])
  have HSI := Lib.hid (show s.tmod 4 = si by rw [Int.tmod_eq_emod_of_nonneg hs0, hsi])
  have HCI := Lib.hid (show c.tmod 4 = ci by rw [Int.tmod_eq_emod_of_nonneg hc0, hci])
  have HM := Lib.hid hm
  have HCI2 := Lib.hid hci
  have HV1 := Lib.hid (four_pick 0 1 255 2 (by decide) (by decide) (by decide) (by decide) ri)
  have HV2 := Lib.hid (four_pick 0 255 1 254 (by decide) (by decide) (by decide) (by decide) si)
  have HV3 := Lib.hid (four_pick 255 0 251 1 (by decide) (by decide) (by decide) (by decide) ci)
  clear hri hsi hci hm
  have HK := Lib.hid (own_start w)
  go_enter Try.func4, Try.ntmps4
  go_wp2_with fail
  refine (known_any _).mono ?_
  rintro e wn ⟨rfl, hg⟩
  have hkb := HK.out.grow hg
  clear hg
  clear HK
  have HK := Lib.hid hkb
  clear hkb
  go_wp2_with ((refine wpList_new_ints rfl HK.out _ rfl .u8 22 32 (zer 32) (length_zer _) (fun w => by go_simp; first | exact ⟨rfl, rfl⟩ | kernel_rfl) ?_))
  intro wn p9 hkn
  have HKN := Lib.hid hkn
  clear hkn HK
  have HK := HKN
  clear HKN
  go_wp2_with fail
  go_loopw [10] (fun v wr => ∃ (j : Nat) (q : List Int), j ≤ 16 ∧ v = .int .i64 j ∧ Hid (okB 256 q) ∧ Hid (Own w wr [.ints p9 .u8 22 32 q])) (fun v _ => 16 - (intOf v).toNat)
  case atStart => exact ⟨0, _, by omega, rfl, Lib.hid (ok_zer (by decide) _), HK⟩
  case round =>
    obtain ⟨j, q, hj, rfl, HQ, HK'⟩ := hrel
    clear HK
    have HK := HK'
    clear HK'
    by_cases hlt : j < 16
    · have hj0 : (0 : Int) ≤ j := by omega
      have hj1 : (j : Int) < 16 := by omega
      have hj2 : (j : Int) < 32 := by omega
      have hj3 : 16 + (j : Int) < 32 := by omega
      have hj4 : (0 : Int) ≤ 16 + (j : Int) := by omega
      have hj5 : (16 + (j : Int)).toNat = 16 + j := by omega
      have hj6 : IntKind.i64.wrap (16 + (j : Int)) = 16 + (j : Int) := IntWalk.i64_in _ (by omega)
      go_upto_region 7 with fail
      refine wp_region_sep [[.ints p9 .u8 22 32 q]] [] [(7, [3], []), (12, [8], []), (14, [], [17]), (16, [], [14])] [16] 17 (by kernel_rfl) (by kernel_rfl) (w0 := w) HK.out ?_
      (try simp only [Act.put, Act.eval, List.setIfInBounds_toArray, List.set_cons_zero, List.set_cons_succ, Array.getD_eq_getD_getElem?, List.getElem?_toArray, List.getElem?_cons_succ, List.getElem?_cons_zero, Option.getD_some, Nat.reduceAdd, List.nil_append, List.cons_append, En.get])
      (repeat (first | (refine fs_skip rfl (fun f => rfl) ?_; (try simp only [Act.put, Act.eval, List.setIfInBounds_toArray, List.set_cons_zero, List.set_cons_succ, Array.getD_eq_getD_getElem?, List.getElem?_toArray, List.getElem?_cons_succ, List.getElem?_cons_zero, Option.getD_some, Nat.reduceAdd, List.nil_append, List.cons_append, En.get])) | (refine fs_move _ rfl rfl (fun f => rfl) rfl ?_ ?_; ((first | exact fun _ _ _ => rfl | exact fun f f' hcg => hcg _ (by kernel_rfl) | (intro f f' hcg; rw [hcg]; kernel_rfl) | (intro f f' hcg; rw [hcg, hcg]; (kernel_rfl; kernel_rfl)) | exact trivial)); (try simp only [Act.put, Act.eval, List.setIfInBounds_toArray, List.set_cons_zero, List.set_cons_succ, Array.getD_eq_getD_getElem?, List.getElem?_toArray, List.getElem?_cons_succ, List.getElem?_cons_zero, Option.getD_some, Nat.reduceAdd, List.nil_append, List.cons_append, En.get])) | (refine fs_assign _ rfl rfl (fun f => rfl) rfl ?_ ?_; ((first | exact fun _ _ _ => rfl | exact fun f f' hcg => hcg _ (by kernel_rfl) | (intro f f' hcg; rw [hcg]; kernel_rfl) | (intro f f' hcg; rw [hcg, hcg]; (kernel_rfl; kernel_rfl)) | exact trivial)); (try simp only [Act.put, Act.eval, List.setIfInBounds_toArray, List.set_cons_zero, List.set_cons_succ, Array.getD_eq_getD_getElem?, List.getElem?_toArray, List.getElem?_cons_succ, List.getElem?_cons_zero, Option.getD_some, Nat.reduceAdd, List.nil_append, List.cons_append, En.get])) | (fail) | (refine fs_pure rfl (fun f => rfl) rfl ?_ ?_ ?_ ?_; (rotate_left; (intro f w1; (skip); go_simp; (first | done | with_reducible rfl)); ((first | exact fun _ _ _ => rfl | exact fun f f' hcg => hcg _ (by kernel_rfl) | (intro f f' hcg; rw [hcg]; kernel_rfl) | (intro f f' hcg; rw [hcg, hcg]; (kernel_rfl; kernel_rfl)) | exact trivial)); (try simp only [Act.put, Act.eval, List.setIfInBounds_toArray, List.set_cons_zero, List.set_cons_succ, Array.getD_eq_getD_getElem?, List.getElem?_toArray, List.getElem?_cons_succ, List.getElem?_cons_zero, Option.getD_some, Nat.reduceAdd, List.nil_append, List.cons_append, En.get])))))
      refine fs_lit rfl (fun f => rfl) rfl 4 #[.int .u8 0, .int .u8 1, .int .u8 255, .int .u8 2] 5 (fun f w1 => by go_simp; first | done | exact ⟨rfl, rfl⟩ | rfl) ?_
      (try simp only [Act.put, Act.eval, List.setIfInBounds_toArray, List.set_cons_zero, List.set_cons_succ, Array.getD_eq_getD_getElem?, List.getElem?_toArray, List.getElem?_cons_succ, List.getElem?_cons_zero, Option.getD_some, Nat.reduceAdd, List.nil_append, List.cons_append, En.get])
      (repeat (first | (refine fs_skip rfl (fun f => rfl) ?_; (try simp only [Act.put, Act.eval, List.setIfInBounds_toArray, List.set_cons_zero, List.set_cons_succ, Array.getD_eq_getD_getElem?, List.getElem?_toArray, List.getElem?_cons_succ, List.getElem?_cons_zero, Option.getD_some, Nat.reduceAdd, List.nil_append, List.cons_append, En.get])) | (refine fs_move _ rfl rfl (fun f => rfl) rfl ?_ ?_; ((first | exact fun _ _ _ => rfl | exact fun f f' hcg => hcg _ (by kernel_rfl) | (intro f f' hcg; rw [hcg]; kernel_rfl) | (intro f f' hcg; rw [hcg, hcg]; (kernel_rfl; kernel_rfl)) | exact trivial)); (try simp only [Act.put, Act.eval, List.setIfInBounds_toArray, List.set_cons_zero, List.set_cons_succ, Array.getD_eq_getD_getElem?, List.getElem?_toArray, List.getElem?_cons_succ, List.getElem?_cons_zero, Option.getD_some, Nat.reduceAdd, List.nil_append, List.cons_append, En.get])) | (refine fs_assign _ rfl rfl (fun f => rfl) rfl ?_ ?_; ((first | exact fun _ _ _ => rfl | exact fun f f' hcg => hcg _ (by kernel_rfl) | (intro f f' hcg; rw [hcg]; kernel_rfl) | (intro f f' hcg; rw [hcg, hcg]; (kernel_rfl; kernel_rfl)) | exact trivial)); (try simp only [Act.put, Act.eval, List.setIfInBounds_toArray, List.set_cons_zero, List.set_cons_succ, Array.getD_eq_getD_getElem?, List.getElem?_toArray, List.getElem?_cons_succ, List.getElem?_cons_zero, Option.getD_some, Nat.reduceAdd, List.nil_append, List.cons_append, En.get])) | (fail) | (refine fs_pure rfl (fun f => rfl) rfl ?_ ?_ ?_ ?_; (rotate_left; (intro f w1; ((have h1 := HRI.out)); go_simp; (first | done | with_reducible rfl)); ((first | exact fun _ _ _ => rfl | exact fun f f' hcg => hcg _ (by kernel_rfl) | (intro f f' hcg; rw [hcg]; kernel_rfl) | (intro f f' hcg; rw [hcg, hcg]; (kernel_rfl; kernel_rfl)) | exact trivial)); (try simp only [Act.put, Act.eval, List.setIfInBounds_toArray, List.set_cons_zero, List.set_cons_succ, Array.getD_eq_getD_getElem?, List.getElem?_toArray, List.getElem?_cons_succ, List.getElem?_cons_zero, Option.getD_some, Nat.reduceAdd, List.nil_append, List.cons_append, En.get])))))
      refine fs_resv rfl (fun f => rfl) rfl (fun f v => ∃ p, f 3 = .slice (some ⟨p, 0, none⟩) 4 4 ∧ v = .pointer (some ⟨p, ri, none⟩)) ?_ (fun f f' h => by rw [h 3 (by kernel_rfl)]) ?_
      · intro f lof w1 Lf HF HK1
        obtain ⟨p, hv, hl⟩ := HF 3 (by kernel_rfl)
        clear HF HK1
        refine ⟨_, ?_, p, hv, rfl⟩
        rw [hv]
        clear hv hl
        have h1 : (0 : Int) ≤ ri := by omega
        have h2 : (ri : Int) < 4 := by omega
        go_simp
      (try simp only [Act.put, Act.eval, List.setIfInBounds_toArray, List.set_cons_zero, List.set_cons_succ, Array.getD_eq_getD_getElem?, List.getElem?_toArray, List.getElem?_cons_succ, List.getElem?_cons_zero, Option.getD_some, Nat.reduceAdd, List.nil_append, List.cons_append, En.get])
      refine fs_read rfl (fun f => rfl) rfl (fun _ => .int .u8 (([0, 1, 255, 2] : List Int).getD ri 0)) ?_ (fun _ _ _ => rfl) ?_
      · intro f lof w1 Lf HF HK1
        obtain ⟨p, hv, hl⟩ := HF 3 (by kernel_rfl)
        obtain ⟨⟨p', hv', hp⟩, -⟩ := HF 6 (by kernel_rfl)
        rw [hv] at hv'
        injection hv' with e1 e2 e3
        injection e1 with e1
        injection e1 with e1
        subst e1
        (try simp only [itms, itm, usesOf, readsOf, takesOf, List.find?, Nat.reduceBEq, List.flatMap_cons, List.flatMap_nil, Nat.reduceLT, if_true, if_false, Nat.reduceSub, List.getD_cons_zero, List.getD_cons_succ, List.append_nil, List.cons_append, List.nil_append, hl] at HK1)
        exact run_pick HK1 rfl (by exact hp) Try.underlying5 (C := [0, 1, 255, 2]) (.here _) (by exact hri4) rfl
      (try simp only [Act.put, Act.eval, List.setIfInBounds_toArray, List.set_cons_zero, List.set_cons_succ, Array.getD_eq_getD_getElem?, List.getElem?_toArray, List.getElem?_cons_succ, List.getElem?_cons_zero, Option.getD_some, Nat.reduceAdd, List.nil_append, List.cons_append, En.get])
      refine fs_lit rfl (fun f => rfl) rfl 4 #[.int .u8 0, .int .u8 255, .int .u8 1, .int .u8 254] 5 (fun f w1 => by go_simp; first | done | exact ⟨rfl, rfl⟩ | rfl) ?_
      (try simp only [Act.put, Act.eval, List.setIfInBounds_toArray, List.set_cons_zero, List.set_cons_succ, Array.getD_eq_getD_getElem?, List.getElem?_toArray, List.getElem?_cons_succ, List.getElem?_cons_zero, Option.getD_some, Nat.reduceAdd, List.nil_append, List.cons_append, En.get])
      (repeat (first | (refine fs_skip rfl (fun f => rfl) ?_; (try simp only [Act.put, Act.eval, List.setIfInBounds_toArray, List.set_cons_zero, List.set_cons_succ, Array.getD_eq_getD_getElem?, List.getElem?_toArray, List.getElem?_cons_succ, List.getElem?_cons_zero, Option.getD_some, Nat.reduceAdd, List.nil_append, List.cons_append, En.get])) | (refine fs_move _ rfl rfl (fun f => rfl) rfl ?_ ?_; ((first | exact fun _ _ _ => rfl | exact fun f f' hcg => hcg _ (by kernel_rfl) | (intro f f' hcg; rw [hcg]; kernel_rfl) | (intro f f' hcg; rw [hcg, hcg]; (kernel_rfl; kernel_rfl)) | exact trivial)); (try simp only [Act.put, Act.eval, List.setIfInBounds_toArray, List.set_cons_zero, List.set_cons_succ, Array.getD_eq_getD_getElem?, List.getElem?_toArray, List.getElem?_cons_succ, List.getElem?_cons_zero, Option.getD_some, Nat.reduceAdd, List.nil_append, List.cons_append, En.get])) | (refine fs_assign _ rfl rfl (fun f => rfl) rfl ?_ ?_; ((first | exact fun _ _ _ => rfl | exact fun f f' hcg => hcg _ (by kernel_rfl) | (intro f f' hcg; rw [hcg]; kernel_rfl) | (intro f f' hcg; rw [hcg, hcg]; (kernel_rfl; kernel_rfl)) | exact trivial)); (try simp only [Act.put, Act.eval, List.setIfInBounds_toArray, List.set_cons_zero, List.set_cons_succ, Array.getD_eq_getD_getElem?, List.getElem?_toArray, List.getElem?_cons_succ, List.getElem?_cons_zero, Option.getD_some, Nat.reduceAdd, List.nil_append, List.cons_append, En.get])) | (fail) | (refine fs_pure rfl (fun f => rfl) rfl ?_ ?_ ?_ ?_; (rotate_left; (intro f w1; ((have h1 := HSI.out)); go_simp; (first | done | with_reducible rfl)); ((first | exact fun _ _ _ => rfl | exact fun f f' hcg => hcg _ (by kernel_rfl) | (intro f f' hcg; rw [hcg]; kernel_rfl) | (intro f f' hcg; rw [hcg, hcg]; (kernel_rfl; kernel_rfl)) | exact trivial)); (try simp only [Act.put, Act.eval, List.setIfInBounds_toArray, List.set_cons_zero, List.set_cons_succ, Array.getD_eq_getD_getElem?, List.getElem?_toArray, List.getElem?_cons_succ, List.getElem?_cons_zero, Option.getD_some, Nat.reduceAdd, List.nil_append, List.cons_append, En.get])))))
      refine fs_resv rfl (fun f => rfl) rfl (fun f v => ∃ p, f 8 = .slice (some ⟨p, 0, none⟩) 4 4 ∧ v = .pointer (some ⟨p, si, none⟩)) ?_ (fun f f' h => by rw [h 8 (by kernel_rfl)]) ?_
      · intro f lof w1 Lf HF HK1
        obtain ⟨p, hv, hl⟩ := HF 8 (by kernel_rfl)
        clear HF HK1
        refine ⟨_, ?_, p, hv, rfl⟩
        rw [hv]
        clear hv hl
        have h1 : (0 : Int) ≤ si := by omega
        have h2 : (si : Int) < 4 := by omega
        go_simp
      (try simp only [Act.put, Act.eval, List.setIfInBounds_toArray, List.set_cons_zero, List.set_cons_succ, Array.getD_eq_getD_getElem?, List.getElem?_toArray, List.getElem?_cons_succ, List.getElem?_cons_zero, Option.getD_some, Nat.reduceAdd, List.nil_append, List.cons_append, En.get])
      refine fs_read rfl (fun f => rfl) rfl (fun _ => .int .u8 (([0, 255, 1, 254] : List Int).getD si 0)) ?_ (fun _ _ _ => rfl) ?_
      · intro f lof w1 Lf HF HK1
        obtain ⟨p, hv, hl⟩ := HF 8 (by kernel_rfl)
        obtain ⟨⟨p', hv', hp⟩, -⟩ := HF 11 (by kernel_rfl)
        rw [hv] at hv'
        injection hv' with e1 e2 e3
        injection e1 with e1
        injection e1 with e1
        subst e1
        (try simp only [itms, itm, usesOf, readsOf, takesOf, List.find?, Nat.reduceBEq, List.flatMap_cons, List.flatMap_nil, Nat.reduceLT, if_true, if_false, Nat.reduceSub, List.getD_cons_zero, List.getD_cons_succ, List.append_nil, List.cons_append, List.nil_append, hl] at HK1)
        exact run_pick HK1 rfl (by exact hp) Try.underlying5 (C := [0, 255, 1, 254]) (.here _) (by exact hsi4) rfl
      (try simp only [Act.put, Act.eval, List.setIfInBounds_toArray, List.set_cons_zero, List.set_cons_succ, Array.getD_eq_getD_getElem?, List.getElem?_toArray, List.getElem?_cons_succ, List.getElem?_cons_zero, Option.getD_some, Nat.reduceAdd, List.nil_append, List.cons_append, En.get])
      generalize ([0, 1, 255, 2] : List Int).getD ri 0 = y1 at HV1 ⊢
      generalize ([0, 255, 1, 254] : List Int).getD si 0 = y2 at HV2 ⊢
      (repeat (first | (refine fs_skip rfl (fun f => rfl) ?_; (try simp only [Act.put, Act.eval, List.setIfInBounds_toArray, List.set_cons_zero, List.set_cons_succ, Array.getD_eq_getD_getElem?, List.getElem?_toArray, List.getElem?_cons_succ, List.getElem?_cons_zero, Option.getD_some, Nat.reduceAdd, List.nil_append, List.cons_append, En.get])) | (refine fs_move _ rfl rfl (fun f => rfl) rfl ?_ ?_; ((first | exact fun _ _ _ => rfl | exact fun f f' hcg => hcg _ (by kernel_rfl) | (intro f f' hcg; rw [hcg]; kernel_rfl) | (intro f f' hcg; rw [hcg, hcg]; (kernel_rfl; kernel_rfl)) | exact trivial)); (try simp only [Act.put, Act.eval, List.setIfInBounds_toArray, List.set_cons_zero, List.set_cons_succ, Array.getD_eq_getD_getElem?, List.getElem?_toArray, List.getElem?_cons_succ, List.getElem?_cons_zero, Option.getD_some, Nat.reduceAdd, List.nil_append, List.cons_append, En.get])) | (refine fs_assign _ rfl rfl (fun f => rfl) rfl ?_ ?_; ((first | exact fun _ _ _ => rfl | exact fun f f' hcg => hcg _ (by kernel_rfl) | (intro f f' hcg; rw [hcg]; kernel_rfl) | (intro f f' hcg; rw [hcg, hcg]; (kernel_rfl; kernel_rfl)) | exact trivial)); (try simp only [Act.put, Act.eval, List.setIfInBounds_toArray, List.set_cons_zero, List.set_cons_succ, Array.getD_eq_getD_getElem?, List.getElem?_toArray, List.getElem?_cons_succ, List.getElem?_cons_zero, Option.getD_some, Nat.reduceAdd, List.nil_append, List.cons_append, En.get])) | (fail) | (refine fs_pure rfl (fun f => rfl) rfl ?_ ?_ ?_ ?_; (rotate_left; (intro f w1; (skip); go_simp; (first | done | with_reducible rfl)); ((first | exact fun _ _ _ => rfl | exact fun f f' hcg => hcg _ (by kernel_rfl) | (intro f f' hcg; rw [hcg]; kernel_rfl) | (intro f f' hcg; rw [hcg, hcg]; (kernel_rfl; kernel_rfl)) | exact trivial)); (try simp only [Act.put, Act.eval, List.setIfInBounds_toArray, List.set_cons_zero, List.set_cons_succ, Array.getD_eq_getD_getElem?, List.getElem?_toArray, List.getElem?_cons_succ, List.getElem?_cons_zero, Option.getD_some, Nat.reduceAdd, List.nil_append, List.cons_append, En.get])))))
      refine fs_store rfl (fun f => rfl) (fun f it => it = [.ints p9 .u8 22 32 (q.set j y1)]) rfl ?_ (fun _ _ _ => rfl) ?_
      · intro f lof w1 Lf HF HK1 Q' hQ
        clear HF
        (try simp only [itms, itm, usesOf, readsOf, takesOf, List.find?, Nat.reduceBEq, List.flatMap_cons, List.flatMap_nil, Nat.reduceLT, if_true, if_false, Nat.reduceSub, List.getD_cons_zero, List.getD_cons_succ, List.append_nil, List.cons_append, List.nil_append, List.append_nil] at HK1)
        refine wpList_put_int rfl HK1 _ _ _ rfl _ _ _ _ rfl rfl _ _ _ (.here _) (by omega) (by kernel_rfl) ?_
        intro w' hk
        exact hQ _ ⟨_, rfl, hk⟩
      (try simp only [Act.put, Act.eval, List.setIfInBounds_toArray, List.set_cons_zero, List.set_cons_succ, Array.getD_eq_getD_getElem?, List.getElem?_toArray, List.getElem?_cons_succ, List.getElem?_cons_zero, Option.getD_some, Nat.reduceAdd, List.nil_append, List.cons_append, En.get])
      (repeat (first | (refine fs_skip rfl (fun f => rfl) ?_; (try simp only [Act.put, Act.eval, List.setIfInBounds_toArray, List.set_cons_zero, List.set_cons_succ, Array.getD_eq_getD_getElem?, List.getElem?_toArray, List.getElem?_cons_succ, List.getElem?_cons_zero, Option.getD_some, Nat.reduceAdd, List.nil_append, List.cons_append, En.get])) | (refine fs_move _ rfl rfl (fun f => rfl) rfl ?_ ?_; ((first | exact fun _ _ _ => rfl | exact fun f f' hcg => hcg _ (by kernel_rfl) | (intro f f' hcg; rw [hcg]; kernel_rfl) | (intro f f' hcg; rw [hcg, hcg]; (kernel_rfl; kernel_rfl)) | exact trivial)); (try simp only [Act.put, Act.eval, List.setIfInBounds_toArray, List.set_cons_zero, List.set_cons_succ, Array.getD_eq_getD_getElem?, List.getElem?_toArray, List.getElem?_cons_succ, List.getElem?_cons_zero, Option.getD_some, Nat.reduceAdd, List.nil_append, List.cons_append, En.get])) | (refine fs_assign _ rfl rfl (fun f => rfl) rfl ?_ ?_; ((first | exact fun _ _ _ => rfl | exact fun f f' hcg => hcg _ (by kernel_rfl) | (intro f f' hcg; rw [hcg]; kernel_rfl) | (intro f f' hcg; rw [hcg, hcg]; (kernel_rfl; kernel_rfl)) | exact trivial)); (try simp only [Act.put, Act.eval, List.setIfInBounds_toArray, List.set_cons_zero, List.set_cons_succ, Array.getD_eq_getD_getElem?, List.getElem?_toArray, List.getElem?_cons_succ, List.getElem?_cons_zero, Option.getD_some, Nat.reduceAdd, List.nil_append, List.cons_append, En.get])) | (fail) | (refine fs_pure rfl (fun f => rfl) rfl ?_ ?_ ?_ ?_; (rotate_left; (intro f w1; (skip); go_simp; (first | done | with_reducible rfl)); ((first | exact fun _ _ _ => rfl | exact fun f f' hcg => hcg _ (by kernel_rfl) | (intro f f' hcg; rw [hcg]; kernel_rfl) | (intro f f' hcg; rw [hcg, hcg]; (kernel_rfl; kernel_rfl)) | exact trivial)); (try simp only [Act.put, Act.eval, List.setIfInBounds_toArray, List.set_cons_zero, List.set_cons_succ, Array.getD_eq_getD_getElem?, List.getElem?_toArray, List.getElem?_cons_succ, List.getElem?_cons_zero, Option.getD_some, Nat.reduceAdd, List.nil_append, List.cons_append, En.get])))))
      refine fs_store rfl (fun f => rfl) (fun f it => it = [.ints p9 .u8 22 32 ((q.set j y1).set (16 + j) y2)]) rfl ?_ (fun _ _ _ => rfl) ?_
      · intro f lof w1 Lf HF HK1 Q' hQ
        have hl := HF 14 (by kernel_rfl)
        (try simp only [itms, itm, usesOf, readsOf, takesOf, List.find?, Nat.reduceBEq, List.flatMap_cons, List.flatMap_nil, Nat.reduceLT, if_true, if_false, Nat.reduceSub, List.getD_cons_zero, List.getD_cons_succ, List.append_nil, List.cons_append, List.nil_append, show lof 14 = _ from hl] at HK1)
        clear HF hl
        refine wpList_put_int rfl HK1 _ _ _ rfl _ _ _ _ rfl rfl _ _ _ (.here _) (by omega) (by kernel_rfl) ?_
        intro w' hk
        exact hQ _ ⟨_, rfl, hk⟩
      (try simp only [Act.put, Act.eval, List.setIfInBounds_toArray, List.set_cons_zero, List.set_cons_succ, Array.getD_eq_getD_getElem?, List.getElem?_toArray, List.getElem?_cons_succ, List.getElem?_cons_zero, Option.getD_some, Nat.reduceAdd, List.nil_append, List.cons_append, En.get])
      refine fs_end ?_
      intro f lof wn HF hk
      have hl := HF 16 (by decide)
      (try simp only [itms, itm, usesOf, readsOf, takesOf, List.find?, Nat.reduceBEq, List.flatMap_cons, List.flatMap_nil, Nat.reduceLT, if_true, if_false, Nat.reduceSub, List.getD_cons_zero, List.getD_cons_succ, List.append_nil, List.cons_append, List.nil_append, show lof 16 = _ from hl] at hk)
      generalize f 3 = x3
      generalize f 6 = x6
      generalize f 8 = x8
      generalize f 11 = x11
      clear HF hl f lof
      have HQ2 := Lib.hid (ok_set (ok_set HQ.out j y1 HV1.out.1 HV1.out.2) (16 + j) y2 HV2.out.1 HV2.out.2)
      obtain ⟨q2, hq2⟩ : ∃ q2, q2 = (q.set j y1).set (16 + j) y2 := ⟨_, rfl⟩
      rw [← hq2] at hk HQ2
      clear hq2
      clear HK
      have HK := Lib.hid hk
      clear hk
      by_cases hr8 : (r % 8 : Int) > 3
      · by_cases hj7 : 0 < j
        · have hj8 : (0 : Int) < j := by omega
          go_wp2_with (refine wpList_put_int rfl HK.out _ _ _ rfl _ _ _ _ rfl rfl _ _ _ (by first | exact Upd.here _ | exact Upd.next _ (Upd.here _) | exact Upd.next _ (Upd.next _ (Upd.here _)) | exact Upd.next _ (Upd.next _ (Upd.next _ (Upd.here _))) | exact Upd.next _ (Upd.next _ (Upd.next _ (Upd.next _ (Upd.here _)))) | exact Upd.next _ (Upd.next _ (Upd.next _ (Upd.next _ (Upd.next _ (Upd.here _))))) | exact Upd.next _ (Upd.next _ (Upd.next _ (Upd.next _ (Upd.next _ (Upd.next _ (Upd.here _)))))) | exact Upd.next _ (Upd.next _ (Upd.next _ (Upd.next _ (Upd.next _ (Upd.next _ (Upd.next _ (Upd.here _))))))) | exact Upd.next _ (Upd.next _ (Upd.next _ (Upd.next _ (Upd.next _ (Upd.next _ (Upd.next _ (Upd.next _ (Upd.here _)))))))) | exact Upd.next _ (Upd.next _ (Upd.next _ (Upd.next _ (Upd.next _ (Upd.next _ (Upd.next _ (Upd.next _ (Upd.next _ (Upd.here _)))))))))) (by omega) (by kernel_rfl) ?_; (intro wn hkn; have HKN := Lib.hid hkn; clear hkn; clear HK; have HK := HKN; clear HKN))
          exact ⟨⟨j + 1, _, by omega, by go_num, Lib.hid (ok_set HQ2.out j 0 (by decide) (by decide)), HK⟩, by simp [intOf]; omega⟩
        · have hj8 : ¬ (0 : Int) < j := by omega
          go_wp2_with fail
          exact ⟨⟨j + 1, _, by omega, by go_num, HQ2, HK⟩, by simp [intOf]; omega⟩
      · go_wp2_with fail
        exact ⟨⟨j + 1, _, by omega, by go_num, HQ2, HK⟩, by simp [intOf]; omega⟩
    · have hj2 : j = 16 := by omega
      subst hj2
      clear hlt hj
      rw [show ((16 : Nat) : Int) = 16 from rfl]
      have hmb : 1 * m ≤ 281474976710656 := by omega
      have hm6 : (m : Int) ≤ 9223372036854775807 := by omega
      go_upto_region 11 with (refine Go.Proofs.YtcfhpbnkebodiaaL.wpList_make_ints rfl HK.out _ _ 23 rfl 5 .u8 1 Try.underlying23 (by kernel_rfl) m _ rfl rfl HM.out hmb hm6 ?_)
      intro wn pb hk
      clear HK
      have HK := Lib.hid hk
      clear hk
      go_wp2_with fail
      go_loopw [12] (fun v wr => ∃ (j : Nat) (b : List Int), j ≤ m ∧ v = .int .i64 j ∧ Hid (okB 256 b) ∧ Hid (Own w wr [.ints pb .u8 5 m b, .ints p9 .u8 22 32 q])) (fun v _ => m - (intOf v).toNat)
      case atStart => exact ⟨0, _, by omega, rfl, Lib.hid (ok_zer (by decide) _), HK⟩
      case round =>
        obtain ⟨j, b, hj, rfl, HB, HK'⟩ := hrel
        clear HK
        have HK := HK'
        clear HK'
        by_cases hlt : j < m
        · have hj0 : (0 : Int) ≤ j := by omega
          have hj1 : (j : Int) < m := by omega
          have hm0 : (m : Int) < 70 := by omega
          obtain ⟨y1, hy1⟩ : ∃ y1, ([255, 0, 251, 1] : List Int).getD ci 0 = y1 := ⟨_, rfl⟩
          have hv3 := HV3.out
          rw [hy1] at hv3
          have HV4 := Lib.hid hv3
          have HY := Lib.hid hy1
          clear hy1 hv3
          have hci0 : (0 : Int) ≤ ci := by omega
          have hci5 : (ci : Int) < 4 := by omega
          go_wp2_with (refine wpList_stop 58 rfl ?_)
          obtain ⟨sb, hsb⟩ : ∃ sb, wr.heap.size = sb := ⟨_, rfl⟩
          have hkb := HK.out.blk (.cells #[.int .u8 255, .int .u8 0, .int .u8 251, .int .u8 1] 5 (0, 0)) hsb
          rintro w' hw'
          rw [hsb, HCI2.out]
          rw [← hw'] at hkb
          clear hsb hw'
          clear HK
          have HK := Lib.hid hkb
          clear hkb
          go_wp2_with (first | (refine wpList_run rfl (run_pick HK.out rfl rfl Try.underlying5 (C := [255, 0, 251, 1]) (.here _) (by exact hci4) HY.out) ?_) | (refine wpList_put_int rfl HK.out _ _ _ rfl _ _ _ _ rfl rfl _ _ _ (by first | exact Upd.here _ | exact Upd.next _ (Upd.here _) | exact Upd.next _ (Upd.next _ (Upd.here _)) | exact Upd.next _ (Upd.next _ (Upd.next _ (Upd.here _))) | exact Upd.next _ (Upd.next _ (Upd.next _ (Upd.next _ (Upd.here _)))) | exact Upd.next _ (Upd.next _ (Upd.next _ (Upd.next _ (Upd.next _ (Upd.here _))))) | exact Upd.next _ (Upd.next _ (Upd.next _ (Upd.next _ (Upd.next _ (Upd.next _ (Upd.here _)))))) | exact Upd.next _ (Upd.next _ (Upd.next _ (Upd.next _ (Upd.next _ (Upd.next _ (Upd.next _ (Upd.here _))))))) | exact Upd.next _ (Upd.next _ (Upd.next _ (Upd.next _ (Upd.next _ (Upd.next _ (Upd.next _ (Upd.next _ (Upd.here _)))))))) | exact Upd.next _ (Upd.next _ (Upd.next _ (Upd.next _ (Upd.next _ (Upd.next _ (Upd.next _ (Upd.next _ (Upd.next _ (Upd.here _)))))))))) (by omega) (by kernel_rfl) ?_; (intro wn hkn; have HKN := Lib.hid hkn; clear hkn; clear HK; have HK := HKN; clear HKN)))
          have HB2 := Lib.hid (ok_set HB.out j y1 HV4.out.1 HV4.out.2)
          have hk2 := HK.out.sub (List.sublist_cons_self _ _)
          clear HK
          have HK := Lib.hid hk2
          clear hk2
          go_wp2_with fail
          exact ⟨⟨j + 1, _, by omega, by go_num, HB2, HK⟩, by simp [intOf]; omega⟩
        · have hjm : j = m := by omega
          subst hjm
          clear hlt hj
          go_upto_region 15 with fail
          have hm3 : j ≤ 3000 := by omega
          have HQL := Lib.hid (HK.out.len (.next _ (.here _)))
          obtain ⟨M, hM⟩ : ∃ M, M = digB 256 16 (tagV q b) := ⟨_, rfl⟩
          have HM2 := Lib.hid hM
          have HML := Lib.hid (show M.length = 16 by rw [hM]; exact length_digB _ _ _)
          clear hM
          refine wp_region_sep [] [.ints pb .u8 5 j b, .ints p9 .u8 22 32 q] [(3, [2], [])] [] 9 (by kernel_rfl) (by kernel_rfl) (w0 := w) HK.out ?_
          (try simp only [Act.put, Act.eval, List.setIfInBounds_toArray, List.set_cons_zero, List.set_cons_succ, Array.getD_eq_getD_getElem?, List.getElem?_toArray, List.getElem?_cons_succ, List.getElem?_cons_zero, Option.getD_some, Nat.reduceAdd, List.nil_append, List.cons_append, En.get])
          refine fs_read rfl (fun f => rfl) rfl (fun _ => .agg (encK .u8 q)) ?_ (fun _ _ _ => rfl) ?_
          · intro f lof w1 Lf HF HK1
            clear HF
            (try simp only [itms, itm, usesOf, readsOf, takesOf, List.find?, Nat.reduceBEq, List.flatMap_cons, List.flatMap_nil, Nat.reduceLT, if_true, if_false, Nat.reduceSub, List.getD_cons_zero, List.getD_cons_succ, List.append_nil, List.cons_append, List.nil_append, List.append_nil] at HK1)
            exact run_loadr rfl rfl (HK1.rd (.next _ (.here _))) Try.underlying22 (by kernel_rfl)
          (try simp only [Act.put, Act.eval, List.setIfInBounds_toArray, List.set_cons_zero, List.set_cons_succ, Array.getD_eq_getD_getElem?, List.getElem?_toArray, List.getElem?_cons_succ, List.getElem?_cons_zero, Option.getD_some, Nat.reduceAdd, List.nil_append, List.cons_append, En.get])
          (repeat (first | (refine fs_skip rfl (fun f => rfl) ?_; (try simp only [Act.put, Act.eval, List.setIfInBounds_toArray, List.set_cons_zero, List.set_cons_succ, Array.getD_eq_getD_getElem?, List.getElem?_toArray, List.getElem?_cons_succ, List.getElem?_cons_zero, Option.getD_some, Nat.reduceAdd, List.nil_append, List.cons_append, En.get])) | (refine fs_move _ rfl rfl (fun f => rfl) rfl ?_ ?_; ((first | exact fun _ _ _ => rfl | exact fun f f' hcg => hcg _ (by kernel_rfl) | (intro f f' hcg; rw [hcg]; kernel_rfl) | (intro f f' hcg; rw [hcg, hcg]; (kernel_rfl; kernel_rfl)) | exact trivial)); (try simp only [Act.put, Act.eval, List.setIfInBounds_toArray, List.set_cons_zero, List.set_cons_succ, Array.getD_eq_getD_getElem?, List.getElem?_toArray, List.getElem?_cons_succ, List.getElem?_cons_zero, Option.getD_some, Nat.reduceAdd, List.nil_append, List.cons_append, En.get])) | (refine fs_assign _ rfl rfl (fun f => rfl) rfl ?_ ?_; ((first | exact fun _ _ _ => rfl | exact fun f f' hcg => hcg _ (by kernel_rfl) | (intro f f' hcg; rw [hcg]; kernel_rfl) | (intro f f' hcg; rw [hcg, hcg]; (kernel_rfl; kernel_rfl)) | exact trivial)); (try simp only [Act.put, Act.eval, List.setIfInBounds_toArray, List.set_cons_zero, List.set_cons_succ, Array.getD_eq_getD_getElem?, List.getElem?_toArray, List.getElem?_cons_succ, List.getElem?_cons_zero, Option.getD_some, Nat.reduceAdd, List.nil_append, List.cons_append, En.get])) | (fail) | (refine fs_pure rfl (fun f => rfl) rfl ?_ ?_ ?_ ?_; (rotate_left; (intro f w1; (skip); go_simp; (first | done | with_reducible rfl)); ((first | exact fun _ _ _ => rfl | exact fun f f' hcg => hcg _ (by kernel_rfl) | (intro f f' hcg; rw [hcg]; kernel_rfl) | (intro f f' hcg; rw [hcg, hcg]; (kernel_rfl; kernel_rfl)) | exact trivial)); (try simp only [Act.put, Act.eval, List.setIfInBounds_toArray, List.set_cons_zero, List.set_cons_succ, Array.getD_eq_getD_getElem?, List.getElem?_toArray, List.getElem?_cons_succ, List.getElem?_cons_zero, Option.getD_some, Nat.reduceAdd, List.nil_append, List.cons_append, En.get])))))
          refine fs_lit rfl (fun f => rfl) rfl 1 #[.slice (some ⟨pb, 0, none⟩) j j] 23 (fun f w1 => by go_simp; first | done | exact ⟨rfl, rfl⟩ | rfl) ?_
          (try simp only [Act.put, Act.eval, List.setIfInBounds_toArray, List.set_cons_zero, List.set_cons_succ, Array.getD_eq_getD_getElem?, List.getElem?_toArray, List.getElem?_cons_succ, List.getElem?_cons_zero, Option.getD_some, Nat.reduceAdd, List.nil_append, List.cons_append, En.get])
          refine fs_callv rfl (fun f => rfl) rfl 8 _ _ rfl (fun args w => by simp [callFunc, Try.func8]; rfl) (fun _ => .agg (encK .u8 M)) ?_ (fun _ _ _ => rfl) ?_
          · intro f lof w1 Lf HF HK1
            obtain ⟨p, hv, hl⟩ := HF 2 (by kernel_rfl)
            (try simp only [itms, itm, usesOf, readsOf, takesOf, List.find?, Nat.reduceBEq, List.flatMap_cons, List.flatMap_nil, Nat.reduceLT, if_true, if_false, Nat.reduceSub, List.getD_cons_zero, List.getD_cons_succ, List.append_nil, List.cons_append, List.nil_append, hl] at HK1)
            simp only [List.map_toArray, List.map_cons, List.map_nil, Act.eval, Array.getD_eq_getD_getElem?, List.getElem?_toArray, List.getElem?_cons_succ, List.getElem?_cons_zero, Option.getD_some, hv]
            clear HF hv hl
            have q4 := sum_any q _ 1 1 [⟨some ⟨pb, 0, none⟩, j, j, b⟩] w1 HQL.out HQ.out rfl (own_parts (bs := [⟨some ⟨pb, 0, none⟩, j, j, b⟩]) HK1 (.here _) rfl) (one_ok (own_bsi HK1 (.next _ (.here _)) HB.out hm3)) (by decide)
            rw [show digB 256 16 (tagV q (catB [(⟨some ⟨pb, 0, none⟩, j, j, b⟩ : Bs)])) = M by rw [cat_one]; exact HM2.out.symm] at q4
            exact q4
          (try simp only [Act.put, Act.eval, List.setIfInBounds_toArray, List.set_cons_zero, List.set_cons_succ, Array.getD_eq_getD_getElem?, List.getElem?_toArray, List.getElem?_cons_succ, List.getElem?_cons_zero, Option.getD_some, Nat.reduceAdd, List.nil_append, List.cons_append, En.get])
          refine fs_read rfl (fun f => rfl) rfl (fun _ => .agg (encK .u8 q)) ?_ (fun _ _ _ => rfl) ?_
          · intro f lof w1 Lf HF HK1
            clear HF
            (try simp only [itms, itm, usesOf, readsOf, takesOf, List.find?, Nat.reduceBEq, List.flatMap_cons, List.flatMap_nil, Nat.reduceLT, if_true, if_false, Nat.reduceSub, List.getD_cons_zero, List.getD_cons_succ, List.append_nil, List.cons_append, List.nil_append, List.append_nil] at HK1)
            exact run_loadr rfl rfl (HK1.rd (.next _ (.here _))) Try.underlying22 (by kernel_rfl)
          (try simp only [Act.put, Act.eval, List.setIfInBounds_toArray, List.set_cons_zero, List.set_cons_succ, Array.getD_eq_getD_getElem?, List.getElem?_toArray, List.getElem?_cons_succ, List.getElem?_cons_zero, Option.getD_some, Nat.reduceAdd, List.nil_append, List.cons_append, En.get])
          (repeat (first | (refine fs_skip rfl (fun f => rfl) ?_; (try simp only [Act.put, Act.eval, List.setIfInBounds_toArray, List.set_cons_zero, List.set_cons_succ, Array.getD_eq_getD_getElem?, List.getElem?_toArray, List.getElem?_cons_succ, List.getElem?_cons_zero, Option.getD_some, Nat.reduceAdd, List.nil_append, List.cons_append, En.get])) | (refine fs_move _ rfl rfl (fun f => rfl) rfl ?_ ?_; ((first | exact fun _ _ _ => rfl | exact fun f f' hcg => hcg _ (by kernel_rfl) | (intro f f' hcg; rw [hcg]; kernel_rfl) | (intro f f' hcg; rw [hcg, hcg]; (kernel_rfl; kernel_rfl)) | exact trivial)); (try simp only [Act.put, Act.eval, List.setIfInBounds_toArray, List.set_cons_zero, List.set_cons_succ, Array.getD_eq_getD_getElem?, List.getElem?_toArray, List.getElem?_cons_succ, List.getElem?_cons_zero, Option.getD_some, Nat.reduceAdd, List.nil_append, List.cons_append, En.get])) | (refine fs_assign _ rfl rfl (fun f => rfl) rfl ?_ ?_; ((first | exact fun _ _ _ => rfl | exact fun f f' hcg => hcg _ (by kernel_rfl) | (intro f f' hcg; rw [hcg]; kernel_rfl) | (intro f f' hcg; rw [hcg, hcg]; (kernel_rfl; kernel_rfl)) | exact trivial)); (try simp only [Act.put, Act.eval, List.setIfInBounds_toArray, List.set_cons_zero, List.set_cons_succ, Array.getD_eq_getD_getElem?, List.getElem?_toArray, List.getElem?_cons_succ, List.getElem?_cons_zero, Option.getD_some, Nat.reduceAdd, List.nil_append, List.cons_append, En.get])) | (fail) | (refine fs_pure rfl (fun f => rfl) rfl ?_ ?_ ?_ ?_; (rotate_left; (intro f w1; (skip); go_simp; (first | done | with_reducible rfl)); ((first | exact fun _ _ _ => rfl | exact fun f f' hcg => hcg _ (by kernel_rfl) | (intro f f' hcg; rw [hcg]; kernel_rfl) | (intro f f' hcg; rw [hcg, hcg]; (kernel_rfl; kernel_rfl)) | exact trivial)); (try simp only [Act.put, Act.eval, List.setIfInBounds_toArray, List.set_cons_zero, List.set_cons_succ, Array.getD_eq_getD_getElem?, List.getElem?_toArray, List.getElem?_cons_succ, List.getElem?_cons_zero, Option.getD_some, Nat.reduceAdd, List.nil_append, List.cons_append, En.get])))))
          refine fs_callv rfl (fun f => rfl) rfl 7 _ _ rfl (fun args w => by simp [callFunc, Try.func7]; rfl) (fun _ => .agg (encK .u8 M)) ?_ (fun _ _ _ => rfl) ?_
          · intro f lof w1 Lf HF HK1
            (try simp only [itms, itm, usesOf, readsOf, takesOf, List.find?, Nat.reduceBEq, List.flatMap_cons, List.flatMap_nil, Nat.reduceLT, if_true, if_false, Nat.reduceSub, List.getD_cons_zero, List.getD_cons_succ, List.append_nil, List.cons_append, List.nil_append, List.append_nil] at HK1)
            simp only [List.map_toArray, List.map_cons, List.map_nil, Act.eval, Array.getD_eq_getD_getElem?, List.getElem?_toArray, List.getElem?_cons_succ, List.getElem?_cons_zero, Option.getD_some, List.append_nil]
            clear HF
            have q4 := rpoly_any q (some ⟨pb, 0, none⟩) j j b w1 HQL.out HQ.out (HK1.rd (.here _)) HB.out (Nat.le_refl _) (by unfold maxLen; omega) (fun _ x hx => by injection hx with hx; rw [← hx]; exact row_lt (HK1.row (.here _)))
            rw [← HM2.out] at q4
            exact q4
          (try simp only [Act.put, Act.eval, List.setIfInBounds_toArray, List.set_cons_zero, List.set_cons_succ, Array.getD_eq_getD_getElem?, List.getElem?_toArray, List.getElem?_cons_succ, List.getElem?_cons_zero, Option.getD_some, Nat.reduceAdd, List.nil_append, List.cons_append, En.get])
          refine fs_pure rfl (fun f => rfl) rfl (fun _ => .bool true) (fun f w1 => run_eqa rfl Try.underlying26 Try.underlying5 (by kernel_rfl) (by kernel_rfl) (xs := M) (ys := M) rfl rfl HML.out HML.out (by simp)) (fun _ _ _ => rfl) ?_
          (try simp only [Act.put, Act.eval, List.setIfInBounds_toArray, List.set_cons_zero, List.set_cons_succ, Array.getD_eq_getD_getElem?, List.getElem?_toArray, List.getElem?_cons_succ, List.getElem?_cons_zero, Option.getD_some, Nat.reduceAdd, List.nil_append, List.cons_append, En.get])
          (repeat (first | (refine fs_skip rfl (fun f => rfl) ?_; (try simp only [Act.put, Act.eval, List.setIfInBounds_toArray, List.set_cons_zero, List.set_cons_succ, Array.getD_eq_getD_getElem?, List.getElem?_toArray, List.getElem?_cons_succ, List.getElem?_cons_zero, Option.getD_some, Nat.reduceAdd, List.nil_append, List.cons_append, En.get])) | (refine fs_move _ rfl rfl (fun f => rfl) rfl ?_ ?_; ((first | exact fun _ _ _ => rfl | exact fun f f' hcg => hcg _ (by kernel_rfl) | (intro f f' hcg; rw [hcg]; kernel_rfl) | (intro f f' hcg; rw [hcg, hcg]; (kernel_rfl; kernel_rfl)) | exact trivial)); (try simp only [Act.put, Act.eval, List.setIfInBounds_toArray, List.set_cons_zero, List.set_cons_succ, Array.getD_eq_getD_getElem?, List.getElem?_toArray, List.getElem?_cons_succ, List.getElem?_cons_zero, Option.getD_some, Nat.reduceAdd, List.nil_append, List.cons_append, En.get])) | (refine fs_assign _ rfl rfl (fun f => rfl) rfl ?_ ?_; ((first | exact fun _ _ _ => rfl | exact fun f f' hcg => hcg _ (by kernel_rfl) | (intro f f' hcg; rw [hcg]; kernel_rfl) | (intro f f' hcg; rw [hcg, hcg]; (kernel_rfl; kernel_rfl)) | exact trivial)); (try simp only [Act.put, Act.eval, List.setIfInBounds_toArray, List.set_cons_zero, List.set_cons_succ, Array.getD_eq_getD_getElem?, List.getElem?_toArray, List.getElem?_cons_succ, List.getElem?_cons_zero, Option.getD_some, Nat.reduceAdd, List.nil_append, List.cons_append, En.get])) | (fail) | (refine fs_pure rfl (fun f => rfl) rfl ?_ ?_ ?_ ?_; (rotate_left; (intro f w1; (skip); go_simp; (first | done | with_reducible rfl)); ((first | exact fun _ _ _ => rfl | exact fun f f' hcg => hcg _ (by kernel_rfl) | (intro f f' hcg; rw [hcg]; kernel_rfl) | (intro f f' hcg; rw [hcg, hcg]; (kernel_rfl; kernel_rfl)) | exact trivial)); (try simp only [Act.put, Act.eval, List.setIfInBounds_toArray, List.set_cons_zero, List.set_cons_succ, Array.getD_eq_getD_getElem?, List.getElem?_toArray, List.getElem?_cons_succ, List.getElem?_cons_zero, Option.getD_some, Nat.reduceAdd, List.nil_append, List.cons_append, En.get])))))
          refine fs_end ?_
          intro f lof wn HF hk
          (try simp only [itms, itm, usesOf, readsOf, takesOf, List.find?, Nat.reduceBEq, List.flatMap_cons, List.flatMap_nil, Nat.reduceLT, if_true, if_false, Nat.reduceSub, List.getD_cons_zero, List.getD_cons_succ, List.append_nil, List.cons_append, List.nil_append, List.append_nil] at hk)
          generalize f 2 = x2
          clear HF f lof
          clear HK
          have HK := Lib.hid hk
          clear hk
          go_wp2_with fail
          exact bodyPost_ret (results_tmp rfl _ _ _) rfl ⟨rfl, HK.out.grown⟩
end Go.Proofs.Ytcfhpbnkebodiaa
