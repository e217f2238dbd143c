/- poly: the law's known sums. -/
import Derived.Test.YtcfhpbnkebodiaaPolM
namespace Go.Proofs.Ytcfhpbnkebodiaa
set_option linter.unusedVariables false
set_option linter.unusedSimpArgs false
open Go.RowKit Go.Proofs.YtcfhpbnkebodiaaL

theorem wpList_row {P : Program} {ops : Array Oper} {Q : Exit → Act → World → Prop} {a : Act} {w : World} {o : Oper} {rest : List Oper} (hw : Region.wanted o (yielded ops a.tmps) = true) (ty : TypeId) (x : Operand) (hop : o.op = .load ty x)
    (g : Nat) (hx : a.eval x = .pointer (some ⟨g, 0, none⟩)) (t : TypeId) (cs : Array Value) (fr : Nat × Nat) (d : TypeDesc) (hg : w.heap[g]? = some (.cells cs t fr))
    (hu : P.underlying ty = some d) (hd : (match d with | .struct _ | .array _ _ => true | _ => false) = true) (hi : (P.info? ty).map (·.size) = some cs.size)
    (h : wpList P ops Q rest (a.put o.dst (.agg cs)) w) : wpList P ops Q (o :: rest) a w :=
  wpList_when hw fun _ hK => by
    unfold Oper.wp execOp
    simp only [hop, hx, Instr.loadAt, Instr.sureAddr, Sem.run_bind, Sem.run_pure, Result.andThen_ok, run_loadVar_row w g t ty cs fr d hg hu hd hi]
    exact hK _ _ h
def kK : List Int := [1, 0, 0, 0, 0, 0, 0, 0, 0, 0, 0, 0, 0, 0, 0, 0, 7, 0, 0, 0, 0, 0, 0, 0, 0, 0, 0, 0, 0, 0, 0, 0]
theorem kK_ok : okB 256 kK := by unfold okB kK; decide
def k7 : List Int := [7, 0, 0, 0, 0, 0, 0, 0, 0, 0, 0, 0, 0, 0, 0, 0]
def k12 : List Int := [12, 1, 0, 0, 0, 0, 0, 0, 0, 0, 0, 0, 0, 0, 0, 0]
def b5 (q : Nat) : Bs := ⟨some ⟨q, 0, none⟩, 1, 1, [5]⟩
theorem k_7 : digB 256 16 (tagV kK (catB [])) = k7 := by decide +kernel
theorem k_12 (b : Bs) (h : b.xs = [5]) : digB 256 16 (tagV kK (catB [b])) = k12 := by
  rw [show catB [b] = [5] by rw [catB, h]; rfl]
  decide +kernel
set_option maxHeartbeats 400000 in
set_option maxRecDepth 100000 in
theorem known_any (w : World) : Calls Try.prog 6 #[] w fun e w' => e = .returned (.bool true) ∧ w.grownBy w' none := by
  go_enter Try.func6, Try.ntmps6
  obtain ⟨p, hp⟩ : ∃ p, w.heap.size = p := ⟨_, rfl⟩
  have HP := Lib.hid hp
  clear hp
  go_wp2_with (refine wpList_store_range rfl A32 (.tmp 1) (.tmp 2) rfl p 0 (encK .u8 kK) (by simp [Act.eval, HP.out]) rfl _ (encK .u8 (List.replicate 32 0)) (alloc_at _ _ HP.out.symm) (by decide) (by kernel_rfl) (one_encK _ _) ?_)
  rw [HP.out]
  intro w1 r1 g1
  rw [putAt_all _ _ (by rfl)] at r1
  have R0 : Hid (w1.heap[p]? = some (.cells (encK .u8 kK) A32 (0, 0))) := r1
  have HG : Hid (w.grownBy w1 none) := grown_row (grown_alloc (grown_refl w none) _) g1 (fun k hk => by injection hk with hk; have := HP.out; omega)
  clear r1 g1
  go_wp2_with (refine wpList_load_row rfl A32 (.tmp 1) rfl p rfl _ _ _ _ R0.out Try.underlying22 rfl (by kernel_rfl) ?_)
  refine (sum_any kK none 0 0 [] _ rfl kK_ok rfl (fun i b hb => by simp at hb) (fun b hb => by cases hb) (by decide)).mono ?_
  rintro e w2 ⟨rfl, hg2⟩
  rw [k_7]
  have R0' := Lib.hid (row_keep R0.out hg2)
  have HG2 := Lib.hid (grown_trans HG.out hg2)
  clear hg2 R0 HG
  obtain ⟨q, hq⟩ : ∃ q, w2.heap.size = q := ⟨_, rfl⟩
  have HQ := Lib.hid hq
  clear hq
  go_wp2_with (first | (refine wpList_eql rfl _ (.tmp 4) (.tmp 5) _ rfl 16 _ .u8 Try.underlying26 Try.underlying5 (by kernel_rfl) (by kernel_rfl) k7 k7 rfl rfl rfl rfl true rfl ?_) | (refine wpList_row rfl A32 (.tmp 1) rfl p rfl _ _ _ _ R0'.out Try.underlying22 rfl (by kernel_rfl) ?_) | (refine wpList_stop 11 rfl ?_))
  rw [HQ.out]
  intro w5 hw5
  have hw5' : w5 = (w2.alloc (.cells (encK .u8 [5]) 5 (0, 0))).alloc (.cells #[(b5 q).val] 23 (0, 0)) := hw5
  have r5 : w5.heap[q]? = some (.cells (encK .u8 [5]) 5 (0, 0)) := by rw [hw5', alloc_up _ _ (by rw [alloc_size, HQ.out]; omega)]; exact alloc_at _ _ HQ.out.symm
  have hcell : w5.heap[q + 1]? = some (.cells #[(b5 q).val] 23 (0, 0)) := by rw [hw5']; exact alloc_at _ _ (by rw [alloc_size, HQ.out])
  have ga : w2.grownBy w5 none := by rw [hw5']; exact grown_alloc (grown_alloc (grown_refl w2 none) _) _
  have hbok : (b5 q).ok w5 := ⟨rd_row r5, (by intro x hx; have h : x = 5 := (by simpa [b5] using hx); omega), (fun h => by cases h), (show 1 ≤ 3000 by decide)⟩
  have HC := Lib.hid hcell
  have HBO := Lib.hid hbok
  have HG5 := Lib.hid (grown_trans HG2.out ga)
  clear hw5 hw5' r5 hcell ga hbok
  go_wp2_with fail
  refine (sum_any kK (some ⟨q + 1, 0, none⟩) 1 1 [b5 q] _ rfl kK_ok rfl (fun i c hc => by
    have h0 : i = 0 := by
      have := (List.getElem?_eq_some_iff.1 hc).1
      simpa using this
    subst h0
    have : b5 q = c := by simpa using hc
    subst this
    exact ⟨_, rfl, row_cell HC.out 0 _ rfl⟩) (fun c hc => by
    have : c = b5 q := by simpa using hc
    subst this
    exact HBO.out) (by decide)).mono ?_
  rintro e w6 ⟨rfl, hg6⟩
  rw [k_12 (b5 q) rfl]
  have HG6 := Lib.hid (grown_trans HG5.out hg6)
  clear hg6
  go_wp2_with (refine wpList_eql rfl _ (.tmp 11) (.tmp 12) _ rfl 16 _ .u8 Try.underlying26 Try.underlying5 (by kernel_rfl) (by kernel_rfl) k12 k12 rfl rfl rfl rfl true rfl ?_)
  exact bodyPost_ret (results_tmp rfl _ _ _) rfl ⟨rfl, HG6.out⟩
end Go.Proofs.Ytcfhpbnkebodiaa
