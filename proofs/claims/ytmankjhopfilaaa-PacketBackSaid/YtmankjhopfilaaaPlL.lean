/- PacketBack, walked. -/
import Derived.Test.YtmankjhopfilaaaPlI
namespace Go.Proofs.Ytmankjhopfilaaa
set_option linter.unusedVariables false
set_option linter.unusedSimpArgs false
open Go.RowKit Go.Proofs.YtmankjhopfilaaaL

theorem range_0 {w : World} {b : Nat} {qv qs6 qd6 xv xs6 xd6 : Bool} {qc qf qi qg qt qp qsh qsl qdh qdl xc xf xi xg xt xp xsh xsl xdh xdl : Int} {qad ad : Option Addr} {qlen qcap len cap : Nat} (h : w.heap[b]? = some (Obj.cells #[Value.bool qv, .int .u8 qc, .int .u32 qf, .int .u16 qi, .int .u16 qg, .int .u8 qt, .int .u8 qp, .bool qs6, .int .u64 qsh, .int .u64 qsl, .bool qd6, .int .u64 qdh, .int .u64 qdl, .slice qad qlen qcap, .bool xv, .int .u8 xc, .int .u32 xf, .int .u16 xi, .int .u16 xg, .int .u8 xt, .int .u8 xp, .bool xs6, .int .u64 xsh, .int .u64 xsl, .bool xd6, .int .u64 xdh, .int .u64 xdl, .slice ad len cap] 29 (0, 0))) : w.rangeAt b 0 [.bool qv, .int .u8 qc, .int .u32 qf, .int .u16 qi, .int .u16 qg, .int .u8 qt, .int .u8 qp, .bool qs6, .int .u64 qsh, .int .u64 qsl, .bool qd6, .int .u64 qdh, .int .u64 qdl, .slice qad qlen qcap] := fun k v hk => by
  rw [cell_blk h, ← hk]
  rcases k with _ | _ | _ | _ | _ | _ | _ | _ | _ | _ | _ | _ | _ | _ | k
  all_goals first | rfl | cases hk
theorem range_1 {w : World} {b : Nat} {qv qs6 qd6 xv xs6 xd6 : Bool} {qc qf qi qg qt qp qsh qsl qdh qdl xc xf xi xg xt xp xsh xsl xdh xdl : Int} {qad ad : Option Addr} {qlen qcap len cap : Nat} (h : w.heap[b]? = some (Obj.cells #[Value.bool qv, .int .u8 qc, .int .u32 qf, .int .u16 qi, .int .u16 qg, .int .u8 qt, .int .u8 qp, .bool qs6, .int .u64 qsh, .int .u64 qsl, .bool qd6, .int .u64 qdh, .int .u64 qdl, .slice qad qlen qcap, .bool xv, .int .u8 xc, .int .u32 xf, .int .u16 xi, .int .u16 xg, .int .u8 xt, .int .u8 xp, .bool xs6, .int .u64 xsh, .int .u64 xsl, .bool xd6, .int .u64 xdh, .int .u64 xdl, .slice ad len cap] 29 (0, 0))) : w.rangeAt b 14 [.bool xv, .int .u8 xc, .int .u32 xf, .int .u16 xi, .int .u16 xg, .int .u8 xt, .int .u8 xp, .bool xs6, .int .u64 xsh, .int .u64 xsl, .bool xd6, .int .u64 xdh, .int .u64 xdl, .slice ad len cap] := fun k v hk => by
  rw [cell_blk h, ← hk]
  rcases k with _ | _ | _ | _ | _ | _ | _ | _ | _ | _ | _ | _ | _ | _ | k
  all_goals first | rfl | cases hk

set_option maxHeartbeats 16000000 in
set_option maxRecDepth 100000 in
theorem back_walk (q : Pk) (qad : Option Addr) (qlen qcap : Nat) (qzs : List Int) (x : Sp) (ad : Option Addr) (len cap : Nat) (zs : List Int) (w : World) (hq : q.ok) (hrr : IsRow .u8 w qad qlen qcap qzs) (hx : x.ok) (hr : IsRow .u8 w ad len cap zs) :
    Calls Try.prog 3 #[q.val (.slice qad qlen qcap), x.val (.slice ad len cap)] w fun e w' => e = .returned (.bool true) ∧ w.grownBy w' none := by
  obtain ⟨h1, h2, h3, h4⟩ := isRow_rd hr
  obtain ⟨h5, h6⟩ := row_none hr
  obtain ⟨r1, r2, hrc, r4⟩ := isRow_rd hrr
  obtain ⟨r5, r6⟩ := row_none hrr
  obtain ⟨xs, hxs⟩ : ∃ xs, xs = zs.take len := ⟨_, rfl⟩
  obtain ⟨qxs, hqxs⟩ : ∃ xs, xs = qzs.take qlen := ⟨_, rfl⟩
  rw [← hxs] at h1 h2
  rw [← hqxs] at r1 r2
  have HR := Lib.hid h1
  have HOX := Lib.hid h2
  have HN := Lib.hid h5
  have HX := Lib.hid hx
  have HQO := Lib.hid hq
  have HRR := Lib.hid r1
  have HRO := Lib.hid r2
  have HRN := Lib.hid r5
  have h63 : (len : Int) ≤ 9223372036854775807 := by omega
  have r63 : (qlen : Int) ≤ 9223372036854775807 := by omega
  clear hr h1 h2 h4 h5 h6 hxs hx hrr r1 r2 r4 r5 r6 hqxs hq
  have HK := Lib.hid (own_start w)
  have hso := sp_ok HX.out
  obtain ⟨v6, s, d, e, f, ttl, proto⟩ := x
  have HSP := Lib.hid (fun (w' : World) => sp_any ⟨v6, s, d, e, f, ttl, proto⟩ ad len cap w' HX.out)
  obtain ⟨⟨xv, xc, xf, xi, xg, xt, xp, ⟨xs6, xsh, xsl⟩, ⟨xd6, xdh, xdl⟩⟩, hQ⟩ : ∃ Q, Q = Sp.pk ⟨v6, s, d, e, f, ttl, proto⟩ := ⟨_, rfl⟩
  rw [← hQ] at HSP hso
  have HPO := Lib.hid hso.1
  clear hQ hso
  obtain ⟨qv, qc, qf, qi, qg, qt, qp, ⟨qs6, qsh, qsl⟩, ⟨qd6, qdh, qdl⟩⟩ := q
  show Calls Try.prog _ #[.agg #[.bool qv, .int .u8 qc, .int .u32 qf, .int .u16 qi, .int .u16 qg, .int .u8 qt, .int .u8 qp, .bool qs6, .int .u64 qsh, .int .u64 qsl, .bool qd6, .int .u64 qdh, .int .u64 qdl, .slice qad qlen qcap], .agg #[.bool v6, .int .u8 s, .int .u8 d, .int .u8 e, .int .u8 f, .int .u8 ttl, .int .u8 proto, .slice ad len cap]] w fun e w' => e = .returned (.bool true) ∧ w.grownBy w' none
  go_enter Try.func3, Try.ntmps3
  go_wp2_with fail
  have hk := own_alloc (own_alloc HK.out (Obj.cells #[Value.bool qv, .int .u8 qc, .int .u32 qf, .int .u16 qi, .int .u16 qg, .int .u8 qt, .int .u8 qp, .bool qs6, .int .u64 qsh, .int .u64 qsl, .bool qd6, .int .u64 qdh, .int .u64 qdl, .slice qad qlen qcap] 29 (0, 0))) (Obj.cells #[Value.bool v6, .int .u8 s, .int .u8 d, .int .u8 e, .int .u8 f, .int .u8 ttl, .int .u8 proto, .slice ad len cap] 31 (0, 0))
  obtain ⟨p2, hp⟩ : ∃ p, p = w.heap.size := ⟨_, rfl⟩
  have hp1 : (w.alloc (Obj.cells #[Value.bool qv, .int .u8 qc, .int .u32 qf, .int .u16 qi, .int .u16 qg, .int .u8 qt, .int .u8 qp, .bool qs6, .int .u64 qsh, .int .u64 qsl, .bool qd6, .int .u64 qdh, .int .u64 qdl, .slice qad qlen qcap] 29 (0, 0))).heap.size = p2 + 1 := by rw [hp]; exact Array.size_push _
  rw [← hp] at hk ⊢
  rw [hp1] at hk
  clear hp hp1
  obtain ⟨p3, hr⟩ : ∃ r, r = p2 + 1 := ⟨_, rfl⟩
  rw [← hr] at hk ⊢
  clear hr
  clear HK
  have HK := Lib.hid hk
  clear hk
  refine (known_any _).mono ?_
  rintro e1 wk ⟨rfl, hg⟩
  have hkb := HK.out.grow hg
  clear hg
  clear HK
  have HK := Lib.hid hkb
  clear hkb
  have hb := HK.out.at (.here _)
  have c7 : wk.cell? ⟨p3, 7, none⟩ = some (.slice ad len cap) := cell_blk hb 7
  clear hb
  have hb := HK.out.at (.next _ (.here _))
  have c13 : wk.cell? ⟨p2, 13, none⟩ = some (.slice qad qlen qcap) := cell_blk hb 13
  clear hb
  by_cases hrbig : (qlen : Int) > 200
  · go_wp2_with fail
    exact bodyPost_ret (results_tmp rfl _ _ _) rfl ⟨rfl, HK.out.grown⟩
  by_cases hbig : (len : Int) > 200
  · go_wp2_with fail
    exact bodyPost_ret (results_tmp rfl _ _ _) rfl ⟨rfl, HK.out.grown⟩
  have hlen : len ≤ 200 := by omega
  have hrlen : qlen ≤ 200 := by omega
  have HB := Lib.hid (fun (w' : World) (g : w.grownBy w' none) => (show (⟨ad, len, cap, xs⟩ : Bs).ok w' from ⟨HR.out.kept g, HOX.out, HN.out, (show len ≤ 3000 by omega)⟩))
  have HQB := Lib.hid (fun (w' : World) (g : w.grownBy w' none) => (show (⟨qad, qlen, qcap, qxs⟩ : Bs).ok w' from ⟨HRR.out.kept g, HRO.out, HRN.out, (show qlen ≤ 3000 by omega)⟩))
  go_upto_region 5 with fail
  clear c7 c13
  refine wp_region_sep [] [.blk p3 (Obj.cells #[Value.bool v6, .int .u8 s, .int .u8 d, .int .u8 e, .int .u8 f, .int .u8 ttl, .int .u8 proto, .slice ad len cap] 31 (0, 0)), .blk p2 (Obj.cells #[Value.bool qv, .int .u8 qc, .int .u32 qf, .int .u16 qi, .int .u16 qg, .int .u8 qt, .int .u8 qp, .bool qs6, .int .u64 qsh, .int .u64 qsl, .bool qd6, .int .u64 qdh, .int .u64 qdl, .slice qad qlen qcap] 29 (0, 0))] [] [3] 6 (by kernel_rfl) (by kernel_rfl) (w0 := w) HK.out ?_
  (try simp only [Act.put, Act.eval, List.setIfInBounds_toArray, List.set_cons_zero, List.set_cons_succ, Array.getD_eq_getD_getElem?, List.getElem?_toArray, List.getElem?_cons_succ, List.getElem?_cons_zero, Option.getD_some, Nat.reduceAdd, List.nil_append, List.cons_append, En.get])
  refine fs_read rfl (fun f => rfl) rfl (fun _ => .agg #[.bool qv, .int .u8 qc, .int .u32 qf, .int .u16 qi, .int .u16 qg, .int .u8 qt, .int .u8 qp, .bool qs6, .int .u64 qsh, .int .u64 qsl, .bool qd6, .int .u64 qdh, .int .u64 qdl, .slice qad qlen qcap]) ?_ (fun _ _ _ => rfl) ?_
  · intro f lof w1 Lf HF HK1
    clear HF
    (try simp only [itms, itm, usesOf, readsOf, takesOf, List.find?, Nat.reduceBEq, List.flatMap_cons, List.flatMap_nil, Nat.reduceLT, if_true, if_false, Nat.reduceSub, List.getD_cons_zero, List.getD_cons_succ, List.append_nil, List.cons_append, List.nil_append, List.append_nil] at HK1)
    exact run_rowl rfl rfl (HK1.at (.next _ (.here _))) Try.underlying29 rfl (by kernel_rfl)
  (try simp only [Act.put, Act.eval, List.setIfInBounds_toArray, List.set_cons_zero, List.set_cons_succ, Array.getD_eq_getD_getElem?, List.getElem?_toArray, List.getElem?_cons_succ, List.getElem?_cons_zero, Option.getD_some, Nat.reduceAdd, List.nil_append, List.cons_append, En.get])
  refine fs_read rfl (fun f => rfl) rfl (fun _ => .agg #[.bool v6, .int .u8 s, .int .u8 d, .int .u8 e, .int .u8 f, .int .u8 ttl, .int .u8 proto, .slice ad len cap]) ?_ (fun _ _ _ => rfl) ?_
  · intro f lof w1 Lf HF HK1
    clear HF
    (try simp only [itms, itm, usesOf, readsOf, takesOf, List.find?, Nat.reduceBEq, List.flatMap_cons, List.flatMap_nil, Nat.reduceLT, if_true, if_false, Nat.reduceSub, List.getD_cons_zero, List.getD_cons_succ, List.append_nil, List.cons_append, List.nil_append, List.append_nil] at HK1)
    exact run_rowl rfl rfl (HK1.at (.here _)) Try.underlying31 rfl (by kernel_rfl)
  (try simp only [Act.put, Act.eval, List.setIfInBounds_toArray, List.set_cons_zero, List.set_cons_succ, Array.getD_eq_getD_getElem?, List.getElem?_toArray, List.getElem?_cons_succ, List.getElem?_cons_zero, Option.getD_some, Nat.reduceAdd, List.nil_append, List.cons_append, En.get])
  refine fs_callv rfl (fun f => rfl) rfl 11 _ _ rfl (fun args w => by simp [callFunc, Try.func11]; rfl) (fun _ => .agg #[.bool xv, .int .u8 xc, .int .u32 xf, .int .u16 xi, .int .u16 xg, .int .u8 xt, .int .u8 xp, .bool xs6, .int .u64 xsh, .int .u64 xsl, .bool xd6, .int .u64 xdh, .int .u64 xdl, .slice ad len cap]) ?_ (fun _ _ _ => rfl) ?_
  · intro f1 lof w1 Lf HF HK1
    simp only [List.map_toArray, List.map_cons, List.map_nil, Act.eval, Array.getD_eq_getD_getElem?, List.getElem?_toArray, List.getElem?_cons_succ, List.getElem?_cons_zero, Option.getD_some, List.append_nil]
    clear HF
    exact HSP.out w1
  (try simp only [Act.put, Act.eval, List.setIfInBounds_toArray, List.set_cons_zero, List.set_cons_succ, Array.getD_eq_getD_getElem?, List.getElem?_toArray, List.getElem?_cons_succ, List.getElem?_cons_zero, Option.getD_some, Nat.reduceAdd, List.nil_append, List.cons_append, En.get])
  refine fs_build rfl (fun f => rfl) 2 29 (.res (fun _ v it => ∃ q, v = .slice (some ⟨q, 0, none⟩) 2 2 ∧ it = [.blk q (Obj.cells #[Value.bool qv, .int .u8 qc, .int .u32 qf, .int .u16 qi, .int .u16 qg, .int .u8 qt, .int .u8 qp, .bool qs6, .int .u64 qsh, .int .u64 qsl, .bool qd6, .int .u64 qdh, .int .u64 qdl, .slice qad qlen qcap, .bool xv, .int .u8 xc, .int .u32 xf, .int .u16 xi, .int .u16 xg, .int .u8 xt, .int .u8 xp, .bool xs6, .int .u64 xsh, .int .u64 xsl, .bool xd6, .int .u64 xdh, .int .u64 xdl, .slice ad len cap] 29 (0, 0))])) ?_ (fun _ _ _ => rfl) ?_
  · intro f1 lof w1 Lf HF HK1
    clear HF HK1
    refine ⟨#[.bool qv, .int .u8 qc, .int .u32 qf, .int .u16 qi, .int .u16 qg, .int .u8 qt, .int .u8 qp, .bool qs6, .int .u64 qsh, .int .u64 qsl, .bool qd6, .int .u64 qdh, .int .u64 qdl, .slice qad qlen qcap, .bool xv, .int .u8 xc, .int .u32 xf, .int .u16 xi, .int .u16 xg, .int .u8 xt, .int .u8 xp, .bool xs6, .int .u64 xsh, .int .u64 xsl, .bool xd6, .int .u64 xdh, .int .u64 xdl, .slice ad len cap], ?_, ?_⟩
    · go_simp; first | done | exact ⟨rfl, rfl⟩ | rfl
    · intro p w' hk
      exact ⟨_, ⟨p, rfl, rfl⟩, hk⟩
  (try simp only [Act.put, Act.eval, List.setIfInBounds_toArray, List.set_cons_zero, List.set_cons_succ, Array.getD_eq_getD_getElem?, List.getElem?_toArray, List.getElem?_cons_succ, List.getElem?_cons_zero, Option.getD_some, Nat.reduceAdd, List.nil_append, List.cons_append, En.get])
  refine fs_read rfl (fun f => rfl) rfl (fun _ => .int .i64 2) ?_ (fun _ _ _ => rfl) ?_
  · intro f1 lof w1 Lf HF HK1
    obtain ⟨p, hv, hl⟩ := HF 3 (by kernel_rfl)
    rw [hv]
    clear HF HK1 hv hl
    go_simp; first | done | exact ⟨rfl, rfl⟩ | rfl
  (try simp only [Act.put, Act.eval, List.setIfInBounds_toArray, List.set_cons_zero, List.set_cons_succ, Array.getD_eq_getD_getElem?, List.getElem?_toArray, List.getElem?_cons_succ, List.getElem?_cons_zero, Option.getD_some, Nat.reduceAdd, List.nil_append, List.cons_append, En.get])
  (repeat (first | (refine fs_skip rfl (fun f => rfl) ?_; (try simp only [Act.put, Act.eval, List.setIfInBounds_toArray, List.set_cons_zero, List.set_cons_succ, Array.getD_eq_getD_getElem?, List.getElem?_toArray, List.getElem?_cons_succ, List.getElem?_cons_zero, Option.getD_some, Nat.reduceAdd, List.nil_append, List.cons_append, En.get])) | (refine fs_move _ rfl rfl (fun f => rfl) rfl ?_ ?_; ((first | exact fun _ _ _ => rfl | exact fun f f' hcg => hcg _ (by kernel_rfl) | (intro f f' hcg; rw [hcg]; kernel_rfl) | (intro f f' hcg; rw [hcg, hcg]; (kernel_rfl; kernel_rfl)) | exact trivial)); (try simp only [Act.put, Act.eval, List.setIfInBounds_toArray, List.set_cons_zero, List.set_cons_succ, Array.getD_eq_getD_getElem?, List.getElem?_toArray, List.getElem?_cons_succ, List.getElem?_cons_zero, Option.getD_some, Nat.reduceAdd, List.nil_append, List.cons_append, En.get])) | (refine fs_assign _ rfl rfl (fun f => rfl) rfl ?_ ?_; ((first | exact fun _ _ _ => rfl | exact fun f f' hcg => hcg _ (by kernel_rfl) | (intro f f' hcg; rw [hcg]; kernel_rfl) | (intro f f' hcg; rw [hcg, hcg]; (kernel_rfl; kernel_rfl)) | exact trivial)); (try simp only [Act.put, Act.eval, List.setIfInBounds_toArray, List.set_cons_zero, List.set_cons_succ, Array.getD_eq_getD_getElem?, List.getElem?_toArray, List.getElem?_cons_succ, List.getElem?_cons_zero, Option.getD_some, Nat.reduceAdd, List.nil_append, List.cons_append, En.get])) | (fail) | (refine fs_pure rfl (fun f => rfl) rfl ?_ ?_ ?_ ?_; (rotate_left; (intro f w1; (skip); go_simp; (first | done | with_reducible rfl)); ((first | exact fun _ _ _ => rfl | exact fun f f' hcg => hcg _ (by kernel_rfl) | (intro f f' hcg; rw [hcg]; kernel_rfl) | (intro f f' hcg; rw [hcg, hcg]; (kernel_rfl; kernel_rfl)) | exact trivial)); (try simp only [Act.put, Act.eval, List.setIfInBounds_toArray, List.set_cons_zero, List.set_cons_succ, Array.getD_eq_getD_getElem?, List.getElem?_toArray, List.getElem?_cons_succ, List.getElem?_cons_zero, Option.getD_some, Nat.reduceAdd, List.nil_append, List.cons_append, En.get])))))
  refine fs_end ?_
  intro f lof wn HF hk
  obtain ⟨pb, hv, hl⟩ := HF 3 (by decide)
  (try simp only [itms, itm, usesOf, readsOf, takesOf, List.find?, Nat.reduceBEq, List.flatMap_cons, List.flatMap_nil, Nat.reduceLT, if_true, if_false, Nat.reduceSub, List.getD_cons_zero, List.getD_cons_succ, List.append_nil, List.cons_append, List.nil_append, hl] at hk)
  rw [hv]
  clear HF hv hl f lof
  have hk := hk.sub (List.Sublist.cons_cons _ (List.Sublist.cons _ (List.Sublist.cons _ (List.Sublist.refl _))))
  clear HK
  have HK := Lib.hid hk
  clear hk
  go_wp2_with fail
  go_loopw [34] (fun i wr => ∃ (j : Nat), j ≤ 2 ∧ i = .int .i64 j ∧ Hid (Own w wr [.blk pb (Obj.cells #[Value.bool qv, .int .u8 qc, .int .u32 qf, .int .u16 qi, .int .u16 qg, .int .u8 qt, .int .u8 qp, .bool qs6, .int .u64 qsh, .int .u64 qsl, .bool qd6, .int .u64 qdh, .int .u64 qdl, .slice qad qlen qcap, .bool xv, .int .u8 xc, .int .u32 xf, .int .u16 xi, .int .u16 xg, .int .u8 xt, .int .u8 xp, .bool xs6, .int .u64 xsh, .int .u64 xsl, .bool xd6, .int .u64 xdh, .int .u64 xdl, .slice ad len cap] 29 (0, 0))])) (fun i _ => 2 - (intOf i).toNat)
  case atStart => exact ⟨0, by omega, rfl, HK⟩
  case round =>
    obtain ⟨j, hj, rfl, HK'⟩ := hrel
    clear HK
    have HK := HK'
    clear HK'
    have hj2 : j = 0 ∨ j = 1 ∨ j = 2 := by omega
    rcases hj2 with rfl | rfl | rfl
    · rw [show ((0 : Nat) : Int) = 0 from rfl]
      obtain ⟨E, hE⟩ : ∃ E, E = putE (⟨qv, qc, qf, qi, qg, qt, qp, ⟨qs6, qsh, qsl⟩, ⟨qd6, qdh, qdl⟩⟩ : Pk) (⟨qad, qlen, qcap, qxs⟩ : Bs).len := ⟨_, rfl⟩
      obtain ⟨Y, hY⟩ : ∃ Y, Y = putL (⟨qv, qc, qf, qi, qg, qt, qp, ⟨qs6, qsh, qsl⟩, ⟨qd6, qdh, qdl⟩⟩ : Pk) (⟨qad, qlen, qcap, qxs⟩ : Bs).xs := ⟨_, rfl⟩
      have HE := Lib.hid hE
      have HY := Lib.hid hY
      clear hE hY
      have HKZ := Lib.hid (own_alloc HK.out (Obj.cells #[Value.bool false, .int .u8 0, .int .u32 0, .int .u16 0, .int .u16 0, .int .u8 0, .int .u8 0, .bool false, .int .u64 0, .int .u64 0, .bool false, .int .u64 0, .int .u64 0, .slice none 0 0] 29 (0, 0)))
      go_upto_region 8 with (first | (refine wpList_run rfl (run_mid rfl rfl [.bool qv, .int .u8 qc, .int .u32 qf, .int .u16 qi, .int .u16 qg, .int .u8 qt, .int .u8 qp, .bool qs6, .int .u64 qsh, .int .u64 qsl, .bool qd6, .int .u64 qdh, .int .u64 qdl, .slice qad qlen qcap] (range_0 (HK.out.at (.here _))) Try.underlying29 rfl (by kernel_rfl)) ?_) | (refine wpList_put_blk rfl HKZ.out 29 _ _ rfl wr.heap.size #[.bool qv, .int .u8 qc, .int .u32 qf, .int .u16 qi, .int .u16 qg, .int .u8 qt, .int .u8 qp, .bool qs6, .int .u64 qsh, .int .u64 qsl, .bool qd6, .int .u64 qdh, .int .u64 qdl, .slice qad qlen qcap] rfl rfl _ _ (.here _) (by rfl) (by kernel_rfl) (by simp [Value.oneCell']) ?_; (intro wn hkn; have HKN := Lib.hid hkn; clear hkn HKZ; clear HK; have HK := HKN; clear HKN)))
      obtain ⟨p6, hp⟩ : ∃ p, p = wr.heap.size := ⟨_, rfl⟩
      rw [← hp] at HK ⊢
      clear hp
      go_wp2_with (refine wpList_run rfl (run_rowl rfl rfl (HK.out.at (.here _)) Try.underlying29 rfl (by kernel_rfl)) ?_)
      have q4 := put_any (⟨qv, qc, qf, qi, qg, qt, qp, ⟨qs6, qsh, qsl⟩, ⟨qd6, qdh, qdl⟩⟩ : Pk) ⟨qad, qlen, qcap, qxs⟩ _ HQO.out (HQB.out _ HK.out.grown)
      rw [← HE.out, ← HY.out] at q4
      refine q4.mono ?_
      clear q4
      rintro e1 w6 ⟨a1, m1, c1, rfl, ho, hg⟩
      have hk := own_back HK.out hg ho
      clear ho hg
      clear HK
      have HK := Lib.hid hk
      clear hk
      go_wp2_with (refine wpList_run rfl (run_rowl rfl rfl (HK.out.at (.next _ (.here _))) Try.underlying29 rfl (by kernel_rfl)) ?_)
      have q4 := rput_any (⟨qv, qc, qf, qi, qg, qt, qp, ⟨qs6, qsh, qsl⟩, ⟨qd6, qdh, qdl⟩⟩ : Pk) ⟨qad, qlen, qcap, qxs⟩ _ HQO.out (HQB.out _ HK.out.grown)
      rw [← HE.out, ← HY.out] at q4
      refine q4.mono ?_
      clear q4
      rintro e1 w7 ⟨a2, m2, c2, rfl, ho, hg⟩
      have hk := own_back HK.out hg ho
      clear ho hg
      clear HK
      have HK := Lib.hid hk
      clear hk
      go_upto_region 12 with (first | (refine wpList_run rfl (run_str rfl Try.underlying27 Try.underlying5 Try.underlying9 rfl (HK.out.rdsl (.here _))) ?_) | (refine wpList_run rfl (run_str rfl Try.underlying27 Try.underlying5 Try.underlying9 rfl (HK.out.rdsl (.next _ (.here _)))) ?_))
      by_cases hE : E = 0
      case neg =>
        have hne : (E != 0) = true := by simp [hE]
        clear hE
        have hk := HK.out.sub (List.Sublist.cons _ (List.Sublist.cons _ (List.Sublist.cons _ (List.Sublist.refl _))))
        clear HK
        have HK := Lib.hid hk
        clear hk
        go_wp2_with fail
        exact ⟨⟨1, by omega, rfl, HK⟩, by simp [intOf]⟩
      case pos =>
      have HEE := Lib.hid hE
      subst hE
      have hrb := read_back (⟨qv, qc, qf, qi, qg, qt, qp, ⟨qs6, qsh, qsl⟩, ⟨qd6, qdh, qdl⟩⟩ : Pk) qxs HQO.out (HQB.out _ HK.out.grown).2.1 (by rw [(HQB.out _ HK.out.grown).1.1]; exact HE.out.symm)
      rw [show putL (⟨qv, qc, qf, qi, qg, qt, qp, ⟨qs6, qsh, qsl⟩, ⟨qd6, qdh, qdl⟩⟩ : Pk) qxs = Y from HY.out.symm] at hrb
      have hm1 := HK.out.lensl (.next _ (.here _))
      have hm9 : m1 ≤ 3000 := by rw [← hm1, hrb.2.1]; exact Nat.le_trans hrb.2.2.1 (by decide)
      have HYO := Lib.hid hrb.1
      have HYP := Lib.hid hrb.2.2.2
      clear hrb hm1
      have hcap := (HK.out.cap (.next _ (.here _))).1
      obtain ⟨bs, hbs⟩ : ∃ b, b = (hop Y).isSome := ⟨_, rfl⟩
      obtain ⟨HL, hHL⟩ : ∃ b, b = (hop Y).getD [] := ⟨_, rfl⟩
      have HBS := Lib.hid hbs.symm
      have HHL := Lib.hid hHL.symm
      clear hbs hHL
      go_wp2_with fail
      have q4 := parse_any a1 m1 c1 Y _ (own_bs HK.out (.next _ (.here _)) HYO.out hm9) hcap
      rw [HYP.out] at q4
      refine q4.mono ?_
      clear q4
      rintro e1 w8 ⟨a3, c3, rfl, ho, hg⟩
      have hk := own_back HK.out hg ho
      clear ho hg
      clear HK
      have HK := Lib.hid hk
      clear hk
      rw [Rs.val_eq]
      dsimp only
      have HKZ := Lib.hid (own_alloc HK.out (Obj.cells #[Value.bool false, .int .u8 0, .int .u32 0, .int .u16 0, .int .u16 0, .int .u8 0, .int .u8 0, .bool false, .int .u64 0, .int .u64 0, .bool false, .int .u64 0, .int .u64 0, .slice none 0 0] 29 (0, 0)))
      go_upto_region 14 with (refine wpList_put_blk rfl HKZ.out 29 _ _ rfl w8.heap.size #[.bool qv, .int .u8 qc, .int .u32 qf, .int .u16 qi, .int .u16 qg, .int .u8 qt, .int .u8 qp, .bool qs6, .int .u64 qsh, .int .u64 qsl, .bool qd6, .int .u64 qdh, .int .u64 qdl, .slice a3 qxs.length c3] rfl rfl _ _ (.here _) (by rfl) (by kernel_rfl) (by simp [Value.oneCell']) ?_; (intro wn hkn; have HKN := Lib.hid hkn; clear hkn HKZ; clear HK; have HK := HKN; clear HKN))
      obtain ⟨p11, hp⟩ : ∃ p, p = w8.heap.size := ⟨_, rfl⟩
      rw [← hp] at HK ⊢
      clear hp
      go_wp2_with fail
      have q4 := hop_any a1 m1 c1 Y _ (own_bs HK.out (.next _ (.next _ (.next _ (.here _)))) HYO.out hm9) hcap
      rw [HBS.out, HHL.out] at q4
      refine q4.mono ?_
      clear q4
      rintro e1 w9 ⟨a4, m4, c4, rfl, ho, hg⟩
      have hk := own_back HK.out hg ho
      clear ho hg
      clear HK
      have HK := Lib.hid hk
      clear hk
      go_wp2_with fail
      have q4 := rhop_any a1 m1 c1 Y _ (own_bs HK.out (.next _ (.next _ (.next _ (.next _ (.here _))))) HYO.out hm9) hcap
      rw [HBS.out, HHL.out] at q4
      refine q4.mono ?_
      clear q4
      rintro e1 w10 ⟨a5, m5, c5, rfl, ho, hg⟩
      have hk := own_back HK.out hg ho
      clear ho hg
      clear HK
      have HK := Lib.hid hk
      clear hk
      go_wp2_with (first | (refine wpList_run rfl (run_rowl rfl rfl (HK.out.at (.next _ (.next _ (.here _)))) Try.underlying29 rfl (by kernel_rfl)) ?_) | (refine wpList_run rfl (run_rowl rfl rfl (HK.out.at (.next _ (.next _ (.next _ (.next _ (.next _ (.next _ (.here _)))))))) Try.underlying29 rfl (by kernel_rfl)) ?_))
      refine (help_any (⟨qv, qc, qf, qi, qg, qt, qp, ⟨qs6, qsh, qsl⟩, ⟨qd6, qdh, qdl⟩⟩ : Pk) a3 qxs.length c3 qad qlen qcap qxs _ (HK.out.rdsl (.next _ (.next _ (.next _ (.here _))))) (HQB.out _ HK.out.grown).1).mono ?_
      rintro e1 w11 ⟨rfl, hg⟩
      have hk := HK.out.grow hg
      clear hg
      clear HK
      have HK := Lib.hid hk
      clear hk
      go_wp2_with (first | (refine wpList_run rfl (run_str rfl Try.underlying27 Try.underlying5 Try.underlying9 rfl (HK.out.rdsl (.here _))) ?_) | (refine wpList_run rfl (run_str rfl Try.underlying27 Try.underlying5 Try.underlying9 rfl (HK.out.rdsl (.next _ (.here _)))) ?_))
      have hk := HK.out.sub (List.Sublist.cons _ (List.Sublist.cons _ (List.Sublist.cons _ (List.Sublist.cons _ (List.Sublist.cons _ (List.Sublist.cons _ (List.Sublist.cons _ (List.Sublist.refl _))))))))
      clear HK
      have HK := Lib.hid hk
      clear hk
      go_wp2_with fail
      exact ⟨⟨1, by omega, rfl, HK⟩, by simp [intOf]⟩
    · rw [show ((1 : Nat) : Int) = 1 from rfl]
      obtain ⟨E, hE⟩ : ∃ E, E = putE (⟨xv, xc, xf, xi, xg, xt, xp, ⟨xs6, xsh, xsl⟩, ⟨xd6, xdh, xdl⟩⟩ : Pk) (⟨ad, len, cap, xs⟩ : Bs).len := ⟨_, rfl⟩
      obtain ⟨Y, hY⟩ : ∃ Y, Y = putL (⟨xv, xc, xf, xi, xg, xt, xp, ⟨xs6, xsh, xsl⟩, ⟨xd6, xdh, xdl⟩⟩ : Pk) (⟨ad, len, cap, xs⟩ : Bs).xs := ⟨_, rfl⟩
      have HE := Lib.hid hE
      have HY := Lib.hid hY
      clear hE hY
      have HKZ := Lib.hid (own_alloc HK.out (Obj.cells #[Value.bool false, .int .u8 0, .int .u32 0, .int .u16 0, .int .u16 0, .int .u8 0, .int .u8 0, .bool false, .int .u64 0, .int .u64 0, .bool false, .int .u64 0, .int .u64 0, .slice none 0 0] 29 (0, 0)))
      go_upto_region 8 with (first | (refine wpList_run rfl (run_mid rfl rfl [.bool xv, .int .u8 xc, .int .u32 xf, .int .u16 xi, .int .u16 xg, .int .u8 xt, .int .u8 xp, .bool xs6, .int .u64 xsh, .int .u64 xsl, .bool xd6, .int .u64 xdh, .int .u64 xdl, .slice ad len cap] (range_1 (HK.out.at (.here _))) Try.underlying29 rfl (by kernel_rfl)) ?_) | (refine wpList_put_blk rfl HKZ.out 29 _ _ rfl wr.heap.size #[.bool xv, .int .u8 xc, .int .u32 xf, .int .u16 xi, .int .u16 xg, .int .u8 xt, .int .u8 xp, .bool xs6, .int .u64 xsh, .int .u64 xsl, .bool xd6, .int .u64 xdh, .int .u64 xdl, .slice ad len cap] rfl rfl _ _ (.here _) (by rfl) (by kernel_rfl) (by simp [Value.oneCell']) ?_; (intro wn hkn; have HKN := Lib.hid hkn; clear hkn HKZ; clear HK; have HK := HKN; clear HKN)))
      obtain ⟨p6, hp⟩ : ∃ p, p = wr.heap.size := ⟨_, rfl⟩
      rw [← hp] at HK ⊢
      clear hp
      go_wp2_with (refine wpList_run rfl (run_rowl rfl rfl (HK.out.at (.here _)) Try.underlying29 rfl (by kernel_rfl)) ?_)
      have q4 := put_any (⟨xv, xc, xf, xi, xg, xt, xp, ⟨xs6, xsh, xsl⟩, ⟨xd6, xdh, xdl⟩⟩ : Pk) ⟨ad, len, cap, xs⟩ _ HPO.out (HB.out _ HK.out.grown)
      rw [← HE.out, ← HY.out] at q4
      refine q4.mono ?_
      clear q4
      rintro e1 w6 ⟨a1, m1, c1, rfl, ho, hg⟩
      have hk := own_back HK.out hg ho
      clear ho hg
      clear HK
      have HK := Lib.hid hk
      clear hk
      go_wp2_with (refine wpList_run rfl (run_rowl rfl rfl (HK.out.at (.next _ (.here _))) Try.underlying29 rfl (by kernel_rfl)) ?_)
      have q4 := rput_any (⟨xv, xc, xf, xi, xg, xt, xp, ⟨xs6, xsh, xsl⟩, ⟨xd6, xdh, xdl⟩⟩ : Pk) ⟨ad, len, cap, xs⟩ _ HPO.out (HB.out _ HK.out.grown)
      rw [← HE.out, ← HY.out] at q4
      refine q4.mono ?_
      clear q4
      rintro e1 w7 ⟨a2, m2, c2, rfl, ho, hg⟩
      have hk := own_back HK.out hg ho
      clear ho hg
      clear HK
      have HK := Lib.hid hk
      clear hk
      go_upto_region 12 with (first | (refine wpList_run rfl (run_str rfl Try.underlying27 Try.underlying5 Try.underlying9 rfl (HK.out.rdsl (.here _))) ?_) | (refine wpList_run rfl (run_str rfl Try.underlying27 Try.underlying5 Try.underlying9 rfl (HK.out.rdsl (.next _ (.here _)))) ?_))
      by_cases hE : E = 0
      case neg =>
        have hne : (E != 0) = true := by simp [hE]
        clear hE
        have hk := HK.out.sub (List.Sublist.cons _ (List.Sublist.cons _ (List.Sublist.cons _ (List.Sublist.refl _))))
        clear HK
        have HK := Lib.hid hk
        clear hk
        go_wp2_with fail
        exact ⟨⟨2, by omega, rfl, HK⟩, by simp [intOf]⟩
      case pos =>
      have HEE := Lib.hid hE
      subst hE
      have hrb := read_back (⟨xv, xc, xf, xi, xg, xt, xp, ⟨xs6, xsh, xsl⟩, ⟨xd6, xdh, xdl⟩⟩ : Pk) xs HPO.out (HB.out _ HK.out.grown).2.1 (by rw [(HB.out _ HK.out.grown).1.1]; exact HE.out.symm)
      rw [show putL (⟨xv, xc, xf, xi, xg, xt, xp, ⟨xs6, xsh, xsl⟩, ⟨xd6, xdh, xdl⟩⟩ : Pk) xs = Y from HY.out.symm] at hrb
      have hm1 := HK.out.lensl (.next _ (.here _))
      have hm9 : m1 ≤ 3000 := by rw [← hm1, hrb.2.1]; exact Nat.le_trans hrb.2.2.1 (by decide)
      have HYO := Lib.hid hrb.1
      have HYP := Lib.hid hrb.2.2.2
      clear hrb hm1
      have hcap := (HK.out.cap (.next _ (.here _))).1
      obtain ⟨bs, hbs⟩ : ∃ b, b = (hop Y).isSome := ⟨_, rfl⟩
      obtain ⟨HL, hHL⟩ : ∃ b, b = (hop Y).getD [] := ⟨_, rfl⟩
      have HBS := Lib.hid hbs.symm
      have HHL := Lib.hid hHL.symm
      clear hbs hHL
      go_wp2_with fail
      have q4 := parse_any a1 m1 c1 Y _ (own_bs HK.out (.next _ (.here _)) HYO.out hm9) hcap
      rw [HYP.out] at q4
      refine q4.mono ?_
      clear q4
      rintro e1 w8 ⟨a3, c3, rfl, ho, hg⟩
      have hk := own_back HK.out hg ho
      clear ho hg
      clear HK
      have HK := Lib.hid hk
      clear hk
      rw [Rs.val_eq]
      dsimp only
      have HKZ := Lib.hid (own_alloc HK.out (Obj.cells #[Value.bool false, .int .u8 0, .int .u32 0, .int .u16 0, .int .u16 0, .int .u8 0, .int .u8 0, .bool false, .int .u64 0, .int .u64 0, .bool false, .int .u64 0, .int .u64 0, .slice none 0 0] 29 (0, 0)))
      go_upto_region 14 with (refine wpList_put_blk rfl HKZ.out 29 _ _ rfl w8.heap.size #[.bool xv, .int .u8 xc, .int .u32 xf, .int .u16 xi, .int .u16 xg, .int .u8 xt, .int .u8 xp, .bool xs6, .int .u64 xsh, .int .u64 xsl, .bool xd6, .int .u64 xdh, .int .u64 xdl, .slice a3 xs.length c3] rfl rfl _ _ (.here _) (by rfl) (by kernel_rfl) (by simp [Value.oneCell']) ?_; (intro wn hkn; have HKN := Lib.hid hkn; clear hkn HKZ; clear HK; have HK := HKN; clear HKN))
      obtain ⟨p11, hp⟩ : ∃ p, p = w8.heap.size := ⟨_, rfl⟩
      rw [← hp] at HK ⊢
      clear hp
      go_wp2_with fail
      have q4 := hop_any a1 m1 c1 Y _ (own_bs HK.out (.next _ (.next _ (.next _ (.here _)))) HYO.out hm9) hcap
      rw [HBS.out, HHL.out] at q4
      refine q4.mono ?_
      clear q4
      rintro e1 w9 ⟨a4, m4, c4, rfl, ho, hg⟩
      have hk := own_back HK.out hg ho
      clear ho hg
      clear HK
      have HK := Lib.hid hk
      clear hk
      go_wp2_with fail
      have q4 := rhop_any a1 m1 c1 Y _ (own_bs HK.out (.next _ (.next _ (.next _ (.next _ (.here _))))) HYO.out hm9) hcap
      rw [HBS.out, HHL.out] at q4
      refine q4.mono ?_
      clear q4
      rintro e1 w10 ⟨a5, m5, c5, rfl, ho, hg⟩
      have hk := own_back HK.out hg ho
      clear ho hg
      clear HK
      have HK := Lib.hid hk
      clear hk
      go_wp2_with (first | (refine wpList_run rfl (run_rowl rfl rfl (HK.out.at (.next _ (.next _ (.here _)))) Try.underlying29 rfl (by kernel_rfl)) ?_) | (refine wpList_run rfl (run_rowl rfl rfl (HK.out.at (.next _ (.next _ (.next _ (.next _ (.next _ (.next _ (.here _)))))))) Try.underlying29 rfl (by kernel_rfl)) ?_))
      refine (help_any (⟨xv, xc, xf, xi, xg, xt, xp, ⟨xs6, xsh, xsl⟩, ⟨xd6, xdh, xdl⟩⟩ : Pk) a3 xs.length c3 ad len cap xs _ (HK.out.rdsl (.next _ (.next _ (.next _ (.here _))))) (HB.out _ HK.out.grown).1).mono ?_
      rintro e1 w11 ⟨rfl, hg⟩
      have hk := HK.out.grow hg
      clear hg
      clear HK
      have HK := Lib.hid hk
      clear hk
      go_wp2_with (first | (refine wpList_run rfl (run_str rfl Try.underlying27 Try.underlying5 Try.underlying9 rfl (HK.out.rdsl (.here _))) ?_) | (refine wpList_run rfl (run_str rfl Try.underlying27 Try.underlying5 Try.underlying9 rfl (HK.out.rdsl (.next _ (.here _)))) ?_))
      have hk := HK.out.sub (List.Sublist.cons _ (List.Sublist.cons _ (List.Sublist.cons _ (List.Sublist.cons _ (List.Sublist.cons _ (List.Sublist.cons _ (List.Sublist.cons _ (List.Sublist.refl _))))))))
      clear HK
      have HK := Lib.hid hk
      clear hk
      go_wp2_with fail
      exact ⟨⟨2, by omega, rfl, HK⟩, by simp [intOf]⟩
    · rw [show ((2 : Nat) : Int) = 2 from rfl]
      go_wp2_with fail
      exact bodyPost_ret (results_tmp rfl _ _ _) rfl ⟨rfl, HK.out.grown⟩
end Go.Proofs.Ytmankjhopfilaaa
