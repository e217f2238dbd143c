/- WindowPlays: which of any numbers are taken, in any order, near one another or far. -/
import Derived.Test.YtebabmpmhihijaaWinR
namespace Go.Proofs.Ytebabmpmhihijaa
set_option linter.unusedVariables false
set_option linter.unusedSimpArgs false
open Go.RowKit Go.Proofs.YtebabmpmhihijaaL

theorem maxL_mem {L : List Int} (t : Int) (ht : t ∈ L) (hle : ∀ x ∈ L, 0 ≤ x ∧ x ≤ t) : maxL L = t := by
  have h1 : ∀ (L : List Int) (a : Int), (∀ x ∈ L, x ≤ t) → a ≤ t → L.foldl max a ≤ t := by
    intro L
    induction L with
    | nil => intro a _ h; exact h
    | cons x r ih => intro a h ha; exact ih _ (fun y hy => h y (List.mem_cons_of_mem _ hy)) (by have := h x List.mem_cons_self; omega)
  have h2 : ∀ (L : List Int) (a : Int), t ∈ L → t ≤ L.foldl max a := by
    intro L
    induction L with
    | nil => intro a h; simp at h
    | cons x r ih =>
      intro a h
      rcases List.mem_cons.1 h with e | e
      · subst e; exact Int.le_trans (by omega) (foldl_max_nn r (max a t))
      · exact ih _ e
  have := h1 L 0 (fun x hx => (hle x hx).2) (by have := hle t ht; omega)
  have := h2 L 0 ht
  unfold maxL; omega

theorem top_max {s : PW} {L : List Int} (h : Inv s L.reverse) (h0 : s.any = false → s.top = 0) : s.top = maxL L ∧ s.any = decide (0 < L.length) := by
  have ha : s.any = decide (0 < L.length) := by
    rw [h.any]
    cases L with
    | nil => rfl
    | cons a r => simp
  refine ⟨?_, ha⟩
  cases hs : s.any with
  | true => exact (maxL_mem s.top (by simpa using h.topm hs) (fun x hx => h.le x (by simpa using hx))).symm
  | false =>
    rw [hs] at ha
    have : L.length = 0 := by simp at ha; exact List.length_eq_zero_iff.2 ha
    rw [List.length_eq_zero_iff.1 this, h0 hs]; rfl

theorem may_ref {s : PW} {L : List Int} (h : Inv s L.reverse) (h0 : s.any = false → s.top = 0) (n : Int) (hn : 0 ≤ n) : s.may n = mayR L n := by
  obtain ⟨ht, ha⟩ := top_max h h0
  rw [may_inv h n hn, mayL, mayR, ht]
  cases L with
  | nil => simp [maxL]; omega
  | cons a r =>
    have he : (a :: r).reverse.isEmpty = false := by simp
    have hc : (a :: r).reverse.contains n = (a :: r).contains n := by
      rw [Bool.eq_iff_iff, List.contains_iff_mem, List.contains_iff_mem, List.mem_reverse]
    rw [he, hc, Bool.false_or]
    by_cases h1 : maxL (a :: r) < n
    · have h2 : ¬ (n < maxL (a :: r) ∧ 2048 ≤ maxL (a :: r) - n) := by omega
      rw [if_neg h2]
      have h3 : (a :: r).contains n = false := by
        rw [Bool.eq_false_iff]
        intro hm
        have hs : s.any = true := by rw [ha]; simp
        have := (h.le n (List.mem_reverse.2 (List.contains_iff_mem.1 hm))).2
        omega
      simp only [h1, h3, decide_true, Bool.true_or, Bool.not_false]
    · by_cases h2 : n < maxL (a :: r) ∧ 2048 ≤ maxL (a :: r) - n
      · have h3 : ¬ maxL (a :: r) - n < 2048 := by omega
        rw [if_pos h2]
        simp only [h1, h3, decide_false, Bool.false_or, Bool.false_and]
      · have h3 : maxL (a :: r) - n < 2048 := by omega
        rw [if_neg h2]
        simp only [h1, h3, decide_false, decide_true, Bool.false_or, Bool.true_and]

theorem step_ref {s : PW} {L : List Int} (h : Inv s L.reverse) (h0 : s.any = false → s.top = 0) (n : Int) (hn : 0 ≤ n) :
    ∃ L', (if mayR L n then L ++ [n] else L) = L' ∧ Inv (s.take n) L'.reverse ∧ ((s.take n).any = false → (s.take n).top = 0) ∧ L'.length ≤ L.length + 1 ∧ (∀ x ∈ L', x ∈ L ∨ x = n) := by
  cases hm : mayR L n with
  | false =>
    have h1 := may_ref h h0 n hn
    rw [hm] at h1
    rw [take_no _ _ h1]
    exact ⟨L, rfl, h, h0, by omega, fun x hx => .inl hx⟩
  | true =>
    have h1 := may_ref h h0 n hn
    rw [hm] at h1
    obtain ⟨i1, t1⟩ := take_inv h n hn h1
    refine ⟨L ++ [n], rfl, by simpa using i1, ?_, by simp, fun x hx => by simpa using hx⟩
    rw [i1.any]; simp

theorem drawn_size {w w' : World} {n : Nat} (d : Drawn w w') (h : n ≤ w.heap.size) : n ≤ w'.heap.size := by
  obtain ⟨k, rfl⟩ := d; exact h
theorem drawn_heap {w w' : World} (d : Drawn w w') (g : Nat) : w'.heap[g]? = w.heap[g]? := by
  obtain ⟨k, rfl⟩ := d; rfl
theorem src_alloc {w : World} {v : Value} {news : List Value} (h : Src w v news) (o : Obj) : Src (w.alloc o) v news := by
  rcases h with h | ⟨ad, c, hv, hc⟩
  · exact .inl h
  · exact .inr ⟨ad, c, hv, fun j u hu => (World.grownBy_alloc w o none).cell (hc j u hu) (by simp)⟩

set_option maxHeartbeats 2000000 in
theorem plays_walk (a : Option Addr) (len cap : Nat) (z : List Int) (a2 : Option Addr) (len2 cap2 : Nat) (z2 : List Int) (from_ : Int) (w : World) (hr : IsRow .u64 w a len cap z) (hr2 : IsRow .u16 w a2 len2 cap2 z2) (h0 : 0 ≤ from_) (h1 : from_ < 18446744073709551616) :
    Calls Try.prog 3 #[.slice a len cap, .slice a2 len2 cap2, .int .u64 from_] w fun e w' => e = .returned (.bool true) ∧ w.grownBy w' none := by
  have HR := Lib.hid hr
  have HR2 := Lib.hid hr2
  clear hr hr2
  go_enter Try.func3, Try.ntmps3
  go_wp2_with fail
  refine (known_any _).mono ?_
  rintro e w1 ⟨rfl, g1⟩
  have G1 := Lib.hid g1
  clear g1
  by_cases hl : (len : Int) ≤ 30 ∧ (len2 : Int) ≤ 60
  · obtain ⟨hl1, hl2⟩ := hl
    go_wp2_with fail
    refine (new_any _).mono ?_
    rintro e w2 ⟨rfl, h2, g2, l2⟩
    clear l2
    obtain ⟨b, hb⟩ : ∃ b, w1.heap.size = b := ⟨_, rfl⟩
    have HB := Lib.hid hb
    rw [hb] at h2 ⊢
    clear hb
    have H2 := Lib.hid h2
    have G2 := Lib.hid g2
    clear h2 g2
    have hbl2 := row_lt H2.out
    have HBL2 := Lib.hid hbl2
    clear hbl2
    obtain ⟨r, hrr⟩ : ∃ r, w2.heap.size = r := ⟨_, rfl⟩
    have HRR := Lib.hid hrr
    clear hrr
    obtain ⟨hs1, hs2, hs3⟩ := isRow_src HR.out (grown_trans G1.out G2.out)
    obtain ⟨xs, hxs⟩ : ∃ xs, xs = z.take len := ⟨_, rfl⟩
    rw [← hxs] at hs1 hs2 hs3
    have HS1 := Lib.hid hs1
    have HS2 := Lib.hid hs2
    have HS3 := Lib.hid hs3
    clear hs1 hs2 hs3 hxs
    go_wp2_with (at_builtin; refine wpList_app_src rfl (.const (.slice none 0 0)) (.tmp 30) 22 rfl (w2.heap.size + 1) 24 (.int .u64 0) 8 Try.underlying22 (by kernel_rfl) rfl (.slice none 0 0) 0 [] rfl (World.ownsRow_nil _ _ _ _) (.slice a len cap) (xs.map (Value.int .u64)) rfl ?c1 ?c2 ?c3 ?c4 ?c5 ?_)
    case c1 => exact src_alloc HS1.out _
    case c2 => intro u hu; obtain ⟨y, -, rfl⟩ := List.mem_map.1 hu; rfl
    case c3 => rw [List.length_map, HS2.out]; unfold maxLen; omega
    case c4 => rw [List.length_map, HS2.out]; omega
    case c5 => simp
    intro v3 w3 hown3 hg3
    have h3 := win_kept (win_alloc H2.out (.cells #[.slice none 0 0] 30)) hg3
    have hr3 : w3.heap[r]? = some (.cells #[.slice none 0 0] 30 (0, 0)) := by
      rw [← HRR.out, hg3.block _ (by simp) (by simp [Value.ownBlock])]; exact heap_alloc_new _ _
    have hg3' : w.grownBy w3 none := grown_trans (grown_alloc (grown_trans G1.out G2.out) _) hg3
    have hsz3 : w2.heap.size + 1 ≤ w3.heap.size := by simpa using hg3.size
    have HB' : Hid (b < r) := by rw [← HRR.out]; exact HBL2.out
    have HWB : Hid (w.heap.size ≤ b) := by rw [← HB.out]; exact G1.out.size
    obtain ⟨B, hB⟩ : ∃ B, B = w2.heap.size + 1 := ⟨_, rfl⟩
    rw [← hB] at hown3 hsz3
    have HRB : Hid (r < B) := by rw [hB, HRR.out]; exact Nat.lt_succ_self _
    have HWB2 : Hid (w.heap.size ≤ B) := by have := HWB.out; have := HB'.out; have := HRB.out; show w.heap.size ≤ B; omega
    rw [HRR.out]
    have H3 := Lib.hid h3
    have R3 := Lib.hid hr3
    have O3 := Lib.hid hown3
    have G3 := Lib.hid hg3'
    clear h3 hr3 hown3 hg3 hg3' hB
    go_wp2_with fail
    go_loopw [9, 10] (fun v i wr => ∃ (k : Nat) (ys : List Int), k ≤ len2 ∧ i = .int .i64 k ∧ Hid (ys.length = len + k) ∧ (∀ y ∈ ys, 0 ≤ y ∧ y < 18446744073709551616) ∧ wr.ownsRow B 24 1 v ys.length (ys.map (Value.int .u64)) ∧ WinAt wr b PW.new ∧ wr.heap[r]? = some (.cells #[.slice none 0 0] 30 (0, 0)) ∧ w.grownBy wr none ∧ B ≤ wr.heap.size) (fun _ i _ => len2 - (intOf i).toNat)
    case atStart =>
      exact ⟨0, xs, by omega, rfl, HS2.out, fun y hy => wf_u64_range (HS3.out y hy), O3.out, H3.out, R3.out, G3.out, hsz3⟩
    case round =>
      obtain ⟨k, ys, hk, rfl, hyl, hyb, how, hwb, hrr, hgr, hsz⟩ := hrel
      have HYB := Lib.hid hyb
      have HOW := Lib.hid how
      have HWin := Lib.hid hwb
      have HREF := Lib.hid hrr
      have HGR := Lib.hid hgr
      clear hyb how hwb hrr hgr
      by_cases hlt : k < len2
      · obtain ⟨x, y, ha, -, hyw, hcell⟩ := isRow_at HR2.out HGR.out k hlt
        obtain ⟨hy0, hy1⟩ := wf_u16_range hyw
        clear hyw
        subst ha
        go_wp2_with (at_builtin; refine wpList_app rfl (.tmp 38) (.tmp 48) 22 rfl B 24 (.int .u64 0) 8 Try.underlying22 (by kernel_rfl) rfl _ ys.length _ rfl (HOW.out.alloc _) ⟨wr.heap.size, 0, none⟩ 1 1 [.int .u64 (from_ / 256 + y % 5000)] rfl rfl ?c1 ?c2 ?c3 ?c4 ?c5 ?_)
        case c1 => intro j u hu; exact cell_one_new _ _ _ j u hu
        case c2 => simp [Value.oneCell']
        case c3 => rw [hyl.out]; unfold maxLen; omega
        case c4 => rw [hyl.out]; omega
        case c5 => simp; omega
        intro v5 w5 hown5 hg5
        have HOW5 := Lib.hid hown5
        have HG5 := Lib.hid hg5
        clear hown5 hg5
        go_wp2_with fail
        go_roundw
        case rel =>
          have hge := fun k hk => (World.ownsRow.lt HOW.out k hk).1
          refine ⟨k + 1, ys ++ [from_ / 256 + y % 5000], by omega, by go_num, by rw [List.length_append, hyl.out]; rfl, ?_, ?_, ?_, ?_, ?_, ?_⟩
          · intro q hq
            rcases List.mem_append.1 hq with e | e
            · exact HYB.out q e
            · simp at e; omega
          · rw [List.map_append, List.length_append]; exact HOW5.out
          · exact win_r (win_alloc HWin.out _) HG5.out (fun j hj => by have := hge j hj; have := HRB.out; have := HB'.out; omega)
          · rw [HG5.out.block r (by have := row_lt HREF.out; simp; omega) (by intro e; have := hge r e.symm; have := HRB.out; omega)]
            exact (heap_alloc_old wr _ (row_lt HREF.out)).trans HREF.out
          · exact grown_row (grown_alloc HGR.out _) HG5.out (fun j hj => by have := hge j hj; have := HWB2.out; omega)
          · exact Nat.le_trans (Nat.le_trans hsz (by simp)) HG5.out.size
        case measure => simp [intOf]; omega
      · have : k = len2 := by omega
        subst this
        obtain ⟨a5, c5, hu5⟩ := own_slice HOW.out
        have HOW6 := HOW.out
        rw [hu5] at HOW6
        have HOWN := Lib.hid HOW6
        clear HOW HOW6
        subst hu5
        obtain ⟨n, hn⟩ : ∃ n, ys.length = n := ⟨_, rfl⟩
        rw [hn] at HOWN ⊢
        have hn90 : (n : Int) ≤ 90 := by have := hyl.out; omega
        have HN := Lib.hid hn
        clear hn
        go_wp2_with fail
        obtain ⟨wo, rfl⟩ : ∃ wo : World, wo = wr := ⟨_, rfl⟩
        obtain ⟨N, hN⟩ : ∃ N, N = wo.heap.size := ⟨_, rfl⟩
        have HGN : Hid (∀ g, (Value.slice a5 n c5).ownBlock = some g → B ≤ g ∧ g < N) := fun g hg => by rw [hN]; exact World.ownsRow.lt HOWN.out g hg
        have HBN : Hid (B ≤ N) := by rw [hN]; exact hsz
        have HNN := Lib.hid hN
        clear hN hsz
        go_loopw [11] (fun v wr => ∃ (i : Nat) (s : PW) (L : List Int), i ≤ n ∧ v = .int .i64 i ∧ Inv s L.reverse ∧ (s.any = false → s.top = 0) ∧ WinAt wr b s ∧ RefAt wr N r L ∧ wr.ownsRow B 24 1 (.slice a5 n c5) n (ys.map (Value.int .u64)) ∧ w.grownBy wr none ∧ N ≤ wr.heap.size ∧ L.length ≤ i ∧ (∀ x ∈ L, 0 ≤ x ∧ x < 18446744073709551616)) (fun v _ => n - (intOf v).toNat)
        case atStart =>
          exact ⟨0, PW.new, [], by omega, rfl, inv_new, fun _ => rfl, HWin.out, ⟨_, HREF.out, World.ownsRow_nil _ _ _ _, by have := HRB.out; have := HBN.out; omega⟩, HOWN.out, HGR.out, by rw [HNN.out]; exact Nat.le_refl _, Nat.le_refl _, by simp⟩
        case round =>
          obtain ⟨i, s, L, hi, rfl, hinv, hs0, hwb, href, how, hgr, hsz, hLl, hLb⟩ := hrel
          have HI := Lib.hid hinv
          have HS0 := Lib.hid hs0
          have HWB4 := Lib.hid hwb
          have HRF := Lib.hid href
          have HOW4 := Lib.hid how
          have HGR4 := Lib.hid hgr
          have HLB := Lib.hid hLb
          clear hinv hs0 hwb href how hgr hLb
          by_cases hlt : i < n
          · have hil : i < ys.length := by rw [HN.out]; exact hlt
            obtain ⟨x, hx⟩ : ∃ x, ys[i]? = some x := ⟨_, List.getElem?_eq_getElem hil⟩
            obtain ⟨g, c2, hv, hc⟩ := own_at HOW4.out i (.int .u64 x) (by rw [List.getElem?_map, hx]; rfl)
            cases hv
            obtain ⟨x2, hx2⟩ : ∃ x2, ys[i / 2]? = some x2 := ⟨_, List.getElem?_eq_getElem (by omega)⟩
            obtain ⟨g', c', hv', hc2⟩ := own_at HOW4.out (i / 2) (.int .u64 x2) (by rw [List.getElem?_map, hx2]; rfl)
            cases hv'
            have hb1 := HYB.out x (List.mem_of_getElem? hx)
            have hb2 := HYB.out x2 (List.mem_of_getElem? hx2)
            have hb1a := hb1.1
            have hb1b := hb1.2
            have hb2a := hb2.1
            have hb2b := hb2.2
            clear hx hx2 hb1 hb2
            have hi0 : (0 : Int) ≤ i := by omega
            have hi2 : ((i : Int) / 2).toNat = i / 2 := by omega
            have hi3 : (i : Int) / 2 < n := by omega
            rcases Decidable.em ((i : Int) % 5 = 4) with h4 | h4
            · have h4' : ((i : Int) % 5 == 4) = true := by simpa using h4
              clear h4
              obtain ⟨L2, hl2, hi2', hs2', hll, hlm⟩ := step_ref HI.out HS0.out x2 hb2a
              obtain ⟨m, hmm⟩ : ∃ m, mayR L x2 = m := ⟨_, rfl⟩
              have hme : s.may x2 = m := by rw [may_ref HI.out HS0.out x2 hb2a, hmm]
              have htm := top_max hi2' hs2'
              have htl : s.top < 18446744073709551616 := by
                rw [(top_max HI.out HS0.out).1]
                exact foldl_max_lt _ L 0 (fun x hx => (HLB.out x hx).2) (by decide)
              have hb2' : ∀ x ∈ L2, 0 ≤ x ∧ x < 18446744073709551616 := fun y hy => by
                rcases hlm y hy with e | e
                · exact HLB.out y e
                · rw [e]; exact ⟨hb2a, hb2b⟩
              rw [hmm] at hl2
              have HMM := Lib.hid hmm
              have HME := Lib.hid hme
              have HL2 := Lib.hid hl2
              have HI2 := Lib.hid hi2'
              have HS2' := Lib.hid hs2'
              have HTM := Lib.hid htm
              have HTL := Lib.hid htl
              have HB2 := Lib.hid hb2'
              clear hmm hme hl2 hi2' hs2' htm htl hb2' hlm
              go_wp2_with fail
              refine (may_any b x2 s _ hb2a hb2b HI.out.top0 (HTL.out) HWB4.out).mono ?_
              rintro e w5 ⟨rfl, rfl⟩
              rw [HME.out]
              go_wp2_with fail
              refine (rmay_any N r L x2 _ HRF.out HLB.out (by omega) hb2a hb2b).mono ?_
              rw [HMM.out]
              rintro e w6 ⟨rfl, d6⟩
              have D6 := Lib.hid d6
              clear d6
              cases m with
              | _ =>
                go_wp2_with fail
                refine (take_any b x2 s _ hb2a hb2b HI.out.top0 (HTL.out) (win_drawn HWB4.out D6.out)).mono ?_
                rw [HME.out]
                rintro e w7 ⟨rfl, h7, g7⟩
                have H7 := Lib.hid h7
                have G7 := Lib.hid g7
                clear h7 g7
                go_wp2_with fail
                refine (rtake_any N r L x2 _ (ref_win (ref_drawn HRF.out D6.out) G7.out (fun j hj => by cases hj; exact HB'.out)) HLB.out (by omega) hb2a hb2b (Nat.le_trans (drawn_size D6.out hsz) G7.out.size)).mono ?_
                rw [HMM.out]
                rintro e w8 ⟨rfl, h8, g8⟩
                have h8' : RefAt w8 N r L2 := by
                  have e := HL2.out
                  simp only [if_true, if_false, Bool.false_eq_true, reduceIte] at e h8
                  rw [← e]; exact h8
                have H8 := Lib.hid h8'
                clear h8'
                have G8 := Lib.hid g8
                clear h8 g8
                go_wp2_with fail
                have hwin8 : WinAt w8 b (s.take x2) := by
                  have h := H7.out
                  unfold WinAt at *
                  rw [G8.out.block b (by have := HB'.out; have := HRB.out; have := HBN.out; omega) (Nat.ne_of_lt HB'.out)]
                  exact h
                have HW8 := Lib.hid hwin8
                clear hwin8
                refine (top_any b (s.take x2) _ HW8.out).mono ?_
                rw [HTM.out.1, HTM.out.2]
                rintro e w9 ⟨rfl, d9⟩
                have D9 := Lib.hid d9
                clear d9
                go_wp2_with fail
                refine (rtop_any N r L2 _ (ref_drawn H8.out D9.out) HB2.out (by omega)).mono ?_
                rintro e w10 ⟨rfl, d10⟩
                have D10 := Lib.hid d10
                clear d10
                go_wp2_with fail
                go_roundw
                case rel =>
                  refine ⟨i + 1, s.take x2, L2, by omega, by go_num, HI2.out, HS2'.out, win_drawn (win_drawn HW8.out D9.out) D10.out, ref_drawn (ref_drawn H8.out D9.out) D10.out, ?_, ?_, ?_, by omega, HB2.out⟩
                  · refine own_heap (own_keep (own_heap HOW4.out (fun g hg => drawn_heap D6.out g)) G7.out (fun j hj => by cases hj; have := HB'.out; have := HRB.out; omega)) (fun g' hg => ?_)
                    rw [drawn_heap D10.out, drawn_heap D9.out]
                    have := HGN.out g' hg
                    exact G8.out.block g' this.2 (by have := HRB.out; omega)
                  · exact grown_drawn (grown_drawn (G8.out.to_grown (grown_own (grown_drawn HGR4.out D6.out) HWB.out G7.out) (by have := HWB2.out; have := HBN.out; omega) (by have := HWB.out; have := HB'.out; omega)) D9.out) D10.out
                  · exact drawn_size D10.out (drawn_size D9.out (Nat.le_trans (Nat.le_trans (drawn_size D6.out hsz) G7.out.size) G8.out.size))
                case measure => simp [intOf]; omega
            · have h4' : ((i : Int) % 5 == 4) = false := by simpa using h4
              clear h4
              obtain ⟨L2, hl2, hi2', hs2', hll, hlm⟩ := step_ref HI.out HS0.out x hb1a
              obtain ⟨m, hmm⟩ : ∃ m, mayR L x = m := ⟨_, rfl⟩
              have hme : s.may x = m := by rw [may_ref HI.out HS0.out x hb1a, hmm]
              have htm := top_max hi2' hs2'
              have htl : s.top < 18446744073709551616 := by
                rw [(top_max HI.out HS0.out).1]
                exact foldl_max_lt _ L 0 (fun x hx => (HLB.out x hx).2) (by decide)
              have hb2' : ∀ x ∈ L2, 0 ≤ x ∧ x < 18446744073709551616 := fun y hy => by
                rcases hlm y hy with e | e
                · exact HLB.out y e
                · rw [e]; exact ⟨hb1a, hb1b⟩
              rw [hmm] at hl2
              have HMM := Lib.hid hmm
              have HME := Lib.hid hme
              have HL2 := Lib.hid hl2
              have HI2 := Lib.hid hi2'
              have HS2' := Lib.hid hs2'
              have HTM := Lib.hid htm
              have HTL := Lib.hid htl
              have HB2 := Lib.hid hb2'
              clear hmm hme hl2 hi2' hs2' htm htl hb2' hlm
              go_wp2_with fail
              refine (may_any b x s _ hb1a hb1b HI.out.top0 (HTL.out) HWB4.out).mono ?_
              rintro e w5 ⟨rfl, rfl⟩
              rw [HME.out]
              go_wp2_with fail
              refine (rmay_any N r L x _ HRF.out HLB.out (by omega) hb1a hb1b).mono ?_
              rw [HMM.out]
              rintro e w6 ⟨rfl, d6⟩
              have D6 := Lib.hid d6
              clear d6
              cases m with
              | _ =>
                go_wp2_with fail
                refine (take_any b x s _ hb1a hb1b HI.out.top0 (HTL.out) (win_drawn HWB4.out D6.out)).mono ?_
                rw [HME.out]
                rintro e w7 ⟨rfl, h7, g7⟩
                have H7 := Lib.hid h7
                have G7 := Lib.hid g7
                clear h7 g7
                go_wp2_with fail
                refine (rtake_any N r L x _ (ref_win (ref_drawn HRF.out D6.out) G7.out (fun j hj => by cases hj; exact HB'.out)) HLB.out (by omega) hb1a hb1b (Nat.le_trans (drawn_size D6.out hsz) G7.out.size)).mono ?_
                rw [HMM.out]
                rintro e w8 ⟨rfl, h8, g8⟩
                have h8' : RefAt w8 N r L2 := by
                  have e := HL2.out
                  simp only [if_true, if_false, Bool.false_eq_true, reduceIte] at e h8
                  rw [← e]; exact h8
                have H8 := Lib.hid h8'
                clear h8'
                have G8 := Lib.hid g8
                clear h8 g8
                go_wp2_with fail
                have hwin8 : WinAt w8 b (s.take x) := by
                  have h := H7.out
                  unfold WinAt at *
                  rw [G8.out.block b (by have := HB'.out; have := HRB.out; have := HBN.out; omega) (Nat.ne_of_lt HB'.out)]
                  exact h
                have HW8 := Lib.hid hwin8
                clear hwin8
                refine (top_any b (s.take x) _ HW8.out).mono ?_
                rw [HTM.out.1, HTM.out.2]
                rintro e w9 ⟨rfl, d9⟩
                have D9 := Lib.hid d9
                clear d9
                go_wp2_with fail
                refine (rtop_any N r L2 _ (ref_drawn H8.out D9.out) HB2.out (by omega)).mono ?_
                rintro e w10 ⟨rfl, d10⟩
                have D10 := Lib.hid d10
                clear d10
                go_wp2_with fail
                go_roundw
                case rel =>
                  refine ⟨i + 1, s.take x, L2, by omega, by go_num, HI2.out, HS2'.out, win_drawn (win_drawn HW8.out D9.out) D10.out, ref_drawn (ref_drawn H8.out D9.out) D10.out, ?_, ?_, ?_, by omega, HB2.out⟩
                  · refine own_heap (own_keep (own_heap HOW4.out (fun g hg => drawn_heap D6.out g)) G7.out (fun j hj => by cases hj; have := HB'.out; have := HRB.out; omega)) (fun g' hg => ?_)
                    rw [drawn_heap D10.out, drawn_heap D9.out]
                    have := HGN.out g' hg
                    exact G8.out.block g' this.2 (by have := HRB.out; omega)
                  · exact grown_drawn (grown_drawn (G8.out.to_grown (grown_own (grown_drawn HGR4.out D6.out) HWB.out G7.out) (by have := HWB2.out; have := HBN.out; omega) (by have := HWB.out; have := HB'.out; omega)) D9.out) D10.out
                  · exact drawn_size D10.out (drawn_size D9.out (Nat.le_trans (Nat.le_trans (drawn_size D6.out hsz) G7.out.size) G8.out.size))
                case measure => simp [intOf]; omega
          · have : i = n := by omega
            subst this
            go_wp2_with fail
            go_ret
            exact ⟨rfl, HGR4.out⟩
  · have : (30 : Int) < len ∨ ((len : Int) ≤ 30 ∧ (60 : Int) < len2) := by omega
    clear hl
    rcases this with hx | ⟨hx, hy⟩
    all_goals
      go_wp2_with fail
      go_ret
      exact ⟨rfl, G1.out⟩
end Go.Proofs.Ytebabmpmhihijaa
