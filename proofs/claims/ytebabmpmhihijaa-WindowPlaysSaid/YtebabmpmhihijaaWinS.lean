/- WindowSlides: as numbers go on those far below are forgotten, and none is taken twice. -/
import Derived.Test.YtebabmpmhihijaaWinA
namespace Go.Proofs.Ytebabmpmhihijaa
set_option linter.unusedVariables false
set_option linter.unusedSimpArgs false
open Go.RowKit Go.Proofs.YtebabmpmhihijaaL

/-- Numbers that rise, the last one n, none above 3000 each. -/
structure Rises (ns : List Int) (n : Int) : Prop where
  up : ns.Pairwise (· < ·)
  pos : ∀ m ∈ ns, 1 ≤ m ∧ m ≤ n
  top : n ≤ 3000 * ns.length
  nn : 0 ≤ n

theorem rises_add {ns : List Int} {n d : Int} (h : Rises ns n) (h0 : 0 ≤ d) (h1 : d < 3000) : Rises (ns ++ [n + (d + 1)]) (n + (d + 1)) := by
  refine ⟨?_, ?_, ?_, by have := h.nn; omega⟩
  · rw [List.pairwise_append]
    exact ⟨h.up, by simp, fun a ha b hb => by have := h.pos a ha; simp at hb; omega⟩
  · intro m hm
    rcases List.mem_append.1 hm with e | e
    · have := h.pos m e; omega
    · simp at e; have := h.nn; omega
  · simp only [List.length_append, List.length_cons, List.length_nil]
    have := h.top
    push_cast; omega

theorem take_up {s : PW} {ns : List Int} {n m : Int} (hi : Inv s ns.reverse) (hr : Rises ns n) (ht : s.any = true → s.top = n) (hm : n < m) :
    s.may m = true ∧ Inv (s.take m) (ns ++ [m]).reverse ∧ (s.take m).top = m := by
  have h1 : s.may m = true := by
    rw [may_eq s hi.ok]
    cases ha : s.any with
    | false => rfl
    | true => rw [if_pos rfl, ht ha, if_pos hm]
  obtain ⟨i2, t2⟩ := take_inv hi m (by have := hr.nn; omega) h1
  refine ⟨h1, by rw [List.reverse_append]; exact i2, ?_⟩
  rw [t2, topL, if_neg]
  rintro ⟨ha, hle⟩
  rw [ht ha] at hle; omega

theorem slide_facts {s : PW} {ns : List Int} {n : Int} (hi : Inv s ns.reverse) (hr : Rises ns n) (ht : s.any = true → s.top = n) (i : Nat) (x : Int) (hx : ns[i]? = some x) :
    s.may x = false ∧ s.may (x - 1) = (decide (n - (x - 1) < 2048) && !(decide (0 < i) && decide (ns[i - 1]? = some (x - 1)))) := by
  have hmem : x ∈ ns := List.mem_of_getElem? hx
  have hp := hr.pos x hmem
  have ha : s.any = true := by
    rw [hi.any]
    cases hn : ns.reverse with
    | nil => rw [List.reverse_eq_nil_iff.1 hn] at hmem; simp at hmem
    | cons => rfl
  have htop := ht ha
  have hne : ns.reverse.isEmpty = false := by have := hi.any; rw [ha] at this; simpa using this.symm
  refine ⟨?_, ?_⟩
  · rw [may_inv hi x (by omega), mayL, hne, htop]
    have e : ¬ n < x := by omega
    simp [e, hmem]
  · rw [may_inv hi (x - 1) (by omega), mayL, hne, htop]
    have e : ¬ n < x - 1 := by omega
    simp only [e, decide_false, Bool.false_or]
    congr 2
    rw [Bool.eq_iff_iff, List.contains_iff_mem, List.mem_reverse, Bool.and_eq_true, decide_eq_true_iff, decide_eq_true_iff]
    obtain ⟨hil, hix⟩ := List.getElem?_eq_some_iff.1 hx
    have hup := List.pairwise_iff_getElem.1 hr.up
    constructor
    · intro hm
      obtain ⟨j, hj, hjx⟩ := List.getElem_of_mem hm
      have hji : j < i := by
        rcases Nat.lt_trichotomy j i with h | h | h
        · exact h
        · subst h; omega
        · have := hup i j hil hj h; omega
      have hj1 : j = i - 1 := by
        rcases Nat.lt_or_ge j (i - 1) with h | h
        · have := hup j (i - 1) hj (by omega) h
          have := hup (i - 1) i (by omega) hil (by omega)
          omega
        · omega
      subst hj1
      exact ⟨by omega, by rw [List.getElem?_eq_getElem hj, hjx]⟩
    · rintro ⟨-, h⟩
      exact List.mem_of_getElem? h

theorem win_r {w w' : World} {b : Nat} {s : PW} {r : Option Nat} (h : WinAt w b s) (g : w.grownBy w' r) (hr : ∀ k, r = some k → b < k) : WinAt w' b s := by
  unfold WinAt at *
  rw [g.block b (row_lt h) (by intro e; have := hr b e.symm; omega)]; exact h
theorem win_alloc {w : World} {b : Nat} {s : PW} (h : WinAt w b s) (o : Obj) : WinAt (w.alloc o) b s := win_kept h (World.grownBy_alloc _ _ _)

set_option maxHeartbeats 1000000 in
theorem slides_walk (a : Option Addr) (len cap : Nat) (z : List Int) (w : World) (hr : IsRow .u16 w a len cap z) :
    Calls Try.prog 5 #[.slice a len cap] w fun e w' => e = .returned (.bool true) ∧ w.grownBy w' none := by
  have HR := Lib.hid hr
  clear hr
  go_enter Try.func5, Try.ntmps5
  go_wp2_with fail
  refine (known_any _).mono ?_
  rintro e w1 ⟨rfl, g1⟩
  have G1 := Lib.hid g1
  clear g1
  by_cases hl : (len : Int) ≤ 40
  · go_wp2_with fail
    refine (new_any _).mono ?_
    rintro e w2 ⟨rfl, h2, g2, l2⟩
    clear l2
    obtain ⟨b, hb⟩ : ∃ b, w1.heap.size = b := ⟨_, rfl⟩
    have HB := Lib.hid hb
    rw [hb] at h2 ⊢
    clear hb
    have H2 := Lib.hid h2
    have G2 := Lib.hid g2
    clear h2 g2
    go_wp2_with fail
    have HLB : Hid (w.heap.size ≤ b) := by rw [← HB.out]; exact G1.out.size
    obtain ⟨B, hB⟩ : ∃ B, B = w2.heap.size := ⟨_, rfl⟩
    have HBB : Hid (b < B) := by rw [hB]; exact row_lt H2.out
    have HWB : Hid (w.heap.size ≤ B) := by rw [hB]; exact Nat.le_trans G1.out.size G2.out.size
    have HB2 := Lib.hid hB
    clear hB
    go_loopw [4, 5, 6] (fun nv v i wr => ∃ (k : Nat) (ns : List Int) (s : PW) (m : Int), k ≤ len ∧ i = .int .i64 k ∧ nv = .int .u64 m ∧ Hid (ns.length = k) ∧ Rises ns m ∧ Inv s ns.reverse ∧ Hid (s.top = m) ∧ WinAt wr b s ∧ wr.ownsRow B 24 1 v k (ns.map (Value.int .u64)) ∧ w.grownBy wr none ∧ B ≤ wr.heap.size) (fun _ _ i _ => len - (intOf i).toNat)
    case atStart =>
      exact ⟨0, [], PW.new, 0, by omega, rfl, rfl, rfl, ⟨List.Pairwise.nil, by simp, by simp, by omega⟩, inv_new, rfl, H2.out, World.ownsRow_nil _ _ _ _, grown_trans G1.out G2.out, by rw [HB2.out]; exact Nat.le_refl _⟩
    case round =>
      obtain ⟨k, ns, s, m, hk, rfl, rfl, hnl, hri, hi, ht, hwb, how, hgr, hsz⟩ := hrel
      have HI := Lib.hid hi
      have HRI := Lib.hid hri
      have HWin := Lib.hid hwb
      have HOW := Lib.hid how
      have HGR := Lib.hid hgr
      clear hi hwb how hgr
      have hm0 := hri.nn
      have hm1 := hri.top
      rw [hnl.out] at hm1
      clear hri
      by_cases hlt : k < len
      · obtain ⟨x, y, ha, -, hyw, hcell⟩ := isRow_at HR.out HGR.out k hlt
        obtain ⟨hy0, hy1⟩ := wf_u16_range hyw
        clear hyw
        subst ha
        obtain ⟨f1, f2, f3⟩ := take_up HI.out HRI.out (fun _ => ht.out) (show m < m + (y % 3000 + 1) by omega)
        have hr2 := rises_add HRI.out (show 0 ≤ y % 3000 by omega) (by omega)
        have F2 := Lib.hid f2
        have F3 := Lib.hid f3
        have HR2 := Lib.hid hr2
        clear f2 f3 hr2
        go_wp2_with fail
        obtain ⟨n, hn⟩ : ∃ n, m + (y % 3000 + 1) = n := ⟨_, rfl⟩
        have hn0 : 0 ≤ n := by omega
        have hn1 : n < 18446744073709551616 := by omega
        have HN := Lib.hid hn
        rw [hn] at f1 ⊢
        clear hn
        refine (take_any b n s _ hn0 hn1 (by rw [ht.out]; exact hm0) (by rw [ht.out]; omega) HWin.out).mono ?_
        rw [f1]
        rintro e w4 ⟨rfl, h4, g4⟩
        have H4 := Lib.hid h4
        have G4 := Lib.hid g4
        have HOW4 := Lib.hid (own_keep HOW.out g4 (fun k hk => by cases hk; exact HBB.out))
        have hsz4 : B ≤ w4.heap.size := Nat.le_trans hsz g4.size
        clear h4 g4
        go_wp2_with (at_builtin; go_loud (refine wpList_app rfl (.tmp 35) (.tmp 37) 22 rfl B 24 (.int .u64 0) 8 Try.underlying22 (by kernel_rfl) rfl _ k _ rfl (HOW4.out.alloc _) ⟨w4.heap.size, 0, none⟩ 1 1 [.int .u64 n] rfl rfl ?c1 ?c2 ?c3 ?c4 ?c5 ?_))
        case c1 => intro j u hu; exact cell_one_new _ _ _ j u hu
        case c2 => simp [Value.oneCell']
        case c3 => unfold maxLen; omega
        case c4 => omega
        case c5 => simp; omega
        intro v5 w5 hown5 hg5
        have HOW5 := Lib.hid hown5
        have HG5 := Lib.hid hg5
        clear hown5 hg5
        go_wp2_with fail
        go_roundw
        case rel =>
          have hge := fun k hk => (World.ownsRow.lt HOW.out k hk).1
          refine ⟨k + 1, ns ++ [n], s.take n, n, by omega, by go_num, rfl, by rw [List.length_append, hnl.out]; rfl, by rw [← HN.out]; exact HR2.out, by rw [← HN.out]; exact F2.out, by rw [← HN.out]; exact F3.out, ?_, ?_, ?_, ?_⟩
          · exact win_r (win_alloc H4.out _) HG5.out (fun j hj => Nat.lt_of_lt_of_le HBB.out (hge j hj))
          · rw [List.map_append]; exact HOW5.out
          · exact grown_row (grown_alloc (grown_own HGR.out HLB.out G4.out) _) HG5.out (fun j hj => Nat.le_trans HWB.out (hge j hj))
          · exact Nat.le_trans (Nat.le_trans hsz4 (by simp)) HG5.out.size
        case measure => simp [intOf]; omega
      · have : k = len := by omega
        subst this
        go_wp2_with fail
        obtain ⟨wo, rfl⟩ : ∃ wo : World, wo = wr := ⟨_, rfl⟩
        obtain ⟨a5, c5, hu5⟩ := own_slice HOW.out
        have HOW5 := HOW.out
        rw [hu5] at HOW5
        have HOW6 := Lib.hid HOW5
        clear HOW HOW5
        subst hu5
        go_loopw [7] (fun v w' => ∃ i : Nat, i ≤ k ∧ v = .int .i64 i ∧ WinAt w' b s ∧ wo.grownBy w' (some b)) (fun v _ => k - (intOf v).toNat)
        case atStart => exact ⟨0, by omega, rfl, HWin.out, grown_refl _ _⟩
        case round =>
          obtain ⟨i, hik, rfl, hw2, hg2⟩ := hrel
          have HW2 := Lib.hid hw2
          have HG2 := Lib.hid hg2
          clear hw2 hg2
          by_cases hik2 : i < k
          · have hil : i < ns.length := by rw [hnl.out]; exact hik2
            obtain ⟨x, hx⟩ : ∃ x, ns[i]? = some x := ⟨_, List.getElem?_eq_getElem hil⟩
            obtain ⟨g, c2, hv, hc⟩ := own_at (own_keep HOW6.out HG2.out (fun j hj => by cases hj; exact HBB.out)) i (.int .u64 x) (by rw [List.getElem?_map, hx]; rfl)
            cases hv
            have HOW' := HOW6.out
            obtain ⟨f1, f2⟩ := slide_facts HI.out HRI.out (fun _ => ht.out) i x hx
            have hxr := HRI.out.pos x (List.mem_of_getElem? hx)
            have hx1 := hxr.1
            have hx2 := hxr.2
            have hno := take_no s x f1
            have HNO := Lib.hid hno
            clear hxr hno
            rcases Nat.eq_zero_or_pos i with hi0 | hi0
            · subst hi0
              simp only [Nat.lt_irrefl, decide_false, Bool.false_and, Bool.not_false, Bool.and_true] at f2
              clear hx HOW'
              go_wp2_with fail
              refine (take_any b x s _ (by omega) (by omega) (by rw [ht.out]; exact hm0) (by rw [ht.out]; omega) HW2.out).mono ?_
              rw [f1]
              rintro e w6 ⟨rfl, h6, g6⟩
              rw [HNO.out] at h6
              have H6 := Lib.hid h6
              have G6 := Lib.hid g6
              clear h6 g6
              go_wp2_with fail
              refine (may_any b (x - 1) s _ (by omega) (by omega) (by rw [ht.out]; exact hm0) (by rw [ht.out]; omega) H6.out).mono ?_
              rw [f2]
              rintro e w7 ⟨rfl, rfl⟩
              go_wp2_with fail
              all_goals
                go_roundw
                case rel => exact ⟨1, by omega, by go_num, H6.out, grown_trans HG2.out G6.out⟩
                case measure => simp [intOf]; omega
            · obtain ⟨y, hy⟩ : ∃ y, ns[i - 1]? = some y := ⟨_, List.getElem?_eq_getElem (by omega)⟩
              obtain ⟨g', c', hv', hc'⟩ := own_at (own_keep HOW' HG2.out (fun j hj => by cases hj; exact HBB.out)) (i - 1) (.int .u64 y) (by rw [List.getElem?_map, hy]; rfl)
              cases hv'
              have hpos : (0 : Int) < (i : Int) := by omega
              have hidx : ((i : Int) - 1).toNat = i - 1 := by omega
              rw [hy] at f2
              clear hx hy HOW' hidx
              have f3 : (y == x - 1) = true ∧ s.may (x - 1) = false ∨ (y == x - 1) = false ∧ s.may (x - 1) = decide (m - (x - 1) < 2048) := by
                by_cases e : y = x - 1
                · left; rw [f2]; simp [e, hi0]
                · right; rw [f2]; simp [e]
              clear f2
              rcases f3 with ⟨f3, f2⟩ | ⟨f3, f2⟩
              all_goals
                go_wp2_with fail
                refine (take_any b x s _ (by omega) (by omega) (by rw [ht.out]; exact hm0) (by rw [ht.out]; omega) HW2.out).mono ?_
                rw [f1]
                rintro e w6 ⟨rfl, h6, g6⟩
                rw [HNO.out] at h6
                have H6 := Lib.hid h6
                have G6 := Lib.hid g6
                clear h6 g6
                go_wp2_with fail
                refine (may_any b (x - 1) s _ (by omega) (by omega) (by rw [ht.out]; exact hm0) (by rw [ht.out]; omega) H6.out).mono ?_
                rw [f2]
                rintro e w7 ⟨rfl, rfl⟩
                go_wp2_with fail
                all_goals
                  go_roundw
                  case rel => exact ⟨i + 1, by omega, by go_num, H6.out, grown_trans HG2.out G6.out⟩
                  case measure => simp [intOf]; omega
          · have : i = k := by omega
            subst this
            go_wp2_with fail
            go_ret
            exact ⟨rfl, grown_own HGR.out HLB.out HG2.out⟩
  · go_wp2_with fail
    go_ret
    exact ⟨rfl, G1.out⟩
end Go.Proofs.Ytebabmpmhihijaa
