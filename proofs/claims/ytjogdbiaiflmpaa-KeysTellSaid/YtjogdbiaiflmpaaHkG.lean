/- The law's known keys, walked. -/
import Derived.Test.YtjogdbiaiflmpaaHkF
import Derived.Test.YtjogdbiaiflmpaaHkE
import Derived.Test.YtjogdbiaiflmpaaHkN
import Derived.Test.YtjogdbiaiflmpaaBund
namespace Go.Proofs.Ytjogdbiaiflmpaa
set_option linter.unusedVariables false
set_option linter.unusedSimpArgs false
open Go.RowKit Go.Proofs.YtjogdbiaiflmpaaL

theorem mblock_ok {w : World} {g n : Nat} {xs : List Int} {T : TypeId} {fr : Nat × Nat} (h : w.heap[g]? = some (.cells (encK .u8 xs) T fr)) (hl : xs.length = n) (ho : okB 256 xs) (hn : n ≤ 3000) : (⟨some ⟨g, 0, none⟩, n, n, xs⟩ : Bs).ok w :=
  ⟨⟨hl, fun i hi => ⟨⟨g, 0, none⟩, rfl, by
    have hi' : i < xs.length := by rw [hl]; exact hi
    rw [Addr.add_mid, Nat.zero_add]
    simp [World.cell?, h, encK, hi']⟩⟩, ho, (fun h => by cases h), hn⟩
theorem still_row {P : Program} {o : Oper} {a : Act} {w w0 : World} {L : List It} (HK : Own w0 w L) (ty : TypeId) (x : Operand) (hop : o.op = .load ty x) (p : Nat) (hx : a.eval x = .pointer (some ⟨p, 0, none⟩))
    (k : IntKind) (T : TypeId) (n : Nat) (s : List Int) (hm : Has (.ints p k T n s) L) (d : TypeDesc) (hu : P.underlying ty = some d) (hd : (match d with | .struct _ | .array _ _ => true | _ => false) = true) (hi : (P.info? ty).map (·.size) = some n) :
    ∀ w', w.grownBy w' none → (execOp a.eval o).run P w' = .ok (.value (.agg (encK k s))) w' := fun w' hG => by
  have hg' : w'.heap[p]? = some (.cells (encK k s) T (0, 0)) := (hG.block _ (row_lt (HK.row hm)) (by simp)).trans (HK.row hm)
  unfold execOp
  simp only [hop, hx, Instr.loadAt, Instr.sureAddr, Sem.run_bind, Sem.run_pure, Result.andThen_ok, run_loadVar_row w' p T ty _ (0, 0) d hg' hu hd (by rw [size_encK, HK.len hm]; exact hi)]
theorem ok_small {b : Int} (h0 : 0 ≤ b) (h1 : b < 256) : okB 256 [b] := fun x hx => by rw [List.mem_singleton] at hx; rw [hx]; exact ⟨h0, h1⟩

def B1 : List Be := [⟨0, 22, .still⟩, ⟨1, 23, .make 1 #[Value.int .u8 107] 5⟩, ⟨2, 24, .mark 1⟩, ⟨3, 25, .make 1 #[Value.int .u8 97] 5⟩, ⟨4, 26, .mark 3⟩, ⟨5, 27, .make 1 #[Value.int .u8 98] 5⟩, ⟨6, 28, .mark 5⟩, ⟨7, 29, .row 2 [4, 6] 22⟩, ⟨8, 30, .call 12 [2, 7]⟩]
def B2 : List Be := [⟨11, 33, .still⟩, ⟨12, 34, .still⟩]
def B3 : List Be := [⟨28, 50, .make 1 #[Value.int .u8 120] 5⟩, ⟨29, 51, .mark 28⟩, ⟨30, 52, .make 1 #[Value.int .u8 120] 5⟩, ⟨31, 53, .mark 30⟩]
def B4 : List Be := [⟨35, 57, .make 1 #[Value.int .u8 120] 5⟩, ⟨36, 58, .mark 35⟩, ⟨37, 59, .make 1 #[Value.int .u8 121] 5⟩, ⟨38, 60, .mark 37⟩]

theorem wpList_neq {P : Program} {ops : Array Oper} {rest : List Oper} {o : Oper} {a : Act} {w : World} {Q : Exit → Act → World → Prop} (hw : Region.wanted o (yielded ops a.tmps) = true) (t : TypeId) (x y : Operand) (t' : TypeId) (hop : o.op = .binOp .neq t x y t')
    (n : Nat) (e : TypeId) (k : IntKind) (hu : P.underlying t = some (.array n e)) (he : P.underlying e = some (.int k)) (hs : (P.info? e).map (·.size) = some 1) (hg : P.eqGuardType P.depth t = false)
    (xs ys : List Int) (hx : a.eval x = .agg (encK k xs)) (hy : a.eval y = .agg (encK k ys)) (hlx : xs.length = n) (hly : ys.length = n) (b : Bool) (hb : (xs == ys) = !b)
    (h : wpList P ops Q rest (a.put o.dst (.bool b)) w) : wpList P ops Q (o :: rest) a w :=
  wpList_when hw fun _ hK => by
    unfold Oper.wp execOp
    simp only [hop, hx, hy, Sem.run_bind, Sem.run_pure, run_eqGuard_agg w _ t x y _ _ hg, Result.andThen_ok, run_neq_ints hu he hs xs ys hlx hly, hb, Bool.not_not]
    exact hK _ _ h
theorem inb_fact {P : Program} {B D : List Be} {w w1 : World} {vs f : Nat → Value} (hn : (numsB B).Nodup) (hI : InB P B w vs D f w1) {x : Be} (hx : x ∈ B) (h : x.i ∈ numsB D) : factB w.heap.size vs f w1 x ∧ ∀ s ∈ srcB x.kind, s ∈ numsB D := by
  obtain ⟨y, hy, e⟩ := List.mem_map.1 h
  have : y = x := inj_of_nodup hn (hI.sub y hy) hx e
  subst this
  exact ⟨hI.fact y hy, hI.src y hy⟩
/-- A literal of a bundle: its row and its mark. -/
theorem inb_lit {P : Program} {B D : List Be} {w w1 : World} {vs f : Nat → Value} (hn : (numsB B).Nodup) (hI : InB P B w vs D f w1) {i j : Nat} {d d' : Tmp} {k : Nat} {C : Array Value} {e : TypeId} (hx : (⟨i, d, .make k C e⟩ : Be) ∈ B) (hy : (⟨j, d', .mark i⟩ : Be) ∈ B) (h : j ∈ numsB D) :
    ∃ s fr, f j = .slice (some ⟨s, 0, none⟩) k k ∧ w1.heap[s]? = some (.cells C e fr) := by
  obtain ⟨h1, h2⟩ := inb_fact hn hI hy h
  obtain ⟨⟨s, fr, h3, -, h4⟩, -⟩ := inb_fact hn hI hx (h2 i (by simp [srcB]))
  exact ⟨s, fr, (show f j = f i from h1).trans h3, h4⟩
theorem nums1 : (numsB B1).Nodup := nodupB_spec (by rfl)
theorem kmac {w1 : World} {a b c r : Nat} {fa fb fc fr : Nat × Nat} (ha : w1.heap[a]? = some (.cells #[Value.int .u8 107] 5 fa)) (hb : w1.heap[b]? = some (.cells #[Value.int .u8 97] 5 fb)) (hc : w1.heap[c]? = some (.cells #[Value.int .u8 98] 5 fc))
    (hr : w1.heap[r]? = some (.cells #[Value.slice (some ⟨b, 0, none⟩) 1 1, Value.slice (some ⟨c, 0, none⟩) 1 1] 22 fr)) :
    Calls Try.prog 12 #[.slice (some ⟨a, 0, none⟩) 1 1, .slice (some ⟨r, 0, none⟩) 2 2] w1 fun e w' => e = .returned (.agg (encK .u8 koutO)) ∧ w1.grownBy w' none := by
  refine (mac_any ⟨some ⟨a, 0, none⟩, 1, 1, [107]⟩ (some ⟨r, 0, none⟩) 2 2 [⟨some ⟨b, 0, none⟩, 1, 1, [97]⟩, ⟨some ⟨c, 0, none⟩, 1, 1, [98]⟩] w1 (mblock_ok ha rfl (ok_small (by decide) (by decide)) (by decide)) rfl (fun i q hq => ⟨_, rfl, ?_⟩) (fun q hq => ?_) (fun h => by cases h) (by decide)).mono ?_
  · rw [Addr.add_mid, Nat.zero_add]
    match i, hq with
    | 0, hq => obtain rfl := Option.some.inj hq; simp [World.cell?, hr, Bs.val]
    | 1, hq => obtain rfl := Option.some.inj hq; simp [World.cell?, hr, Bs.val]
    | n + 2, hq => simp at hq
  · simp only [List.mem_cons, List.not_mem_nil, or_false] at hq
    rcases hq with rfl | rfl
    · exact mblock_ok hb rfl (ok_small (by decide) (by decide)) (by decide)
    · exact mblock_ok hc rfl (ok_small (by decide) (by decide)) (by decide)
  · rintro e w' ⟨rfl, hg⟩
    exact ⟨by rw [show hmac (⟨some ⟨a, 0, none⟩, 1, 1, [107]⟩ : Bs).xs (catB [(⟨some ⟨b, 0, none⟩, 1, 1, [97]⟩ : Bs), (⟨some ⟨c, 0, none⟩, 1, 1, [98]⟩ : Bs)]) = koutO from kab], hg⟩

set_option maxHeartbeats 8000000 in
set_option maxRecDepth 100000 in
theorem known_any (w : World) : Calls Try.prog 8 #[] w fun e w' => e = .returned (.bool true) ∧ w.grownBy w' none := by
  have kc := fun (w : World) (C : Array Value) (n c : Nat) => Lib.run_convert_bytes_const (P := Try.prog) w 22 5 C n c Try.underlying22 Try.underlying5
  have HK := Lib.hid (own_start w)
  go_enter Try.func8, Try.ntmps8
  go_wp2_with (refine wpList_stop 8 rfl ?_)
  obtain ⟨s1, hs1⟩ : ∃ s1, w.heap.size = s1 := ⟨_, rfl⟩
  have hkb := HK.out.blk (.cells #[Value.int .u8 107] 5 (1, 2)) hs1
  rw [hs1]
  rintro wa hwa
  have hkc : Own w wa [.blk s1 (.cells #[Value.int .u8 107] 5 (1, 2))] := by rw [hwa]; exact hkb
  clear hwa hkb hs1
  clear HK
  have HK := Lib.hid hkc
  clear hkc
  go_wp2_with (refine wpList_stop 10 rfl ?_)
  obtain ⟨s2, hs2⟩ : ∃ s2, wa.heap.size = s2 := ⟨_, rfl⟩
  have hkb := HK.out.blk (.cells #[Value.int .u8 97, Value.int .u8 98] 5 (2, 3)) hs2
  rw [hs2]
  rintro wb hwb
  have hkc : Own w wb [.blk s2 (.cells #[Value.int .u8 97, Value.int .u8 98] 5 (2, 3)), .blk s1 (.cells #[Value.int .u8 107] 5 (1, 2))] := by rw [hwb]; exact hkb
  clear hwb hkb hs2
  clear HK
  have HK := Lib.hid hkc
  clear hkc
  go_wp2_with fail
  obtain ⟨sb, hsb⟩ : ∃ sb, wb.heap.size = sb := ⟨_, rfl⟩
  have hkb := HK.out.blk (.cells #[Value.slice (some ⟨s2, 0, none⟩) 2 2] 22 (0, 0)) hsb
  rw [hsb]
  clear hsb
  generalize wb.alloc (.cells #[Value.slice (some ⟨s2, 0, none⟩) 2 2] 22 (0, 0)) = wn at hkb ⊢
  clear HK
  have HK := Lib.hid hkb
  clear hkb
  refine (mac_any ⟨some ⟨s1, 0, none⟩, 1, 1, [107]⟩ _ 1 1 [⟨some ⟨s2, 0, none⟩, 2, 2, [97, 98]⟩] _ (mblock_ok (HK.out.at (.next _ (.next _ (.here _)))) rfl (ok_small (by decide) (by decide)) (by decide)) rfl (parts_cell (HK.out.at (.here _))) (one_ok (mblock_ok (HK.out.at (.next _ (.here _))) rfl (by unfold okB; decide) (by decide))) (fun h => by cases h) (by decide)).mono ?_
  rintro e wm ⟨rfl, hg⟩
  rw [show hmac (⟨some ⟨s1, 0, none⟩, 1, 1, [107]⟩ : Bs).xs (catB [(⟨some ⟨s2, 0, none⟩, 2, 2, [97, 98]⟩ : Bs)]) = koutO from kab]
  have hkb := (HK.out.sub (List.nil_sublist _)).grow hg
  clear hg
  clear HK
  have HK := Lib.hid hkb
  clear hkb
  obtain ⟨S, hS⟩ : ∃ S, S = koutO := ⟨_, rfl⟩
  rw [← hS]
  have HS := Lib.hid hS
  clear hS kc
  have HSL := Lib.hid (show S.length = 32 by rw [HS.out]; rfl)
  have HSO := Lib.hid (show okB 256 S by rw [HS.out]; unfold okB koutO; decide)
  go_wp2_with ((refine wpList_new_ints rfl HK.out _ rfl .u8 26 32 (zer 32) (length_zer _) (fun w => by go_simp; first | exact ⟨rfl, rfl⟩ | kernel_rfl) ?_))
  intro wn pa hkn
  have HKN := Lib.hid hkn
  clear hkn HK
  have HK := HKN
  clear HKN
  go_wp2_with (first | (refine wpList_put_row rfl HK.out 26 _ _ rfl _ _ S rfl rfl _ _ _ (by first | exact Upd.here _ | exact Upd.next _ (Upd.here _) | exact Upd.next _ (Upd.next _ (Upd.here _)) | exact Upd.next _ (Upd.next _ (Upd.next _ (Upd.here _))) | exact Upd.next _ (Upd.next _ (Upd.next _ (Upd.next _ (Upd.here _)))) | exact Upd.next _ (Upd.next _ (Upd.next _ (Upd.next _ (Upd.next _ (Upd.here _))))) | exact Upd.next _ (Upd.next _ (Upd.next _ (Upd.next _ (Upd.next _ (Upd.next _ (Upd.here _)))))) | exact Upd.next _ (Upd.next _ (Upd.next _ (Upd.next _ (Upd.next _ (Upd.next _ (Upd.next _ (Upd.here _))))))) | exact Upd.next _ (Upd.next _ (Upd.next _ (Upd.next _ (Upd.next _ (Upd.next _ (Upd.next _ (Upd.next _ (Upd.here _)))))))) | exact Upd.next _ (Upd.next _ (Upd.next _ (Upd.next _ (Upd.next _ (Upd.next _ (Upd.next _ (Upd.next _ (Upd.next _ (Upd.here _)))))))))) (by exact HSL.out) (by kernel_rfl) ?_; (intro wn hkn; have HKN := Lib.hid hkn; clear hkn; clear HK; have HK := HKN; clear HKN)) | (refine wpList_get_row rfl HK.out 26 _ rfl _ rfl _ _ _ _ (by first | exact Has.here _ | exact Has.next _ (Has.here _) | exact Has.next _ (Has.next _ (Has.here _)) | exact Has.next _ (Has.next _ (Has.next _ (Has.here _))) | exact Has.next _ (Has.next _ (Has.next _ (Has.next _ (Has.here _)))) | exact Has.next _ (Has.next _ (Has.next _ (Has.next _ (Has.next _ (Has.here _))))) | exact Has.next _ (Has.next _ (Has.next _ (Has.next _ (Has.next _ (Has.next _ (Has.here _)))))) | exact Has.next _ (Has.next _ (Has.next _ (Has.next _ (Has.next _ (Has.next _ (Has.next _ (Has.here _))))))) | exact Has.next _ (Has.next _ (Has.next _ (Has.next _ (Has.next _ (Has.next _ (Has.next _ (Has.next _ (Has.here _)))))))) | exact Has.next _ (Has.next _ (Has.next _ (Has.next _ (Has.next _ (Has.next _ (Has.next _ (Has.next _ (Has.next _ (Has.here _)))))))))) _ Try.underlying26 rfl (by kernel_rfl) ?_))
  have hx1 := expand_any S ⟨none, 0, 0, []⟩ 40 wn HSL.out HSO.out ⟨⟨rfl, fun j hj => absurd hj (Nat.not_lt_zero _)⟩, (fun x hx => by cases hx), (fun _ => rfl), (show 0 ≤ 3000 by omega)⟩ (by decide)
  refine Calls.mono hx1 ?_
  rintro e w2 ⟨a1, c1, rfl, -, -, -, -, hg⟩
  have hkb := HK.out.grow hg
  clear hg hx1
  clear HK
  have HK := Lib.hid hkb
  clear hkb
  go_wp2_with (refine wpList_get_row rfl HK.out 26 _ rfl _ rfl _ _ _ _ (by first | exact Has.here _ | exact Has.next _ (Has.here _) | exact Has.next _ (Has.next _ (Has.here _)) | exact Has.next _ (Has.next _ (Has.next _ (Has.here _))) | exact Has.next _ (Has.next _ (Has.next _ (Has.next _ (Has.here _)))) | exact Has.next _ (Has.next _ (Has.next _ (Has.next _ (Has.next _ (Has.here _))))) | exact Has.next _ (Has.next _ (Has.next _ (Has.next _ (Has.next _ (Has.next _ (Has.here _)))))) | exact Has.next _ (Has.next _ (Has.next _ (Has.next _ (Has.next _ (Has.next _ (Has.next _ (Has.here _))))))) | exact Has.next _ (Has.next _ (Has.next _ (Has.next _ (Has.next _ (Has.next _ (Has.next _ (Has.next _ (Has.here _)))))))) | exact Has.next _ (Has.next _ (Has.next _ (Has.next _ (Has.next _ (Has.next _ (Has.next _ (Has.next _ (Has.next _ (Has.here _)))))))))) _ Try.underlying26 rfl (by kernel_rfl) ?_)
  refine (expand_no S (.slice none 0 0) (-1) _ HSL.out (.inl (by decide))).mono ?_
  rintro e w3 ⟨rfl, hg⟩
  have hkb := HK.out.grow hg
  clear hg
  clear HK
  have HK := Lib.hid hkb
  clear hkb
  go_wp2_with fail
  refine wp_region_bund ([Stp.set B1] ++ (ones [9, 10] ++ ([Stp.set B2] ++ (ones [13, 14, 15, 16, 17, 18, 19, 20, 21, 22, 23, 24, 25, 26, 27] ++ ([Stp.set B3] ++ (ones [32, 33, 34] ++ ([Stp.set B4] ++ (ones [39, 40, 41, 42] ++ [])))))))) (stpOk_set ?_ (stpOk_ones _ (stpOk_set ?_ (stpOk_ones _ (stpOk_set ?_ (stpOk_ones _ (stpOk_set ?_ (stpOk_ones _ trivial)))))))) (by kernel_rfl) (by kernel_rfl) ?_
  · intro x hx
    simp only [B1, List.mem_cons, List.not_mem_nil, or_false] at hx
    rcases hx with rfl | rfl | rfl | rfl | rfl | rfl | rfl | rfl | rfl
    · exact still_ok rfl rfl (fun cs b h => by cases h) (gFree_none rfl) (by decide)
    · exact make_ok rfl rfl (fun cs b h => by cases h) (gFree_none rfl) (fun ρ w => by go_simp; first | done | exact ⟨rfl, rfl⟩ | rfl)
    · exact mark_ok (src := 1) (ds := 23) (k := 1) (C := #[Value.int .u8 107]) (e := 5) (t := 22) rfl rfl (fun cs b h => by cases h) (gFree_none rfl) (by simp [B1]) rfl Try.underlying22 Try.underlying5 (by kernel_rfl)
    · exact make_ok rfl rfl (fun cs b h => by cases h) (gFree_none rfl) (fun ρ w => by go_simp; first | done | exact ⟨rfl, rfl⟩ | rfl)
    · exact mark_ok (src := 3) (ds := 25) (k := 1) (C := #[Value.int .u8 97]) (e := 5) (t := 22) rfl rfl (fun cs b h => by cases h) (gFree_none rfl) (by simp [B1]) rfl Try.underlying22 Try.underlying5 (by kernel_rfl)
    · exact make_ok rfl rfl (fun cs b h => by cases h) (gFree_none rfl) (fun ρ w => by go_simp; first | done | exact ⟨rfl, rfl⟩ | rfl)
    · exact mark_ok (src := 5) (ds := 27) (k := 1) (C := #[Value.int .u8 98]) (e := 5) (t := 22) rfl rfl (fun cs b h => by cases h) (gFree_none rfl) (by simp [B1]) rfl Try.underlying22 Try.underlying5 (by kernel_rfl)
    · refine row_ok (ds := [26, 28]) rfl rfl (fun cs b h => by cases h) (gFree_none rfl) (fits_one (by kernel_rfl) (by kernel_rfl) (fits_one (by kernel_rfl) (by kernel_rfl) .nil)) (by kernel_rfl) (fun b w hb => ?_)
      obtain ⟨p1, p2, p3, e1⟩ := hb 26 (by simp)
      obtain ⟨q1, q2, q3, e2⟩ := hb 28 (by simp)
      simp only [List.map_cons, List.map_nil, e1, e2]
      have e1' : b.tmps[26]?.getD undef = .slice p1 p2 p3 := by simpa [Act.eval, Array.getD_eq_getD_getElem?] using e1
      have e2' : b.tmps[28]?.getD undef = .slice q1 q2 q3 := by simpa [Act.eval, Array.getD_eq_getD_getElem?] using e2
      clear e1 e2 hb
      go_simp
    · exact call_ok (ds := [24, 29]) rfl rfl (fun cs b h => by cases h) (gFree_none rfl) (fits_one (by kernel_rfl) (by kernel_rfl) (fits_one (by kernel_rfl) (by kernel_rfl) .nil)) rfl (fun args w => by simp [callFunc, Try.func12]; rfl)
  · intro x hx
    simp only [B2, List.mem_cons, List.not_mem_nil, or_false] at hx
    rcases hx with rfl | rfl
    · exact still_ok rfl rfl (fun cs b h => by cases h) (gFree_some (g := 10) (p := true) rfl (by kernel_rfl)) (by decide)
    · exact still_ok rfl rfl (fun cs b h => by cases h) (gFree_some (g := 10) (p := true) rfl (by kernel_rfl)) (by decide)
  · intro x hx
    simp only [B3, List.mem_cons, List.not_mem_nil, or_false] at hx
    rcases hx with rfl | rfl | rfl | rfl
    · exact make_ok rfl rfl (fun cs b h => by cases h) (gFree_some (g := 27) (p := true) rfl (by kernel_rfl)) (fun ρ w => by go_simp; first | done | exact ⟨rfl, rfl⟩ | rfl)
    · exact mark_ok (src := 28) (ds := 50) (k := 1) (C := #[Value.int .u8 120]) (e := 5) (t := 22) rfl rfl (fun cs b h => by cases h) (gFree_some (g := 27) (p := true) rfl (by kernel_rfl)) (by simp [B3]) rfl Try.underlying22 Try.underlying5 (by kernel_rfl)
    · exact make_ok rfl rfl (fun cs b h => by cases h) (gFree_some (g := 27) (p := true) rfl (by kernel_rfl)) (fun ρ w => by go_simp; first | done | exact ⟨rfl, rfl⟩ | rfl)
    · exact mark_ok (src := 30) (ds := 52) (k := 1) (C := #[Value.int .u8 120]) (e := 5) (t := 22) rfl rfl (fun cs b h => by cases h) (gFree_some (g := 27) (p := true) rfl (by kernel_rfl)) (by simp [B3]) rfl Try.underlying22 Try.underlying5 (by kernel_rfl)
  · intro x hx
    simp only [B4, List.mem_cons, List.not_mem_nil, or_false] at hx
    rcases hx with rfl | rfl | rfl | rfl
    · exact make_ok rfl rfl (fun cs b h => by cases h) (gFree_some (g := 34) (p := true) rfl (by kernel_rfl)) (fun ρ w => by go_simp; first | done | exact ⟨rfl, rfl⟩ | rfl)
    · exact mark_ok (src := 35) (ds := 57) (k := 1) (C := #[Value.int .u8 120]) (e := 5) (t := 22) rfl rfl (fun cs b h => by cases h) (gFree_some (g := 34) (p := true) rfl (by kernel_rfl)) (by simp [B4]) rfl Try.underlying22 Try.underlying5 (by kernel_rfl)
    · exact make_ok rfl rfl (fun cs b h => by cases h) (gFree_some (g := 34) (p := true) rfl (by kernel_rfl)) (fun ρ w => by go_simp; first | done | exact ⟨rfl, rfl⟩ | rfl)
    · exact mark_ok (src := 37) (ds := 59) (k := 1) (C := #[Value.int .u8 121]) (e := 5) (t := 22) rfl rfl (fun cs b h => by cases h) (gFree_some (g := 34) (p := true) rfl (by kernel_rfl)) (by simp [B4]) rfl Try.underlying22 Try.underlying5 (by kernel_rfl)
  have hkd := HK.out.grow (grown_drew w3 none)
  generalize w3.drew = wd at hkd ⊢
  clear HK
  have HK := Lib.hid hkd
  clear hkd
  refine bSeq_bundle (by rfl) (by rfl) (fun j => .agg (encK .u8 S)) ?_ ?_ ?_
  · intro x hx hk o ho
    simp only [B1, List.mem_cons, List.not_mem_nil, or_false] at hx
    rcases hx with rfl | rfl | rfl | rfl | rfl | rfl | rfl | rfl | rfl
    · obtain rfl := Option.some.inj ho
      exact still_row HK.out _ _ rfl pa rfl .u8 _ 32 S (.here _) _ Try.underlying26 rfl (by kernel_rfl)
    all_goals cases hk
  · intro x hx fn srcs hk D f w1 hI hin
    simp only [B1, List.mem_cons, List.not_mem_nil, or_false] at hx
    rcases hx with rfl | rfl | rfl | rfl | rfl | rfl | rfl | rfl | rfl
    any_goals cases hk
    obtain ⟨a1, fa, e2, ha⟩ := inb_lit nums1 hI (i := 1) (k := 1) (C := #[Value.int .u8 107]) (e := 5) (d := 23) (j := 2) (d' := 24) (by simp [B1]) (by simp [B1]) (hin 2 (by simp))
    obtain ⟨⟨r1, fr, e7, -, hr7⟩, hs7⟩ := inb_fact nums1 hI (x := ⟨7, 29, .row 2 [4, 6] 22⟩) (by simp [B1]) (hin 7 (by simp))
    obtain ⟨b1, fb, e4, hb⟩ := inb_lit nums1 hI (i := 3) (k := 1) (C := #[Value.int .u8 97]) (e := 5) (d := 25) (j := 4) (d' := 26) (by simp [B1]) (by simp [B1]) (hs7 4 (by simp [srcB]))
    obtain ⟨c1, fc, e6, hc⟩ := inb_lit nums1 hI (i := 5) (k := 1) (C := #[Value.int .u8 98]) (e := 5) (d := 27) (j := 6) (d' := 28) (by simp [B1]) (by simp [B1]) (hs7 6 (by simp [srcB]))
    have hr8 : w1.heap[r1]? = some (.cells #[Value.slice (some ⟨b1, 0, none⟩) 1 1, Value.slice (some ⟨c1, 0, none⟩) 1 1] 22 fr) := by rw [hr7]; simp [e4, e6]
    rw [show (List.map f [2, 7]).toArray = #[.slice (some ⟨a1, 0, none⟩) 1 1, .slice (some ⟨r1, 0, none⟩) 2 2] by simp [e2, show f 7 = _ from e7], HS.out]
    exact kmac ha hb hc hr8
  intro f wn hgn hf
  have e0 : f 0 = .agg (encK .u8 S) := hf ⟨0, 22, .still⟩ (by simp [B1])
  have e8 : f 8 = .agg (encK .u8 S) := hf ⟨8, 30, .call 12 [2, 7]⟩ (by simp [B1])
  have hkb := HK.out.grow hgn
  clear HK
  have HK := Lib.hid hkb
  clear hkb
  simp only [putN, B1, List.foldl_cons, List.foldl_nil, e0, e8]
  (try simp only [Act.put, Act.eval, List.setIfInBounds_toArray, List.set_cons_zero, List.set_cons_succ, Array.getD_eq_getD_getElem?, List.getElem?_toArray, List.getElem?_cons_succ, List.getElem?_cons_zero, Option.getD_some])
  clear hf hgn e0 e8
  refine bSeq_list rfl (fun K hK => ?_)
  go_wp2_with (refine wpList_eql rfl 26 _ _ _ rfl 32 _ .u8 Try.underlying26 Try.underlying5 (by kernel_rfl) (by kernel_rfl) S S rfl rfl HSL.out HSL.out true (by simp) ?_)
  refine bSeq_bundle (by rfl) (by rfl) (fun j => if j = 11 then .agg (encK .u8 S) else .agg (encK .u8 (zer 32))) ?_ ?_ ?_
  · intro x hx hk o ho
    simp only [B2, List.mem_cons, List.not_mem_nil, or_false] at hx
    rcases hx with rfl | rfl
    · obtain rfl := Option.some.inj ho
      exact still_row HK.out _ _ rfl pa rfl .u8 _ 32 S (.here _) _ Try.underlying26 rfl (by kernel_rfl)
    · obtain rfl := Option.some.inj ho
      intro w' _
      go_simp
      kernel_rfl
  · intro x hx fn srcs hk
    simp only [B2, List.mem_cons, List.not_mem_nil, or_false] at hx
    rcases hx with rfl | rfl <;> cases hk
  intro f wn hgn hf
  have e0 : f 11 = .agg (encK .u8 S) := hf ⟨11, 33, .still⟩ (by simp [B2])
  have e8 : f 12 = .agg (encK .u8 (zer 32)) := hf ⟨12, 34, .still⟩ (by simp [B2])
  have hkb := HK.out.grow hgn
  clear HK
  have HK := Lib.hid hkb
  clear hkb
  simp only [putN, B2, List.foldl_cons, List.foldl_nil, e0, e8]
  (try simp only [Act.put, Act.eval, List.setIfInBounds_toArray, List.set_cons_zero, List.set_cons_succ, Array.getD_eq_getD_getElem?, List.getElem?_toArray, List.getElem?_cons_succ, List.getElem?_cons_zero, Option.getD_some])
  clear hf hgn e0 e8
  refine bSeq_list rfl (fun K hK => ?_)
  have HNZ := Lib.hid (show (S == zer 32) = !true by rw [HS.out]; decide +kernel)
  go_wp2_with (refine wpList_neq rfl 26 _ _ _ rfl 32 _ .u8 Try.underlying26 Try.underlying5 (by kernel_rfl) (by kernel_rfl) S (zer 32) rfl rfl HSL.out (length_zer _) true HNZ.out ?_)
  refine bSeq_bundle (by rfl) (by rfl) (fun j => undef) ?_ ?_ ?_
  · intro x hx hk o ho
    simp only [B3, List.mem_cons, List.not_mem_nil, or_false] at hx
    rcases hx with rfl | rfl | rfl | rfl <;> cases hk
  · intro x hx fn srcs hk
    simp only [B3, List.mem_cons, List.not_mem_nil, or_false] at hx
    rcases hx with rfl | rfl | rfl | rfl <;> cases hk
  intro f wn hgn hf
  obtain ⟨x1, fx, e28, -, hx1⟩ := hf ⟨28, 50, .make 1 #[Value.int .u8 120] 5⟩ (by simp [B3])
  obtain ⟨x2, fy, e30, -, hx2⟩ := hf ⟨30, 52, .make 1 #[Value.int .u8 120] 5⟩ (by simp [B3])
  have e29 : f 29 = f 28 := hf ⟨29, 51, .mark 28⟩ (by simp [B3])
  have e31 : f 31 = f 30 := hf ⟨31, 53, .mark 30⟩ (by simp [B3])
  have hkb := HK.out.grow hgn
  clear HK
  have HK := Lib.hid hkb
  clear hkb
  have e28' : f 28 = .slice (some ⟨x1, 0, none⟩) 1 1 := e28
  have e30' : f 30 = .slice (some ⟨x2, 0, none⟩) 1 1 := e30
  simp only [putN, B3, List.foldl_cons, List.foldl_nil, e29, e31, e28', e30']
  (try simp only [Act.put, Act.eval, List.setIfInBounds_toArray, List.set_cons_zero, List.set_cons_succ, Array.getD_eq_getD_getElem?, List.getElem?_toArray, List.getElem?_cons_succ, List.getElem?_cons_zero, Option.getD_some])
  have HM1 := Lib.hid (mblock_ok (xs := [120]) (n := 1) hx1 rfl (ok_small (by decide) (by decide)) (by decide))
  have HM2 := Lib.hid (mblock_ok (xs := [120]) (n := 1) hx2 rfl (ok_small (by decide) (by decide)) (by decide))
  clear hf hgn e28 e29 e30 e31 e28' e30' hx1 hx2
  refine bSeq_list rfl (fun K hK => ?_)
  go_wp2_with fail
  refine (same_any _ 1 1 [120] _ 1 1 [120] _ HM1.out.1 HM2.out.1 HM1.out.2.1 HM2.out.2.1 (by decide) (by decide)).mono ?_
  rintro e wn ⟨rfl, hg⟩
  rw [show (([120] : List Int) == [120]) = true from rfl]
  have hkb := HK.out.grow hg
  clear hg HM1 HM2
  clear HK
  have HK := Lib.hid hkb
  clear hkb
  go_wp2_with fail
  refine bSeq_bundle (by rfl) (by rfl) (fun j => undef) ?_ ?_ ?_
  · intro x hx hk o ho
    simp only [B4, List.mem_cons, List.not_mem_nil, or_false] at hx
    rcases hx with rfl | rfl | rfl | rfl <;> cases hk
  · intro x hx fn srcs hk
    simp only [B4, List.mem_cons, List.not_mem_nil, or_false] at hx
    rcases hx with rfl | rfl | rfl | rfl <;> cases hk
  intro f wn hgn hf
  obtain ⟨x1, fx, e28, -, hx1⟩ := hf ⟨35, 57, .make 1 #[Value.int .u8 120] 5⟩ (by simp [B4])
  obtain ⟨x2, fy, e30, -, hx2⟩ := hf ⟨37, 59, .make 1 #[Value.int .u8 121] 5⟩ (by simp [B4])
  have e29 : f 36 = f 35 := hf ⟨36, 58, .mark 35⟩ (by simp [B4])
  have e31 : f 38 = f 37 := hf ⟨38, 60, .mark 37⟩ (by simp [B4])
  have hkb := HK.out.grow hgn
  clear HK
  have HK := Lib.hid hkb
  clear hkb
  have e28' : f 35 = .slice (some ⟨x1, 0, none⟩) 1 1 := e28
  have e30' : f 37 = .slice (some ⟨x2, 0, none⟩) 1 1 := e30
  simp only [putN, B4, List.foldl_cons, List.foldl_nil, e29, e31, e28', e30']
  (try simp only [Act.put, Act.eval, List.setIfInBounds_toArray, List.set_cons_zero, List.set_cons_succ, Array.getD_eq_getD_getElem?, List.getElem?_toArray, List.getElem?_cons_succ, List.getElem?_cons_zero, Option.getD_some])
  have HM1 := Lib.hid (mblock_ok (xs := [120]) (n := 1) hx1 rfl (ok_small (by decide) (by decide)) (by decide))
  have HM2 := Lib.hid (mblock_ok (xs := [121]) (n := 1) hx2 rfl (ok_small (by decide) (by decide)) (by decide))
  clear hf hgn e28 e29 e30 e31 e28' e30' hx1 hx2
  refine bSeq_list rfl (fun K hK => ?_)
  go_wp2_with fail
  refine (same_any _ 1 1 [120] _ 1 1 [121] _ HM1.out.1 HM2.out.1 HM1.out.2.1 HM2.out.2.1 (by decide) (by decide)).mono ?_
  rintro e wn ⟨rfl, hg⟩
  rw [show (([120] : List Int) == [121]) = false from rfl]
  have hkb := HK.out.grow hg
  clear hg HM1 HM2
  clear HK
  have HK := Lib.hid hkb
  clear hkb
  go_wp2_with fail
  refine bSeq_nil ?_
  go_wp2_with fail
  exact bodyPost_ret (results_tmp rfl _ _ _) rfl ⟨rfl, HK.out.grown⟩
end Go.Proofs.Ytjogdbiaiflmpaa
