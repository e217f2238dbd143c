/- slices.Grow and slices.Concat of bytes, walked. -/
import Derived.Test.YtmankjhopfilaaaProg
import Derived.Test.YtmankjhopfilaaaRow
import Derived.IntWalk
import Derived.Lib.AppendZerosOnto
namespace Go.Proofs.Ytmankjhopfilaaa
set_option linter.unusedVariables false
set_option linter.unusedSimpArgs false
open Go.RowKit Go.Proofs.YtmankjhopfilaaaL

/-- 'append([]byte(nil), make([]byte, k)...)' as gc has it. -/
theorem wpList_append_zeros {P : Program} {ops : Array Oper} {Q : Exit → Act → World → Prop} {a : Act} {w : World} {o : Oper} {rest : List Oper} (hgd : o.guard = none) (s x : Operand) (t tn : TypeId)
    (ho : o.op = .call { callee := .builtin .append, args := #[s, x], argTypes := #[t, tn] }) (e : TypeId) (z : Value) (bytes : Nat) (ht : P.underlying t = some (.slice e)) (htn : P.underlying tn = some (.int .i64)) (hinf : (P.info? e).map (fun i => (i.zero, i.size, i.bytes)) = some (some z, 1, 1)) (hzs : z.cells = #[z])
    (hs : a.eval s = .slice none 0 0) (k : Nat) (N : Int) (hx : a.eval x = .int .i64 N) (hN : N = k) (h0 : 0 < k) (hk : k ≤ 1000000)
    (h : ∀ cap w', w'.ownsRow w.heap.size e 1 (.slice (some ⟨w.heap.size, 0, none⟩) 0 cap) 0 [] → k ≤ cap → w.grownBy w' none → wpList P ops Q rest (a.put o.dst (.slice (some ⟨w.heap.size, 0, none⟩) k cap)) w') : wpList P ops Q (o :: rest) a w :=
  wpList_plain hgd fun K hK => by
    subst hN
    obtain ⟨i, hi, hz, hsize, hby⟩ := info_parts hinf
    have hrun := Lib.run_append_grow_zeros w t tn o.type e i z .i64 .i64 ht htn hi hz none 0 0 [] (by rw [hsize]; exact run_firstCells_none w.drew 1 0 0 0) k h0 (by omega) (by omega) (by omega) (by rw [hby]; omega) (by rw [hby, Nat.mul_one, Builtin.nextslicecap]; simp; split <;> omega)
    have hge : k ≤ grownCap w (0 + k) 0 e := Nat.le_trans (by omega) (grownCap_ge w (0 + k) 0 e)
    have hle : grownCap w (0 + k) 0 e ≤ maxLen := grownCap_le_maxLen w (0 + k) 0 e (by unfold maxLen; omega)
    obtain ⟨cap, hcap⟩ : ∃ c, c = grownCap w (0 + k) 0 e := ⟨_, rfl⟩
    rw [← hcap] at hrun hge hle
    obtain ⟨cur, hcur⟩ : ∃ c, c = (([] : List Value).toArray ++ Builtin.zeroCells z.cells k ++ Builtin.zeroCells z.cells (cap - (0 + k))) := ⟨_, rfl⟩
    have hsz : cur.size = cap * 1 := by
      rw [hcur, hzs]
      simp [Builtin.zeroCells, madeCells_one]
      omega
    rw [← hcur, Nat.zero_add] at hrun
    have hg : w.grownBy (w.drew.alloc (.cells cur e (0, 0))) none := grown_alloc (grown_drew w none) _
    unfold Oper.wp execOp
    simp only [ho, resolve, invoke, builtin, Sem.run_bind, Sem.run_pure, Result.andThen_ok, List.map_toArray, List.map_cons, List.map_nil, hs, hx, hrun]
    refine hK _ _ (h cap _ ⟨rfl, .inr ⟨w.heap.size, cap, cur, rfl, Nat.le_refl _, ?_, Nat.zero_le _, hle, hsz, rfl⟩⟩ hge hg)
    exact alloc_at (w := w.drew) _ rfl

set_option maxHeartbeats 1000000 in
theorem grow_any (n : Nat) (w : World) (hn : n ≤ 1000000) : Calls Try.prog 37 #[.slice none 0 0, .int .i64 n] w fun e w' =>
    ∃ v, e = .returned v ∧ w'.ownsRow w.heap.size 5 1 v 0 [] ∧ w.grownBy w' none := by
  go_enter Try.func37, Try.ntmps37
  cases n with
  | zero =>
    go_wp2_with fail
    exact bodyPost_ret (results_tmp rfl _ _ _) rfl ⟨_, rfl, ⟨rfl, .inl ⟨rfl, rfl⟩⟩, grown_refl w none⟩
  | succ m =>
    obtain ⟨N, hN⟩ : ∃ N, N = ((m + 1 : Nat) : Int) := ⟨_, rfl⟩
    have h0 : 0 < N := by omega
    have h1 : N ≤ 1000000 := by omega
    rw [← hN]
    have HN := Lib.hid hN
    clear hN
    go_wp2_with (refine wpList_append_zeros rfl (.tmp 20) (.tmp 21) _ _ rfl 5 (.int .u8 0) 1 Try.underlying27 Try.underlying3 rfl rfl rfl (m + 1) N rfl HN.out (by omega) (by omega) ?_)
    intro cap w2 how hc hg
    have HOW := Lib.hid how
    have HG := Lib.hid hg
    clear how hg
    have hcap : (0 : Int) ≤ (cap : Int) := by omega
    have hcap1 : N ≤ (cap : Int) := by have := HN.out; omega
    go_wp2_with fail
    exact bodyPost_ret (results_tmp rfl _ _ _) rfl ⟨.slice (some ⟨w.heap.size, 0, none⟩) 0 cap, rfl, HOW.out, HG.out⟩

/-- A slice of bytes, as it reads. -/
structure Bs where
  ad : Option Addr
  len : Nat
  cap : Nat
  xs : List Int
def Bs.val (b : Bs) : Value := .slice b.ad b.len b.cap
def Bs.ok (w : World) (b : Bs) : Prop := Rd .u8 w b.ad b.len b.xs ∧ okB 256 b.xs ∧ (b.ad = none → b.cap = 0) ∧ b.len ≤ 3000
def catB : List Bs → List Int
  | [] => []
  | b :: r => b.xs ++ catB r
def lenB : List Bs → Nat
  | [] => 0
  | b :: r => b.len + lenB r
theorem catB_app : ∀ (s t : List Bs), catB (s ++ t) = catB s ++ catB t
  | [], t => rfl
  | b :: r, t => by rw [List.cons_append, catB, catB, catB_app r t, List.append_assoc]
theorem lenB_app : ∀ (s t : List Bs), lenB (s ++ t) = lenB s + lenB t
  | [], t => by simp [lenB]
  | b :: r, t => by rw [List.cons_append, lenB, lenB, lenB_app r t]; omega
theorem length_catB : ∀ (L : List Bs) {w : World}, (∀ b ∈ L, b.ok w) → (catB L).length = lenB L
  | [], _, _ => rfl
  | b :: r, w, h => by rw [catB, lenB, List.length_append, (h b (by simp)).1.1, length_catB r (fun c hc => h c (by simp [hc]))]
theorem Bs.ok_keep {w w' : World} {b : Bs} (h : b.ok w) (g : w.grownBy w' none) : b.ok w' := ⟨h.1.kept g, h.2⟩
theorem take_snoc {α : Type} (L : List α) (k : Nat) (x : α) (h : L[k]? = some x) : L.take (k + 1) = L.take k ++ [x] := by rw [List.take_add_one, h]; rfl
theorem lenB_le (L : List Bs) {w : World} (h : ∀ b ∈ L, b.ok w) : lenB L ≤ 3000 * L.length := by
  induction L with
  | nil => simp [lenB]
  | cons b r ih =>
    have h1 := (h b (by simp)).2.2.2
    have h2 := ih fun c hc => h c (by simp [hc])
    rw [lenB, List.length_cons]; omega
theorem lenB_take (L : List Bs) (k : Nat) : lenB (L.take k) ≤ lenB L := by
  have := lenB_app (L.take k) (L.drop k)
  rw [List.take_append_drop] at this
  omega
/-- Bytes of a slice as an append's source. -/
theorem Bs.src {w : World} {b : Bs} (h : b.ok w) : Go.Proofs.YtmankjhopfilaaaL.Src w b.val (b.xs.map (Value.int .u8)) := by
  obtain ⟨⟨h1, h2⟩, -, hn, -⟩ := h
  cases hb : b.ad with
  | none =>
    have hl : b.len = 0 := Nat.eq_zero_of_not_pos fun hp => by
      obtain ⟨x, hx, -⟩ := h2 0 hp
      rw [hb] at hx; cases hx
    have hc := hn hb
    have : b.xs = [] := List.length_eq_zero_iff.1 (h1.trans hl)
    exact .inl ⟨by rw [Bs.val, hb, hl, hc], by rw [this]; rfl⟩
  | some ad =>
    refine .inr ⟨ad, b.cap, by rw [Bs.val, hb, List.length_map, h1], fun j u hu => ?_⟩
    obtain ⟨y, hy, rfl⟩ : ∃ y, b.xs[j]? = some y ∧ Value.int .u8 y = u := by simpa using hu
    obtain ⟨x, hx, hc⟩ := h2 j (by rw [← h1]; exact (List.getElem?_eq_some_iff.1 hy).1)
    rw [hb] at hx
    injection hx with hx
    rw [hx, hc, List.getD_eq_getElem?_getD, hy]; rfl

theorem own_block_ge {w : World} {base e n : Nat} {v : Value} {xs : List Value} (h : w.ownsRow base e 1 v n xs) : ∀ k, v.ownBlock = some k → base ≤ k := fun k hk => by
  obtain ⟨-, h⟩ := h
  rcases h with ⟨rfl, -⟩ | ⟨g, cap, cur, rfl, hb, -⟩
  · simp [Value.ownBlock] at hk
  · simp [Value.ownBlock] at hk; omega
set_option maxHeartbeats 2000000 in
set_option maxRecDepth 100000 in
theorem concat_any (ad : Option Addr) (len cap : Nat) (L : List Bs) (w : World) (hl : L.length = len) (hcell : ∀ i b, L[i]? = some b → ∃ x, ad = some x ∧ w.cell? (x.add i) = some b.val) (hok : ∀ b ∈ L, b.ok w) (hlen : len ≤ 30) :
    Calls Try.prog 26 #[.slice ad len cap] w fun e w' => ∃ v, e = .returned v ∧ w'.ownsRow w.heap.size 5 1 v (lenB L) ((catB L).map (Value.int .u8)) ∧ w.grownBy w' none := by
  have HL := Lib.hid hl
  have HC := Lib.hid hcell
  have HOK := Lib.hid hok
  have HB := Lib.hid (lenB_le L hok)
  clear hl hcell hok
  go_enter Try.func26, Try.ntmps26
  go_wp2_with fail
  go_loopw [11, 3] (fun i_ s_ wr => ∃ k : Nat, k ≤ len ∧ i_ = .int .i64 k ∧ s_ = .int .i64 (lenB (L.take k)) ∧ wr = w) (fun v _ _ => len - (intOf v).toNat)
  case atStart => exact ⟨0, by omega, rfl, rfl, rfl⟩
  case round =>
    obtain ⟨k, hk, rfl, rfl, hw⟩ := hrel
    subst hw
    by_cases hlt : k < len
    · obtain ⟨b, hb⟩ : ∃ b, L[k]? = some b := ⟨L[k]'(by rw [HL.out]; exact hlt), List.getElem?_eq_getElem _⟩
      obtain ⟨x, hx, hc⟩ := HC.out k b hb
      subst hx
      have hbl := (HOK.out b (List.mem_of_getElem? hb)).2.2.2
      have hs := lenB_take L k
      have hb0 := HB.out
      rw [HL.out] at hb0
      obtain ⟨n, hn⟩ : ∃ n, n = lenB (L.take k) := ⟨_, rfl⟩
      rw [← hn] at hs ⊢
      have HN := Lib.hid (show n + b.len = lenB (L.take (k + 1)) by rw [take_snoc L k b hb, lenB_app, ← hn]; simp [lenB])
      unfold Bs.val at hc
      have hkl : (k : Int) < (len : Int) := by omega
      have hk0 : 0 ≤ (k : Int) := by omega
      have hn1 : (n : Int) ≤ 100000 := by omega
      have hn0 : (0 : Int) ≤ (n : Int) := by omega
      have hbl1 : (b.len : Int) ≤ 3000 := by omega
      have hbl0 : (0 : Int) ≤ (b.len : Int) := by omega
      clear hb hn hs hb0
      go_wp2_with fail
      exact ⟨⟨k + 1, by omega, by go_num, by rw [← HN.out]; go_num, trivial⟩, by simp [intOf]; omega⟩
    · have : k = len := by omega
      subst this
      have HT := Lib.hid (show lenB (L.take k) = lenB L by rw [List.take_of_length_le (by rw [HL.out]; omega)])
      go_wp2_with fail
      refine (grow_any (lenB (L.take k)) _ (by rw [HT.out]; have := HB.out; rw [HL.out] at this; omega)).mono ?_
      rintro e w1 ⟨v, rfl, how, hg⟩
      have HOW := Lib.hid how
      have HG := Lib.hid hg
      clear how hg
      go_wp2_with fail
      obtain ⟨W0, hW0⟩ : ∃ x, x = wr := ⟨_, rfl⟩
      rw [← hW0] at HOW HG HOK HC
      have HW0 := Lib.hid hW0
      clear hW0
      go_loopw [27, 6] (fun i_ s_ wr' => ∃ (j : Nat) (v : Value), j ≤ k ∧ i_ = .int .i64 j ∧ s_ = v ∧ Hid (wr'.ownsRow W0.heap.size 5 1 v (lenB (L.take j)) ((catB (L.take j)).map (Value.int .u8))) ∧ W0.grownBy wr' none) (fun v _ _ => k - (intOf v).toNat)
      case atStart => exact ⟨0, v, by omega, rfl, rfl, HOW, HG.out⟩
      case round =>
        obtain ⟨j, v2, hj, rfl, hv2, HV, hg⟩ := hrel
        subst hv2
        clear HOW HG
        have HG := Lib.hid hg
        clear hg
        by_cases hlj : j < k
        · obtain ⟨b, hb⟩ : ∃ b, L[j]? = some b := ⟨L[j]'(by rw [HL.out]; exact hlj), List.getElem?_eq_getElem _⟩
          obtain ⟨x, hx, hc0⟩ := HC.out j b hb
          subst hx
          have hc := HG.out.cell hc0 (by simp)
          have hbk := Bs.ok_keep (HOK.out b (List.mem_of_getElem? hb)) HG.out
          have HSRC := Lib.hid (Bs.src hbk)
          have HBL := Lib.hid (show (b.xs.map (Value.int .u8)).length = b.len by rw [List.length_map]; exact hbk.1.1)
          have HBX := Lib.hid hbk.1.1
          have hbl := hbk.2.2.2
          have hs := lenB_take L j
          have hb0 := HB.out
          rw [HL.out] at hb0
          have HN := Lib.hid (show lenB (L.take j) + b.len = lenB (L.take (j + 1)) by rw [take_snoc L j b hb, lenB_app]; simp [lenB])
          have HCT := Lib.hid (show (catB (L.take j)).map (Value.int .u8) ++ b.xs.map (Value.int .u8) = (catB (L.take (j + 1))).map (Value.int .u8) by rw [take_snoc L j b hb, catB_app, List.map_append]; simp [catB])
          have hjl : (j : Int) < (k : Int) := by omega
          have hj0 : 0 ≤ (j : Int) := by omega
          clear hb hbk hc0
          go_wp2_with (at_builtin; refine wpList_app_src rfl (.tmp 31) (.tmp 32) 27 rfl W0.heap.size 5 (.int .u8 0) 1 Try.underlying27 (by kernel_rfl) rfl u6 (lenB (L.take j)) _ rfl HV.out b.val (b.xs.map (Value.int .u8)) rfl ?hs ?h1 ?h2 ?h3 ?h4 ?_)
          case hs => exact HSRC.out
          case h1 => intro u hu; obtain ⟨y, -, rfl⟩ := List.mem_map.1 hu; rfl
          case h2 => rw [HBL.out]; unfold maxLen; omega
          case h3 => rw [HBL.out]; omega
          case h4 => exact HG.out.size
          intro v' w3 hown hgr
          rw [HBX.out, HN.out, HCT.out] at hown
          have HV' := Lib.hid hown
          have HG' := Lib.hid (grown_row HG.out hgr (own_block_ge HV.out))
          clear hown hgr hc
          go_wp2_with fail
          exact ⟨⟨j + 1, v', by omega, by go_num, rfl, HV', HG'.out⟩, by simp [intOf]; omega⟩
        · have : j = k := by omega
          subst this
          have hv := HV.out
          rw [List.take_of_length_le (by rw [HL.out]; omega)] at hv
          have HV' := Lib.hid hv
          clear hv
          go_wp2_with fail
          exact bodyPost_ret (results_tmp rfl _ _ _) rfl ⟨u6, rfl, HW0.out ▸ HV'.out, HW0.out ▸ HG.out⟩
end Go.Proofs.Ytmankjhopfilaaa
