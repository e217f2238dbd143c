/- PacketParse, the reference's: whole; a hop, plain. -/
import Derived.Test.YtmankjhopfilaaaPkY
namespace Go.Proofs.YtmankjhopfilaaaL
set_option linter.unusedVariables false
open Go.RowKit
section
variable {P : Program} {ops : Array Oper} {Q : Exit → Act → World → Prop} {a : Act} {w0 w : World} {op : Oper} {rest : List Oper} {L L' : List It}
/-- A cell of a box, stored. -/
theorem wpList_put_cell (hgd : op.guard = none) (HK : Own w0 w L) (ty : TypeId) (x y : Operand) (ho : op.op = .store ty x y) (p i : Nat) (v : Value) (hx : a.eval x = .pointer (some ⟨p, i, none⟩)) (hy : a.eval y = v)
    (T : TypeId) (cs cs' : Array Value) (hu : Upd (.blk p (.cells cs T (0, 0))) (.blk p (.cells cs' T (0, 0))) L L') (hi : i < cs.size) (hcs : cs.setIfInBounds i v = cs') (hinf : (P.info? ty).map (·.size) = some 1) (hv : v.cells = #[v]) (h1 : v.oneCell' = true)
    (h : ∀ w', Own w0 w' L' → wpList P ops Q rest (a.put op.dst undef) w') : wpList P ops Q (op :: rest) a w := by
  obtain ⟨A, B, hL, hL'⟩ := hu.parts
  have hm := HK.has (.blk p (.cells cs T (0, 0))) (by rw [hL]; simp)
  exact wpList_store_cell hgd ty x y ho p i v hx hy T cs hm.2 hi hinf hv h1 fun w' r g => h w' (HK.upd hu g ⟨hm.1, by rw [r, hcs]⟩ (.inl rfl))
end
end Go.Proofs.YtmankjhopfilaaaL
namespace Go.Proofs.Ytmankjhopfilaaa
set_option linter.unusedVariables false
set_option linter.unusedSimpArgs false
open Go.RowKit Go.Proofs.YtmankjhopfilaaaL

theorem rparse_any (ad : Option Addr) (n c : Nat) (xs : List Int) (w : World) (hb : (⟨ad, n, c, xs⟩ : Bs).ok w) (hcn : n ≤ c) :
    Calls Try.prog 19 #[.slice ad n c] w fun e w' => (par xs).ret w w' e := by
  by_cases he : (par xs).err = 20 ∨ (par xs).err = 23
  · exact rparse_bad ad n c xs w hb hcn he
  have hl : xs.length = n := hb.1.1
  have ho : okB 256 xs := hb.2.1
  have hm : ¬ 1400 < xs.length := fun hm => he (.inr (by rw [par, if_pos hm]; rfl))
  have hn0 : 0 < n := by
    refine Nat.pos_of_ne_zero fun h0 => he (.inl ?_)
    rw [par, if_neg hm, if_neg (by rw [hl, h0]; exact fun h => absurd h.1 (by decide)), par4, if_pos (.inl (by rw [hl, h0]; decide))]; rfl
  obtain ⟨x, rfl⟩ : ∃ x, ad = some x := by
    obtain ⟨x, hx, -⟩ := hb.1.2 0 hn0
    exact ⟨x, hx⟩
  by_cases h6 : 0 < xs.length ∧ xs.getD 0 0 / 16 = 6
  · have hp : par xs = par6 xs := by rw [par, if_neg hm, if_pos h6]
    rw [hp] at he ⊢
    by_cases hc : xs.length < 40 ∨ beV (sec xs 4 6) ≠ xs.length - 40
    · exact absurd (.inl (by rw [par6, if_pos hc]; rfl)) he
    · rw [par6, if_neg hc]
      exact rparse6_any x n c xs w hb hcn (by omega) (by omega) h6.2 (Decidable.byContradiction fun h => hc (.inr (by rw [hl]; exact h)))
  · have hp : par xs = par4 xs := by rw [par, if_neg hm, if_neg h6]
    rw [hp] at he ⊢
    by_cases hc : xs.length < 20 ∨ xs.getD 0 0 ≠ 69 ∨ beV (sec xs 2 4) ≠ xs.length
    · exact absurd (.inl (by rw [par4, if_pos hc]; rfl)) he
    · have h69 : xs.getD 0 0 = 69 := Decidable.byContradiction fun h => hc (.inr (.inl h))
      have hv : beV (sec xs 2 4) = n := Decidable.byContradiction fun h => hc (.inr (.inr (by rw [hl]; exact h)))
      rw [par4, if_neg hc]
      by_cases hs : csum (xs.take 20) = 0
      · have q4 := rparse4_any x n c xs w hb hcn (by omega) (by omega) h69 hv hs
        rw [show (if sumdL xs ≠ xs then badR 22 else (⟨0, pk4 xs, xs.drop 20⟩ : Rs)) = if sumdL xs = xs then ⟨0, pk4 xs, xs.drop 20⟩ else badR 22 by by_cases h : sumdL xs = xs <;> simp [h]]
        exact q4
      · have hne : sumdL xs ≠ xs := fun h => hs (sum_right xs (by omega) ho (by rw [h69]; decide) h)
        rw [if_pos hne]
        exact rparse4_sum x n c xs w hb hcn (by omega) (by omega) h69 hv hs

theorem sec_set (xs : List Int) (i a b : Nat) (v : Int) (h : b ≤ i ∨ i < a) : sec (xs.set i v) a b = sec xs a b := by
  unfold sec
  rcases h with h | h
  · rw [List.take_set, List.set_eq_of_length_le (by rw [List.length_take]; omega)]
  · rw [List.take_set, List.drop_set_of_lt h]
theorem drop_set (xs : List Int) (i a : Nat) (v : Int) (h : i < a) : (xs.set i v).drop a = xs.drop a := List.drop_set_of_lt h
/-- A packet of one life less. -/
def Pk.dec (p : Pk) : Pk := { p with ttl := p.ttl - 1 }
theorem dec_ok {p : Pk} (h : p.ok) (ht : 1 < p.ttl) : p.dec.ok := ⟨h.cls, h.flow, h.id, h.frag, ⟨show 0 ≤ p.ttl - 1 by omega, show p.ttl - 1 < 256 from by have := h.ttl.2; omega⟩, h.proto, h.src, h.dst⟩
theorem dec_right (p : Pk) : p.dec.right = p.right := rfl
theorem dec_head (p : Pk) : p.dec.head = p.head := rfl
theorem pk4_dec (xs : List Int) (h : 20 ≤ xs.length) : pk4 (xs.set 8 (xs.getD 8 0 - 1)) = (pk4 xs).dec := by
  unfold pk4 Pk.dec
  simp only [sec_set xs 8 4 6 _ (.inl (by decide)), sec_set xs 8 6 8 _ (.inl (by decide)), sec_set xs 8 12 16 _ (.inr (by decide)), sec_set xs 8 16 20 _ (.inr (by decide)), getD_set_ne xs 8 1 _ (by decide), getD_set_ne xs 8 9 _ (by decide), getD_set_self xs 8 _ (by omega)]
theorem pk6_dec (xs : List Int) (h : 40 ≤ xs.length) : pk6 (xs.set 7 (xs.getD 7 0 - 1)) = (pk6 xs).dec := by
  unfold pk6 Pk.dec
  simp only [← sec_zero, sec_set xs 7 0 4 _ (.inl (by decide)), sec_set xs 7 8 24 _ (.inr (by decide)), sec_set xs 7 24 40 _ (.inr (by decide)), getD_set_ne xs 7 6 _ (by decide), getD_set_self xs 7 _ (by omega)]
/-- Of a packet that was read: it is right, and a hop is the packet of one life less. -/
theorem hop_put (xs : List Int) (ho : okB 256 xs) (h : (par xs).err = 0) : (par xs).p.ok ∧ (par xs).p.right = true ∧ okB 256 (par xs).b ∧ (par xs).p.head + (par xs).b.length = xs.length ∧ xs.length ≤ 1400 ∧ (1 < (par xs).p.ttl → putE (par xs).p.dec (par xs).b.length = 0 ∧ hop xs = some (putL (par xs).p.dec (par xs).b)) := by
  obtain ⟨hm, ⟨h0, h1, h2, h3⟩ | ⟨h1, h0, h2, h4, h3⟩⟩ := par_ok h
  · have hk := pk6_ok xs h1 ho
    have hl : (xs.drop 40).length = xs.length - 40 := List.length_drop
    rw [h3]
    refine ⟨hk.1, hk.2, ok_drop ho 40, ?_, hm, fun ht => ?_⟩
    · show 40 + (xs.drop 40).length = _; omega
    have ht : 1 < xs.getD 7 0 := ht
    have he : putE (pk6 xs).dec (xs.drop 40).length = 0 := by
      rw [putE, if_neg (by rw [dec_right, hk.2]; decide), if_pos]
      show 40 + (xs.drop 40).length ≤ 1400; omega
    refine ⟨he, ?_⟩
    rw [hop, h3, if_neg (by rintro (e | e); exact e rfl; exact absurd (show xs.getD 7 0 ≤ 1 from e) (by omega)), if_pos (by rfl), putL, if_pos he, if_pos (by rfl)]
    congr 1
    have hy : (xs.set 7 (xs.getD 7 0 - 1)).length = xs.length := List.length_set
    have := put6_pk6 (xs.set 7 (xs.getD 7 0 - 1)) (by omega) (ok_set ho _ _ (by omega) (by have := (ok_get ho 7).2; omega)) (by rw [getD_set_ne _ _ _ _ (by decide)]; exact h0) (by rw [sec_set _ _ _ _ _ (.inl (by decide)), hy]; exact h2)
    rw [pk6_dec xs h1, drop_set _ _ _ _ (by decide)] at this
    exact this.symm
  · have hk := pk4_ok xs h1 ho
    have hl : (xs.drop 20).length = xs.length - 20 := List.length_drop
    rw [h3]
    refine ⟨hk.1, hk.2, ok_drop ho 20, ?_, hm, fun ht => ?_⟩
    · show 20 + (xs.drop 20).length = _; omega
    have ht : 1 < xs.getD 8 0 := ht
    have he : putE (pk4 xs).dec (xs.drop 20).length = 0 := by
      rw [putE, if_neg (by rw [dec_right, hk.2]; decide), if_pos]
      show 20 + (xs.drop 20).length ≤ 1400; omega
    refine ⟨he, ?_⟩
    rw [hop, h3, if_neg (by rintro (e | e); exact e rfl; exact absurd (show xs.getD 8 0 ≤ 1 from e) (by omega))]
    rw [if_neg (show ¬ ((⟨0, pk4 xs, xs.drop 20⟩ : Rs).p.v6 = true) from Bool.false_ne_true), putL, if_pos he, if_neg (show ¬ ((pk4 xs).dec.v6 = true) from Bool.false_ne_true)]
    congr 1
    have hy : (xs.set 8 (xs.getD 8 0 - 1)).length = xs.length := List.length_set
    have := put4_pk4 (xs.set 8 (xs.getD 8 0 - 1)) (by omega) (ok_set ho _ _ (by omega) (by have := (ok_get ho 8).2; omega)) (by rw [getD_set_ne _ _ _ _ (by decide)]; exact h0) (by rw [sec_set _ _ _ _ _ (.inl (by decide)), hy]; exact h2)
    rw [pk4_dec xs h1, drop_set _ _ _ _ (by decide)] at this
    exact this.symm
end Go.Proofs.Ytmankjhopfilaaa
