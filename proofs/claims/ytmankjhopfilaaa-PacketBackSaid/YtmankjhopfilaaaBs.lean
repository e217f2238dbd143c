/- Slices of bytes that a call owns, or that came in, as parts. -/
import Derived.Test.YtmankjhopfilaaaSep
import Derived.Test.YtmankjhopfilaaaCat
namespace Go.Proofs.Ytmankjhopfilaaa
set_option linter.unusedVariables false
open Go.RowKit Go.Proofs.YtmankjhopfilaaaL
theorem own_bs {w0 w : World} {L : List It} (HK : Own w0 w L) {e : TypeId} {a : Option Addr} {n c : Nat} {s : List Int} (hx : Has (.sl e .u8 a n c s) L) (ho : okB 256 s) (hn : n ≤ 3000) : (⟨a, n, c, s⟩ : Bs).ok w :=
  ⟨HK.rdsl hx, ho, (HK.cap hx).2.2, hn⟩
theorem own_bsi {w0 w : World} {L : List It} (HK : Own w0 w L) {p : Nat} {T : TypeId} {n : Nat} {s : List Int} (hx : Has (.ints p .u8 T n s) L) (ho : okB 256 s) (hn : n ≤ 3000) : (⟨some ⟨p, 0, none⟩, n, n, s⟩ : Bs).ok w :=
  ⟨HK.rd hx, ho, (fun h => by cases h), hn⟩
/-- Parts of a row just made. -/
theorem own_parts {w0 w : World} {L : List It} (HK : Own w0 w L) {p : Nat} {cs : Array Value} {T : TypeId} {fr : Nat × Nat} (hx : Has (.blk p (.cells cs T fr)) L) {bs : List Bs} (hb : cs = (bs.map Bs.val).toArray) : ∀ i b, bs[i]? = some b → ∃ x, some (⟨p, 0, none⟩ : Addr) = some x ∧ w.cell? (x.add i) = some b.val :=
  fun i b hi => ⟨_, rfl, by
    have h := HK.at hx
    subst hb
    rw [Addr.add_mid, Nat.zero_add]
    simp [World.cell?, h, hi]⟩
/-- A literal's row, marked or not. -/
theorem own_lit {w0 w : World} {L : List It} (HK : Own w0 w L) {p : Nat} {T : TypeId} {fr : Nat × Nat} {xs : List Int} {n : Nat} (hx : Has (.blk p (.cells (encK .u8 xs) T fr)) L) (hl : xs.length = n) (ho : okB 256 xs) (hn : n ≤ 3000) : (⟨some ⟨p, 0, none⟩, n, n, xs⟩ : Bs).ok w :=
  ⟨⟨hl, fun i hi => ⟨⟨p, 0, none⟩, rfl, by
    have h := HK.at hx
    have hi' : i < xs.length := by rw [hl]; exact hi
    rw [Addr.add_mid, Nat.zero_add]
    simp [World.cell?, h, encK, hi']⟩⟩, ho, (fun h => by cases h), hn⟩
end Go.Proofs.Ytmankjhopfilaaa
