/- ShaParts, walked. -/
import Derived.Test.YtncdbgpmhkiedaaShaO
import Derived.Test.YtncdbgpmhkiedaaShaG
import Derived.Test.YtncdbgpmhkiedaaShaL
namespace Go.Proofs.Ytncdbgpmhkiedaa
set_option linter.unusedVariables false
set_option linter.unusedSimpArgs false
open Go.RowKit Go.Proofs.YtncdbgpmhkiedaaL

/-- A slice of slices of bytes, as an argument reads. -/
def IsRows (w : World) (a : Option Addr) (len cap : Nat) (A : Nat → Option Addr) (L C : Nat → Nat) (Z : Nat → List Int) : Prop :=
  (a = none ∧ len = 0 ∧ cap = 0) ∨ ∃ x, a = some x ∧ len ≤ cap ∧ cap ≤ maxLen ∧ ∀ r, r < cap → w.cell? (x.add r) = some (.slice (A r) (L r) (C r)) ∧ L r ≤ C r ∧ C r ≤ maxLen ∧ (Z r).length = C r ∧ (∀ n ∈ Z r, 0 ≤ n ∧ n < 256) ∧ (A r = none → C r = 0) ∧
    ∀ a', A r = some a' → ∀ c, c < C r → w.cell? (a'.add c) = some (.int .u8 ((Z r).getD c 0))
def partR (A : Nat → Option Addr) (L C : Nat → Nat) (Z : Nat → List Int) (r : Nat) : Bs := ⟨A r, L r, C r, (Z r).take (L r)⟩
theorem partR_ok {w : World} {x : Addr} {len cap : Nat} {A : Nat → Option Addr} {L C : Nat → Nat} {Z : Nat → List Int} (h : IsRows w (some x) len cap A L C Z) (r : Nat) (hr : r < len) (hL : L r ≤ 100) : (partR A L C Z r).ok w := by
  rcases h with ⟨h, -⟩ | ⟨y, hy, hl, hm, h⟩
  · cases h
  · obtain ⟨h1, h2, h3, h4, h5, h6, h7⟩ := h r (by omega)
    refine ⟨⟨?_, fun i hi => ?_⟩, fun v hv => h5 v (List.mem_of_mem_take hv), h6, (show L r ≤ 3000 by omega)⟩
    · show ((Z r).take (L r)).length = L r
      rw [List.length_take]; omega
    · have hi' : i < L r := hi
      cases ha : A r with
      | none => have := h6 ha; omega
      | some a' => exact ⟨a', ha, by
          rw [h7 a' ha i (by omega)]
          show _ = some (Value.int .u8 (((Z r).take (L r)).getD i 0))
          rw [List.getD_eq_getElem?_getD, List.getD_eq_getElem?_getD, List.getElem?_take_of_lt hi']⟩
def partsR (A : Nat → Option Addr) (L C : Nat → Nat) (Z : Nat → List Int) (n : Nat) : List Bs := (List.range n).map (partR A L C Z)
theorem partsR_succ (A : Nat → Option Addr) (L C : Nat → Nat) (Z : Nat → List Int) (n : Nat) : partsR A L C Z (n + 1) = partsR A L C Z n ++ [partR A L C Z n] := by
  simp [partsR, List.range_succ]
theorem catR_succ (A : Nat → Option Addr) (L C : Nat → Nat) (Z : Nat → List Int) (n : Nat) : catB (partsR A L C Z (n + 1)) = catB (partsR A L C Z n) ++ (Z n).take (L n) := by
  rw [partsR_succ, catB_app]
  show _ ++ (_ ++ []) = _
  rw [List.append_nil]; rfl
theorem lenR_succ (A : Nat → Option Addr) (L C : Nat → Nat) (Z : Nat → List Int) (n : Nat) : lenB (partsR A L C Z (n + 1)) = lenB (partsR A L C Z n) + L n := by
  rw [partsR_succ, lenB_app]; rfl
theorem lenR_le (A : Nat → Option Addr) (L C : Nat → Nat) (Z : Nat → List Int) (n : Nat) (h : ∀ r, r < n → L r ≤ 100) : lenB (partsR A L C Z n) ≤ 100 * n := by
  induction n with
  | zero => simp [partsR, lenB]
  | succ n ih => rw [lenR_succ]; have := h n (by omega); have := ih fun r hr => h r (by omega); omega
theorem partsR_at (A : Nat → Option Addr) (L C : Nat → Nat) (Z : Nat → List Int) (n i : Nat) (b : Bs) (h : (partsR A L C Z n)[i]? = some b) : i < n ∧ b = partR A L C Z i := by
  have hi : i < n := by
    have := (List.getElem?_eq_some_iff.1 h).1
    simpa [partsR] using this
  refine ⟨hi, ?_⟩
  rw [partsR, List.getElem?_map, List.getElem?_range hi] at h
  exact (Option.some.inj h).symm
theorem isRows_keep {w w' : World} {x : Addr} {len cap : Nat} {A : Nat → Option Addr} {L C : Nat → Nat} {Z : Nat → List Int} (h : IsRows w (some x) len cap A L C Z) (g : w.grownBy w' none) : IsRows w' (some x) len cap A L C Z := by
  rcases h with ⟨h, -⟩ | ⟨y, hy, hl, hm, h⟩
  · cases h
  · exact .inr ⟨y, hy, hl, hm, fun r hr => by
      obtain ⟨h1, h2, h3, h4, h5, h6, h7⟩ := h r hr
      exact ⟨g.cell h1 (by simp), h2, h3, h4, h5, h6, fun a' ha c hc => g.cell (h7 a' ha c hc) (by simp)⟩⟩
theorem rows_cell {w : World} {ad : Option Addr} {len cap : Nat} {A : Nat → Option Addr} {L C : Nat → Nat} {Z : Nat → List Int} (h : IsRows w ad len cap A L C Z) {w' : World} (g : w.grownBy w' none) (r : Nat) (hr : r < len) : ∃ x, ad = some x ∧ w'.cell? (x.add r) = some (.slice (A r) (L r) (C r)) := by
  rcases h with ⟨_, h, _⟩ | ⟨y, hy, hl, hm, h⟩
  · omega
  · exact ⟨y, hy, g.cell (h r (by omega)).1 (by simp)⟩
theorem rows_ok {w : World} {ad : Option Addr} {len cap : Nat} {A : Nat → Option Addr} {L C : Nat → Nat} {Z : Nat → List Int} (h : IsRows w ad len cap A L C Z) {w' : World} (g : w.grownBy w' none) (r : Nat) (hr : r < len) (hL : L r ≤ 100) : (partR A L C Z r).ok w' := by
  cases ad with
  | none =>
    rcases h with ⟨_, h, _⟩ | ⟨y, hy, hl, hm, h⟩
    · omega
    · cases hy
  | some x => exact partR_ok (isRows_keep h g) r hr hL
theorem rows_len {w : World} {ad : Option Addr} {len cap : Nat} {A : Nat → Option Addr} {L C : Nat → Nat} {Z : Nat → List Int} (h : IsRows w ad len cap A L C Z) (r : Nat) (hr : r < len) : L r ≤ 9223372036854775807 ∧ ((Z r).take (L r)).length = L r := by
  rcases h with ⟨_, h, _⟩ | ⟨y, hy, hl, hm, h⟩
  · omega
  · have h' := h r (by omega)
    have h1 := h'.2.1
    have h2 := h'.2.2.1
    unfold maxLen at h2
    exact ⟨by omega, by rw [List.length_take, h'.2.2.2.1]; omega⟩
theorem rows_max {w : World} {ad : Option Addr} {len cap : Nat} {A : Nat → Option Addr} {L C : Nat → Nat} {Z : Nat → List Int} (h : IsRows w ad len cap A L C Z) : (len : Int) ≤ 9223372036854775807 := by
  rcases h with ⟨_, h, _⟩ | ⟨y, hy, hl, hm, h⟩
  · omega
  · unfold maxLen at hm; omega

set_option maxHeartbeats 8000000 in
set_option maxRecDepth 100000 in
theorem parts_walk (ad : Option Addr) (len cap : Nat) (A : Nat → Option Addr) (L C : Nat → Nat) (Z : Nat → List Int) (w : World) (hr : IsRows w ad len cap A L C Z) :
    Calls Try.prog 5 #[.slice ad len cap] w fun e w' => e = .returned (.bool true) ∧ w.grownBy w' none := by
  have HC := Lib.hid (fun (w' : World) (g : w.grownBy w' none) (r : Nat) => rows_cell hr g r)
  have HO := Lib.hid (fun (w' : World) (g : w.grownBy w' none) (r : Nat) => rows_ok hr g r)
  have HLN := Lib.hid (fun (r : Nat) => rows_len hr r)
  have h63 := rows_max hr
  clear hr
  have HK := Lib.hid (own_start w)
  go_enter Try.func5, Try.ntmps5
  go_wp2_with fail
  refine (known_any _).mono ?_
  rintro e w1 ⟨rfl, hg⟩
  have hk := HK.out.grow hg
  clear hg
  clear HK
  have HK := Lib.hid hk
  clear hk
  by_cases hbig : (len : Int) > 20
  · go_wp2_with fail
    exact bodyPost_ret (results_tmp rfl _ _ _) rfl ⟨rfl, HK.out.grown⟩
  · have hlen : len ≤ 20 := by omega
    have hlen' : (len : Int) ≤ 20 := by omega
    have hk := HK.out.nil 5 .u8
    clear HK
    have HK := Lib.hid hk
    clear hk
    go_wp2_with fail
    go_loopw [3, 4] (fun v i wr => ∃ (k n : Nat) (a : Option Addr) (c : Nat), k ≤ len ∧ i = .int .i64 k ∧ v = .slice a n c ∧ Hid (n = lenB (partsR A L C Z k)) ∧ Hid (∀ r, r < k → L r ≤ 100) ∧ Hid (Own w wr [.sl 5 .u8 a n c (catB (partsR A L C Z k))])) (fun _ v _ => len - (intOf v).toNat)
    case atStart => exact ⟨0, 0, none, 0, by omega, rfl, rfl, Lib.hid rfl, Lib.hid (fun r hr => by omega), HK⟩
    case round =>
      obtain ⟨k, n, a, c, hk, rfl, rfl, HN, HA, HK'⟩ := hrel
      clear HK
      have HK := HK'
      clear HK'
      by_cases hlt : k < len
      · obtain ⟨x, hx, hc⟩ := HC.out _ HK.out.grown k hlt
        subst hx
        obtain ⟨hL1, hL2⟩ := HLN.out k hlt
        have HOK := Lib.hid (fun (h : L k ≤ 100) => HO.out _ HK.out.grown k hlt h)
        have hnle := lenR_le A L C Z k HA.out
        rw [← HN.out] at hnle
        have hn2 : n ≤ 2000 := by omega
        have HN1 := Lib.hid (show n + L k = lenB (partsR A L C Z (k + 1)) by rw [lenR_succ, HN.out])
        have HC1 := Lib.hid (show catB (partsR A L C Z (k + 1)) = catB (partsR A L C Z k) ++ (Z k).take (L k) from catR_succ A L C Z k)
        obtain ⟨P, hP⟩ : ∃ P, P = catB (partsR A L C Z k) := ⟨_, rfl⟩
        rw [← hP] at HK HC1
        have HP := Lib.hid hP
        obtain ⟨B, hB⟩ : ∃ B, B = partR A L C Z k := ⟨_, rfl⟩
        have HBX := Lib.hid (show B.xs = (Z k).take (L k) by rw [hB]; rfl)
        have HBV := Lib.hid (show B.val = .slice (A k) (L k) (C k) by rw [hB]; rfl)
        have HBO := Lib.hid (fun (h : L k ≤ 100) => show B.ok wr by rw [hB]; exact HOK.out h)
        obtain ⟨ak, hak⟩ : ∃ ak, ak = A k := ⟨_, rfl⟩
        obtain ⟨lk, hlk⟩ : ∃ lk, lk = L k := ⟨_, rfl⟩
        obtain ⟨ck, hck⟩ : ∃ ck, ck = C k := ⟨_, rfl⟩
        obtain ⟨zk, hzk⟩ : ∃ zk, zk = (Z k).take (L k) := ⟨_, rfl⟩
        rw [← hak, ← hlk, ← hck] at hc HBV
        rw [← hzk] at HBX HC1 hL2
        rw [← hlk] at HBO HN1 hL1 hL2
        have HLK := Lib.hid hlk
        have HL2 := Lib.hid hL2
        have hk0 : (0 : Int) ≤ k := by omega
        have hkl : (k : Int) < len := by omega
        have hlk0 : (0 : Int) ≤ lk := by omega
        have hlk1 : (lk : Int) ≤ 9223372036854775807 := by omega
        clear hP hB hak hlk hck hzk hL2 hnle HOK
        by_cases h100 : (lk : Int) > 100
        · go_wp2_with fail
          exact bodyPost_ret (results_tmp rfl _ _ _) rfl ⟨rfl, HK.out.grown⟩
        · have hl100 : lk ≤ 100 := by omega
          have hsrc := Bs.src (HBO.out hl100)
          rw [HBX.out, HBV.out] at hsrc
          have HSRC := Lib.hid hsrc
          clear hsrc
          go_wp2_with (at_builtin; refine wpList_app_own rfl HK.out _ _ 22 rfl 5 (.int .u8 0) 1 Try.underlying22 (by kernel_rfl) rfl .u8 _ _ _ _ rfl (by first | exact Del.here _ | exact Del.next _ (Del.here _) | exact Del.next _ (Del.next _ (Del.here _)) | exact Del.next _ (Del.next _ (Del.next _ (Del.here _))) | exact Del.next _ (Del.next _ (Del.next _ (Del.next _ (Del.here _)))) | exact Del.next _ (Del.next _ (Del.next _ (Del.next _ (Del.next _ (Del.here _))))) | exact Del.next _ (Del.next _ (Del.next _ (Del.next _ (Del.next _ (Del.next _ (Del.here _)))))) | exact Del.next _ (Del.next _ (Del.next _ (Del.next _ (Del.next _ (Del.next _ (Del.next _ (Del.here _))))))) | exact Del.next _ (Del.next _ (Del.next _ (Del.next _ (Del.next _ (Del.next _ (Del.next _ (Del.next _ (Del.here _)))))))) | exact Del.next _ (Del.next _ (Del.next _ (Del.next _ (Del.next _ (Del.next _ (Del.next _ (Del.next _ (Del.next _ (Del.here _)))))))))) _ lk zk rfl HL2.out HSRC.out (by unfold maxLen; omega) (by omega) ?_)
          intro a2 c2 w3 hk
          rw [← HC1.out] at hk
          clear HK
          have HK := Lib.hid hk
          clear hk
          clear hc
          go_wp2_with fail
          exact ⟨⟨k + 1, n + lk, a2, c2, by omega, by go_num, rfl, Lib.hid HN1.out, Lib.hid (fun r hr => by
            by_cases e : r = k
            · rw [e, ← HLK.out]; exact hl100
            · exact HA.out r (by omega)), HK⟩, by simp [intOf]; omega⟩
      · have hkl : k = len := by omega
        subst hkl
        clear hlt hk
        have hnle := lenR_le A L C Z k HA.out
        rw [← HN.out] at hnle
        have hn2 : n ≤ 2000 := by omega
        have HC' := Lib.hid (fun (w' : World) (g : w.grownBy w' none) (i : Nat) (b : Bs) (h : (partsR A L C Z k)[i]? = some b) => show ∃ x, ad = some x ∧ w'.cell? (x.add i) = some b.val by
          obtain ⟨hi, rfl⟩ := partsR_at A L C Z k i b h
          exact HC.out w' g i hi)
        have HO' := Lib.hid (fun (w' : World) (g : w.grownBy w' none) (b : Bs) (h : b ∈ partsR A L C Z k) => show b.ok w' by
          obtain ⟨i, hi⟩ := List.getElem?_of_mem h
          obtain ⟨hi2, rfl⟩ := partsR_at A L C Z k i b hi
          exact HO.out w' g i hi2 (HA.out i hi2))
        have HPL := Lib.hid (show (partsR A L C Z k).length = k by simp [partsR])
        have hpo := ok_catB (partsR A L C Z k) (HO'.out _ HK.out.grown)
        obtain ⟨Ps, hPs⟩ : ∃ Ps, Ps = partsR A L C Z k := ⟨_, rfl⟩
        obtain ⟨P, hP⟩ : ∃ P, P = catB Ps := ⟨_, rfl⟩
        rw [← hPs] at HK HC' HO' HPL hpo
        rw [← hP] at HK hpo
        have HPO := Lib.hid hpo
        have HP := Lib.hid hP
        have HB := Lib.hid (fun (w' : World) (hk : Own w w' [.sl 5 .u8 a n c P]) => (show (⟨a, n, c, P⟩ : Bs).ok w' from ⟨hk.rdsl (.here _), HPO.out, (hk.cap (.here _)).2.2, (show n ≤ 3000 by omega)⟩))
        obtain ⟨S, hS⟩ : ∃ S, S = sum32 P := ⟨_, rfl⟩
        obtain ⟨T, hT⟩ : ∃ T, T = sum64 P := ⟨_, rfl⟩
        have HSL := Lib.hid (show S.length = 32 by rw [hS, length_sum32])
        have HTL := Lib.hid (show T.length = 64 by rw [hT, length_sum64])
        have HS := Lib.hid hS
        have HT := Lib.hid hT
        clear hS hT hP hPs hpo hnle HN HA HC HO HLN
        have hk30 : k ≤ 30 := by omega
        go_wp2_with fail
        refine (sum256_any ad k cap Ps _ HPL.out (HC'.out _ HK.out.grown) (HO'.out _ HK.out.grown) hk30).mono ?_
        rintro e wn ⟨rfl, hg⟩
        have hk := HK.out.grow hg
        clear hg
        clear HK
        have HK := Lib.hid hk
        clear hk
        rw [← HP.out, ← HS.out]
        go_wp2_with fail
        refine (rsum256_any ⟨a, n, c, P⟩ _ (HB.out _ HK.out)).mono ?_
        rintro e wn ⟨rfl, hg⟩
        have hk := HK.out.grow hg
        clear hg
        clear HK
        have HK := Lib.hid hk
        clear hk
        rw [← HS.out]
        go_wp2_with (refine wpList_eql rfl 25 _ _ _ rfl 32 _ .u8 Try.underlying25 Try.underlying5 (by kernel_rfl) (by kernel_rfl) S S rfl rfl HSL.out HSL.out true (by simp) ?_)
        refine (sum512_any ad k cap Ps _ HPL.out (HC'.out _ HK.out.grown) (HO'.out _ HK.out.grown) hk30).mono ?_
        rintro e wn ⟨rfl, hg⟩
        have hk := HK.out.grow hg
        clear hg
        clear HK
        have HK := Lib.hid hk
        clear hk
        rw [← HP.out, ← HT.out]
        go_wp2_with fail
        refine (rsum512_any ⟨a, n, c, P⟩ _ (HB.out _ HK.out)).mono ?_
        rintro e wn ⟨rfl, hg⟩
        have hk := HK.out.grow hg
        clear hg
        clear HK
        have HK := Lib.hid hk
        clear hk
        rw [← HT.out]
        go_wp2_with (refine wpList_eql rfl 27 _ _ _ rfl 64 _ .u8 Try.underlying27 Try.underlying5 (by kernel_rfl) (by kernel_rfl) T T rfl rfl HTL.out HTL.out true (by simp) ?_)
        obtain ⟨sb, hsb⟩ : ∃ sb, wn.heap.size = sb := ⟨_, rfl⟩
        have hkb := HK.out.blk (.cells #[Value.slice a n c] 22 (0, 0)) hsb
        rw [hsb]
        clear hsb
        generalize wn.alloc (.cells #[Value.slice a n c] 22 (0, 0)) = wn at hkb ⊢
        clear HK
        have HK := Lib.hid hkb
        clear hkb
        refine (sum256_row _ [⟨a, n, c, P⟩] 1 _ (HK.out.at (.here _)) (fun b hb => by rw [List.mem_singleton] at hb; subst hb; exact HB.out _ (HK.out.sub (List.Sublist.cons _ (List.Sublist.refl _)))) rfl (by decide)).mono ?_
        rintro e wn ⟨rfl, hg⟩
        rw [show catB [(⟨a, n, c, P⟩ : Bs)] = P from List.append_nil _, ← HS.out]
        have hkb := (HK.out.sub (List.Sublist.cons _ (List.Sublist.refl _))).grow hg
        clear hg
        clear HK
        have HK := Lib.hid hkb
        clear hkb
        go_wp2_with fail
        refine (sum256_any ad k cap Ps _ HPL.out (HC'.out _ HK.out.grown) (HO'.out _ HK.out.grown) hk30).mono ?_
        rintro e wn ⟨rfl, hg⟩
        have hk := HK.out.grow hg
        clear hg
        clear HK
        have HK := Lib.hid hk
        clear hk
        rw [← HP.out, ← HS.out]
        go_wp2_with (refine wpList_eql rfl 25 _ _ _ rfl 32 _ .u8 Try.underlying25 Try.underlying5 (by kernel_rfl) (by kernel_rfl) S S rfl rfl HSL.out HSL.out true (by simp) ?_)
        exact bodyPost_ret (results_tmp rfl _ _ _) rfl ⟨rfl, HK.out.grown⟩
end Go.Proofs.Ytncdbgpmhkiedaa
