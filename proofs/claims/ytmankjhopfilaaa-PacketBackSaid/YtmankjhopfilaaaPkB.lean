/- The checksum: the program's, folded at each step, the reference's, folded at the end. -/
import Derived.Test.YtmankjhopfilaaaPkA
namespace Go.Proofs.Ytmankjhopfilaaa
set_option linter.unusedVariables false
set_option linter.unusedSimpArgs false
open Go.RowKit Go.Proofs.YtmankjhopfilaaaL

theorem u32_and16 (x : Int) (h0 : 0 ≤ x) (h1 : x < 4294967296) : bits .and .u32 x 65535 = x % 65536 := by
  obtain ⟨X, rfl⟩ := Int.eq_ofNat_of_zero_le h0
  rw [show (65535 : Int) = ((2 ^ 16 - 1 : Nat) : Int) from rfl, u32_and_nat X _ (by omega) (by decide), Nat.and_two_pow_sub_one_eq_mod]
  rfl
theorem u64_and16 (x : Int) (h0 : 0 ≤ x) (h1 : x < 18446744073709551616) : bits .and .u64 x 65535 = x % 65536 := by
  obtain ⟨X, rfl⟩ := Int.eq_ofNat_of_zero_le h0
  rw [u64_and _ 65535 h0 h1 (by decide) (by decide), Int.toNat_natCast, show (65535 : Int).toNat = 2 ^ 16 - 1 from rfl, Nat.and_two_pow_sub_one_eq_mod]
  rfl
theorem not16 (y : Int) (h0 : 0 ≤ y) (h1 : y ≤ 65535) : bits .xor .u16 IntKind.u16.max y = 65535 - y := by
  obtain ⟨Y, rfl⟩ := Int.eq_ofNat_of_zero_le h0
  have hY : Y < 2 ^ 16 := by omega
  rw [show IntKind.u16.max = ((65535 : Nat) : Int) from rfl, u16_xor_nat _ _ (by decide) (by omega)]
  have e : (BitVec.allOnes 16 ^^^ BitVec.ofNat 16 Y).toNat = (~~~ BitVec.ofNat 16 Y).toNat := by rw [BitVec.allOnes_xor]
  rw [BitVec.toNat_xor, BitVec.toNat_not, BitVec.toNat_allOnes, BitVec.toNat_ofNat, Nat.mod_eq_of_lt hY] at e
  rw [show 65535 = 2 ^ 16 - 1 from rfl, e]
  omega
/-- The sum of the first k bytes, by twos. -/
def tot (xs : List Int) : Nat → Int
  | 0 => 0
  | k + 1 => tot xs k + (if k % 2 = 0 then xs.getD k 0 * 256 else xs.getD k 0)
def fold16 (T : Int) : Int := if T = 0 then 0 else (T - 1) % 65535 + 1
def csum (xs : List Int) : Int := 65535 - fold16 (tot xs xs.length)
theorem tot_even (xs : List Int) (k : Nat) (h : k % 2 = 0) : tot xs (k + 1) = tot xs k + xs.getD k 0 * 256 := by rw [tot, if_pos h]
theorem tot_odd (xs : List Int) (k : Nat) (h : ¬ k % 2 = 0) : tot xs (k + 1) = tot xs k + xs.getD k 0 := by rw [tot, if_neg h]
theorem tot_range {xs : List Int} (ho : okB 256 xs) : ∀ k, 0 ≤ tot xs k ∧ tot xs k ≤ 65280 * k
  | 0 => ⟨Int.le_refl _, Int.le_refl _⟩
  | k + 1 => by
    have h := tot_range ho k
    have hc := ok_getD (by decide) ho k
    rw [tot]; split <;> omega
theorem fold16_range (T : Int) : 0 ≤ fold16 T ∧ fold16 T ≤ 65535 := by unfold fold16; split <;> omega
theorem fold16_step (T d y : Int) (hy : y = fold16 T) (hT : 0 ≤ T) (hd : 0 ≤ d) (hd1 : d ≤ 65280) : (y + d) % 65536 + (y + d) / 65536 = fold16 (T + d) := by
  subst hy
  unfold fold16
  split
  · split <;> omega
  · rw [if_neg (by omega)]; omega
theorem fold16_once (T : Int) (hT : 0 ≤ T) : fold16 (T % 65536 + T / 65536) = fold16 T := by
  unfold fold16
  by_cases h : T = 0
  · subst h; rfl
  · rw [if_neg h, if_neg (by omega)]; omega
theorem fold16_small (T : Int) (hT : 0 ≤ T) (h : T < 65536) : fold16 T = T := by
  unfold fold16
  split <;> omega

set_option maxHeartbeats 8000000 in
set_option maxRecDepth 100000 in
theorem sum_any (ad : Option Addr) (len cap : Nat) (L : List Bs) (w : World) (hl : L.length = len) (hcell : ∀ i b, L[i]? = some b → ∃ x, ad = some x ∧ w.cell? (x.add i) = some b.val) (hok : ∀ b ∈ L, b.ok w) (hlen : len ≤ 30) (hob : okB 256 (catB L)) :
    Calls Try.prog 20 #[.slice ad len cap] w fun e w' => e = .returned (.int .u16 (csum (catB L))) ∧ w.grownBy w' none := by
  have HCAT := Lib.hid (concat_any ad len cap L w hl hcell hok hlen)
  have hm := lenB_le L hok
  have hm2 : lenB L ≤ 100000 := by omega
  have HML := Lib.hid (length_catB L hok)
  obtain ⟨n, hn⟩ : ∃ n, n = lenB L := ⟨_, rfl⟩
  obtain ⟨xs, hxs⟩ : ∃ xs, xs = catB L := ⟨_, rfl⟩
  rw [← hn, ← hxs] at HML HCAT
  rw [← hn] at hm2
  rw [← hxs] at hob ⊢
  have HO := Lib.hid hob
  clear hl hcell hok hlen hm hn hxs hob
  have HK := Lib.hid (own_start w)
  go_enter Try.func20, Try.ntmps20
  go_wp2_with fail
  refine HCAT.out.mono ?_
  rintro e w1 ⟨v, rfl, ho, hg⟩
  obtain ⟨a, c, rfl, hk⟩ := HK.out.sl hg ho
  clear ho hg
  clear HK
  have HK := Lib.hid hk
  clear hk
  have HX := Lib.hid (HK.out.rdsl (.here _))
  have hn0 : (0 : Int) ≤ n := by omega
  have hn1 : (n : Int) ≤ 100000 := by omega
  go_wp2_with fail
  go_loopw [3, 9] (fun v i wr => ∃ (j : Nat), j ≤ n ∧ i = .int .i64 j ∧ v = .int .u32 (fold16 (tot xs j)) ∧ Hid (wr = w1)) (fun _ v _ => n - (intOf v).toNat)
  case atStart => exact ⟨0, by omega, rfl, rfl, Lib.hid rfl⟩
  case round =>
    obtain ⟨j, hj, rfl, rfl, HW⟩ := hrel
    have hw := HW.out
    subst hw
    clear HW
    by_cases hlt : j < n
    · obtain ⟨x, hx, -⟩ := HX.out.2 j hlt
      subst hx
      have hj0 : (0 : Int) ≤ j := by omega
      have hj1 : (j : Int) < n := by omega
      have hr := fold16_range (tot xs j)
      have HT := Lib.hid (tot_range HO.out j).1
      have c0 := rdx_at HX.out j hlt
      have hc := ok_getD (by decide) HO.out j
      by_cases hp : j % 2 = 0
      · have hpi : (j : Int) % 2 = 0 := by omega
        have HN := Lib.hid (show tot xs (j + 1) = tot xs j + xs.getD j 0 * 256 from tot_even xs j hp)
        clear hp
        have HF := Lib.hid (fun d => fold16_step (tot xs j) d _ rfl HT.out)
        obtain ⟨y, hy⟩ : ∃ y, y = fold16 (tot xs j) := ⟨_, rfl⟩
        obtain ⟨z, hz⟩ : ∃ z, z = xs.getD j 0 := ⟨_, rfl⟩
        rw [← hy] at hr HF ⊢
        rw [← hz] at HN c0 hc
        clear hy hz
        obtain ⟨r0, r1⟩ := hr
        obtain ⟨r2, r3⟩ := hc
        have hand : bits .and .u32 (y + z * 256) 65535 = (y + z * 256) % 65536 := u32_and16 _ (by omega) (by omega)
        go_wp2_with fail
        exact ⟨⟨j + 1, by omega, by go_num, by rw [HF.out _ (by omega) (by omega), HN.out], Lib.hid trivial⟩, by simp only [intOf]; omega⟩
      · have hpi : (j : Int) % 2 = 1 := by omega
        have HN := Lib.hid (show tot xs (j + 1) = tot xs j + xs.getD j 0 from tot_odd xs j hp)
        clear hp
        have HF := Lib.hid (fun d => fold16_step (tot xs j) d _ rfl HT.out)
        obtain ⟨y, hy⟩ : ∃ y, y = fold16 (tot xs j) := ⟨_, rfl⟩
        obtain ⟨z, hz⟩ : ∃ z, z = xs.getD j 0 := ⟨_, rfl⟩
        rw [← hy] at hr HF ⊢
        rw [← hz] at HN c0 hc
        clear hy hz
        obtain ⟨r0, r1⟩ := hr
        obtain ⟨r2, r3⟩ := hc
        have hand : bits .and .u32 (y + z) 65535 = (y + z) % 65536 := u32_and16 _ (by omega) (by omega)
        go_wp2_with fail
        exact ⟨⟨j + 1, by omega, by go_num, by rw [HF.out _ (by omega) (by omega), HN.out], Lib.hid trivial⟩, by simp only [intOf]; omega⟩
    · have hj2 : j = n := by omega
      subst hj2
      have hr := fold16_range (tot xs j)
      have HCS := Lib.hid (show csum xs = 65535 - fold16 (tot xs j) by rw [csum, HML.out])
      obtain ⟨y, hy⟩ : ∃ y, y = fold16 (tot xs j) := ⟨_, rfl⟩
      rw [← hy] at hr HCS ⊢
      clear hy
      obtain ⟨r0, r1⟩ := hr
      go_wp2_with fail
      exact bodyPost_ret (results_tmp rfl _ _ _) rfl ⟨by rw [HCS.out, ← not16 y r0 r1]; rfl, HK.out.grown⟩

set_option maxHeartbeats 8000000 in
set_option maxRecDepth 100000 in
theorem rsum_any (a : Option Addr) (n c : Nat) (xs : List Int) (w : World) (h : Rd .u8 w a n xs) (ho : okB 256 xs) (hn : n ≤ 100000) :
    Calls Try.prog 21 #[.slice a n c] w fun e w' => e = .returned (.int .u16 (csum xs)) ∧ w' = w := by
  have hl := h.1
  have HL := Lib.hid hl
  have HX := Lib.hid h
  have HO := Lib.hid ho
  clear h ho hl
  have hn0 : (0 : Int) ≤ n := by omega
  have hn1 : (n : Int) ≤ 100000 := by omega
  go_enter Try.func21, Try.ntmps21
  go_wp2_with fail
  go_loopw [3, 4] (fun v i wr => ∃ (j : Nat), j ≤ n ∧ i = .int .i64 j ∧ v = .int .u64 (tot xs j) ∧ Hid (wr = w)) (fun _ v _ => n - (intOf v).toNat)
  case atStart => exact ⟨0, by omega, rfl, rfl, Lib.hid rfl⟩
  case round =>
    obtain ⟨j, hj, rfl, rfl, HW⟩ := hrel
    have hw := HW.out
    subst hw
    clear HW
    by_cases hlt : j < n
    · obtain ⟨x, hx, -⟩ := HX.out.2 j hlt
      subst hx
      have hj0 : (0 : Int) ≤ j := by omega
      have hj1 : (j : Int) < n := by omega
      have hr := tot_range HO.out j
      have hr : 0 ≤ tot xs j ∧ tot xs j ≤ 6528000000 := ⟨hr.1, by omega⟩
      have c0 := rdx_at HX.out j hlt
      have hc := ok_getD (by decide) HO.out j
      by_cases hp : j % 2 = 0
      · have hpi : (j : Int) % 2 = 0 := by omega
        have HN := Lib.hid (show tot xs (j + 1) = tot xs j + xs.getD j 0 * 256 from tot_even xs j hp)
        clear hp
        obtain ⟨y, hy⟩ : ∃ y, y = tot xs j := ⟨_, rfl⟩
        obtain ⟨z, hz⟩ : ∃ z, z = xs.getD j 0 := ⟨_, rfl⟩
        rw [← hy] at hr HN ⊢
        rw [← hz] at HN c0 hc
        clear hy hz
        obtain ⟨r0, r1⟩ := hr
        obtain ⟨r2, r3⟩ := hc
        go_wp2_with fail
        exact ⟨⟨j + 1, by omega, by go_num, by rw [HN.out], Lib.hid trivial⟩, by simp only [intOf]; omega⟩
      · have hpi : (j : Int) % 2 = 1 := by omega
        have HN := Lib.hid (show tot xs (j + 1) = tot xs j + xs.getD j 0 from tot_odd xs j hp)
        clear hp
        obtain ⟨y, hy⟩ : ∃ y, y = tot xs j := ⟨_, rfl⟩
        obtain ⟨z, hz⟩ : ∃ z, z = xs.getD j 0 := ⟨_, rfl⟩
        rw [← hy] at hr HN ⊢
        rw [← hz] at HN c0 hc
        clear hy hz
        obtain ⟨r0, r1⟩ := hr
        obtain ⟨r2, r3⟩ := hc
        go_wp2_with fail
        exact ⟨⟨j + 1, by omega, by go_num, by rw [HN.out], Lib.hid trivial⟩, by simp only [intOf]; omega⟩
    · have hj2 : j = n := by omega
      subst hj2
      have hr := tot_range HO.out j
      have hr : 0 ≤ tot xs j ∧ tot xs j ≤ 6528000000 := ⟨hr.1, by omega⟩
      have HCS := Lib.hid (show csum xs = 65535 - fold16 (tot xs j) by rw [csum, HL.out])
      obtain ⟨y, hy⟩ : ∃ y, y = tot xs j := ⟨_, rfl⟩
      rw [← hy] at hr HCS ⊢
      clear hy
      obtain ⟨r0, r1⟩ := hr
      go_wp2_with fail
      go_loopw [3] (fun v wq => ∃ (T : Int), v = .int .u64 T ∧ Hid (0 ≤ T ∧ T ≤ 6528000000 ∧ fold16 T = fold16 y) ∧ Hid (wq = wr)) (fun v _ => (intOf v).toNat)
      case atStart => exact ⟨y, rfl, Lib.hid ⟨r0, r1, rfl⟩, Lib.hid rfl⟩
      case round =>
        obtain ⟨T, rfl, HT, HW⟩ := hrel
        have hw := HW.out
        subst hw
        clear HW
        obtain ⟨t0, t1, t2⟩ := HT.out
        have HT2 := Lib.hid t2
        clear t2 HT r0 r1
        by_cases hlt : T < 65536
        · have hbb : ((T / 65536 : Int) != 0) = false := by simp; omega
          go_wp2_with fail
          exact bodyPost_ret (results_tmp rfl _ _ _) rfl ⟨by rw [HCS.out, ← HT2.out, fold16_small T t0 hlt, ← not16 T t0 (by omega)]; rfl, rfl⟩
        · have hbb : ((T / 65536 : Int) != 0) = true := by simp; omega
          have hand : bits .and .u64 T 65535 = T % 65536 := u64_and16 _ (by omega) (by omega)
          go_wp2_with fail
          exact ⟨⟨_, rfl, Lib.hid ⟨by omega, by omega, by rw [fold16_once T t0, HT2.out]⟩, Lib.hid trivial⟩, by simp only [intOf]; omega⟩
end Go.Proofs.Ytmankjhopfilaaa
