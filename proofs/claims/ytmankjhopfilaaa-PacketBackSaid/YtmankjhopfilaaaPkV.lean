/- Plain laws of packets: what is written of what was read. -/
import Derived.Test.YtmankjhopfilaaaPkO
import Derived.Test.YtmankjhopfilaaaPkT
namespace Go.Proofs.Ytmankjhopfilaaa
set_option linter.unusedVariables false
set_option linter.unusedSimpArgs false
open Go.RowKit Go.Proofs.YtmankjhopfilaaaL

theorem sec_eq (xs : List Int) (l h : Nat) : sec xs l h = (xs.drop l).take (h - l) := List.drop_take
theorem sec_app (xs : List Int) (a b c : Nat) (h1 : a ≤ b) (h2 : b ≤ c) : sec xs a b ++ sec xs b c = sec xs a c := by
  rw [sec_eq, sec_eq, sec_eq, show c - a = (b - a) + (c - b) by omega, List.take_add, List.drop_drop, show a + (b - a) = b by omega]
theorem sec_zero (xs : List Int) (b : Nat) : sec xs 0 b = xs.take b := by rw [sec, List.drop_zero]
theorem sec_drop (xs : List Int) (a b : Nat) (h : a ≤ b) : sec xs a b ++ xs.drop b = xs.drop a := by
  rw [sec_eq, show xs.drop b = (xs.drop a).drop (b - a) by rw [List.drop_drop, show a + (b - a) = b by omega], List.take_append_drop]
theorem sec_one (xs : List Int) (i : Nat) (h : i < xs.length) : sec xs i (i + 1) = [xs.getD i 0] := by
  rw [sec_eq, show i + 1 - i = 1 by omega, List.drop_eq_getElem_cons h, List.getD_eq_getElem?_getD, List.getElem?_eq_getElem h]
  rfl
theorem fold_acc : ∀ (t : List Int) (a : Int), t.foldl (fun n c => n * 256 + c) a = a * 256 ^ t.length + t.foldl (fun n c => n * 256 + c) 0
  | [], a => by simp
  | x :: t, a => by
    rw [List.foldl_cons, List.foldl_cons, fold_acc t (a * 256 + x), fold_acc t (0 * 256 + x), List.length_cons, Int.pow_succ, Int.add_mul, Int.mul_assoc, Int.mul_comm 256 (256 ^ t.length), Int.zero_mul, Int.zero_add, Int.add_assoc]
theorem beV_cons (x : Int) (t : List Int) : beV (x :: t) = x * 256 ^ t.length + beV t := by
  unfold beV
  rw [List.foldl_cons, fold_acc, Int.zero_mul, Int.zero_add]
theorem pow256_pos (k : Nat) : (0 : Int) < 256 ^ k := Int.pow_pos (by decide)
theorem beB_low (x V : Int) : ∀ (j k : Nat), j ≤ k → beB (x * 256 ^ k + V) j = beB V j
  | 0, k, _ => rfl
  | j + 1, k, h => by
    rw [beB, beB, beB_low x V j k (by omega)]
    congr 1
    obtain ⟨d, rfl⟩ : ∃ d, k = d + 1 + j := ⟨k - 1 - j, by omega⟩
    rw [Int.pow_add, Int.pow_succ, ← Int.mul_assoc, ← Int.mul_assoc, Int.add_comm, Int.add_mul_ediv_right _ _ (Int.ne_of_gt (pow256_pos j)), Int.add_mul_emod_self_right]
theorem beB_beV : ∀ (s : List Int), okB 256 s → beB (beV s) s.length = s
  | [], _ => rfl
  | x :: t, ho => by
    have ht : okB 256 t := fun y hy => ho y (List.mem_cons_of_mem _ hy)
    have hx := ho x List.mem_cons_self
    have hr := beV_range t.length t rfl ht
    rw [List.length_cons, beB, beV_cons, beB_low _ _ _ _ (Nat.le_refl _), beB_beV t ht, Int.add_comm, Int.add_mul_ediv_right _ _ (Int.ne_of_gt (pow256_pos _)), Int.ediv_eq_zero_of_lt hr.1 hr.2]
    congr 1
    omega
theorem beV_beB : ∀ (k : Nat) (n : Int), 0 ≤ n → n < 256 ^ k → beV (beB n k) = n
  | 0, n, h0, h1 => by
    have : n < 1 := h1
    show (0 : Int) = n
    omega
  | k + 1, n, h0, h1 => by
    have hp := pow256_pos k
    have e : n = n / 256 ^ k * 256 ^ k + n % 256 ^ k := by rw [Int.mul_comm]; exact (Int.mul_ediv_add_emod n (256 ^ k)).symm
    have hm0 := Int.emod_nonneg n (Int.ne_of_gt hp)
    have hm1 := Int.emod_lt_of_pos n hp
    have hq0 := Int.ediv_nonneg h0 (Int.le_of_lt hp)
    have hq1 : n / 256 ^ k < 256 := Int.ediv_lt_of_lt_mul hp (by rw [Int.mul_comm, ← Int.pow_succ]; exact h1)
    rw [beB, beV_cons, length_beB]
    have e2 : beB n k = beB (n % 256 ^ k) k := by
      have := beB_low (n / 256 ^ k) (n % 256 ^ k) k k (Nat.le_refl _)
      rwa [← e] at this
    rw [e2, beV_beB k _ hm0 hm1, Int.emod_eq_of_lt hq0 hq1]
    exact e.symm
/-- A byte put in another's place, in the sum. -/
theorem tot_set (xs : List Int) (i : Nat) (v : Int) (hi : i < xs.length) : ∀ k, tot (xs.set i v) k = tot xs k + (if i < k then (v - xs.getD i 0) * (if i % 2 = 0 then 256 else 1) else 0)
  | 0 => by simp [tot]
  | k + 1 => by
    have hg : (xs.set i v).getD k 0 = if i = k then v else xs.getD k 0 := by
      rw [List.getD_eq_getElem?_getD, List.getD_eq_getElem?_getD]
      by_cases h : i = k
      · subst h; rw [List.getElem?_set_self hi, if_pos rfl]; rfl
      · rw [List.getElem?_set_ne h, if_neg h]
    rw [tot, tot, tot_set xs i v hi k, hg]
    by_cases h : i = k
    · subst h
      rw [if_pos rfl, if_neg (Nat.lt_irrefl i), if_pos (Nat.lt_succ_self i)]
      by_cases hp : i % 2 = 0
      · simp only [if_pos hp]; omega
      · simp only [if_neg hp]; omega
    · rw [if_neg h]
      generalize (if k % 2 = 0 then xs.getD k 0 * 256 else xs.getD k 0) = z
      generalize (v - xs.getD i 0) * (if i % 2 = 0 then 256 else 1) = y
      by_cases h2 : i < k
      · rw [if_pos h2, if_pos (show i < k + 1 by omega)]; omega
      · rw [if_neg h2, if_neg (show ¬ i < k + 1 by omega)]; omega
theorem getD_set_ne (xs : List Int) (i j : Nat) (v : Int) (h : i ≠ j) : (xs.set i v).getD j 0 = xs.getD j 0 := by
  rw [List.getD_eq_getElem?_getD, List.getD_eq_getElem?_getD, List.getElem?_set_ne h]
theorem getD_set_self (xs : List Int) (i : Nat) (v : Int) (h : i < xs.length) : (xs.set i v).getD i 0 = v := by
  rw [List.getD_eq_getElem?_getD, List.getElem?_set_self h]; rfl
theorem take_set_lt (xs : List Int) (i k : Nat) (v : Int) (h : i < k) : (xs.set i v).take k = (xs.take k).set i v := List.take_set ..
theorem tot_pos {xs : List Int} (ho : okB 256 xs) (h0 : 0 < xs.getD 0 0) : ∀ k, 0 < k → 0 < tot xs k
  | 1, _ => by
    show 0 < (0 : Int) + xs.getD 0 0 * 256
    omega
  | k + 2, _ => by
    have := tot_pos ho h0 (k + 1) (by omega)
    have hc := ok_getD (by decide) ho (k + 1)
    rw [tot]; split <;> omega
/-- A head whose sum is right sums up to nothing. -/
theorem sum_right (xs : List Int) (hl : 20 ≤ xs.length) (ho : okB 256 xs) (h0 : 0 < xs.getD 0 0) (h : sumdL xs = xs) : csum (xs.take 20) = 0 := by
  obtain ⟨X, hX⟩ : ∃ X, X = xs.take 20 := ⟨_, rfl⟩
  have hXl : X.length = 20 := by rw [hX, List.length_take]; omega
  have hXo : okB 256 X := by rw [hX]; exact ok_take ho 20
  have hz : (zerd xs).take 20 = (X.set 10 0).set 11 0 := by rw [zerd, take_set_lt _ _ _ _ (by decide), take_set_lt _ _ _ _ (by decide), hX]
  have hzo : okB 256 ((X.set 10 0).set 11 0) := ok_set (ok_set hXo _ _ (by decide) (by decide)) _ _ (by decide) (by decide)
  have hx0 : 0 < ((X.set 10 0).set 11 0).getD 0 0 := by
    rw [getD_set_ne _ _ _ _ (by decide), getD_set_ne _ _ _ _ (by decide), hX, List.getD_eq_getElem?_getD, List.getElem?_take_of_lt (by decide), ← List.getD_eq_getElem?_getD]; exact h0
  have hT := tot_pos hzo hx0 20 (by decide)
  have e1 := tot_set (X.set 10 0) 11 0 (by rw [List.length_set]; omega) 20
  have e2 := tot_set X 10 0 (by omega) 20
  rw [getD_set_ne _ _ _ _ (by decide), if_pos (by decide), if_neg (by decide)] at e1
  rw [if_pos (by decide), if_pos (by decide)] at e2
  have hs := csum_range ((X.set 10 0).set 11 0)
  have g (i : Nat) (hi : i < 2) : xs.getD (10 + i) 0 = (beB (csum ((X.set 10 0).set 11 0)) 2).getD i 0 := by
    have : (sumdL xs).getD (10 + i) 0 = xs.getD (10 + i) 0 := by rw [h]
    rw [← this, sumdL, hz, List.append_assoc, List.getD_eq_getElem?_getD, List.getElem?_append_right (by rw [List.length_take, length_zerd]; omega), List.length_take, length_zerd, Nat.min_eq_left (by omega), show 10 + i - 10 = i by omega, List.getElem?_append_left (by rw [length_beB]; exact hi), ← List.getD_eq_getElem?_getD]
  have gX (i : Nat) (hi : i < 20) : X.getD i 0 = xs.getD i 0 := by rw [hX, List.getD_eq_getElem?_getD, List.getElem?_take_of_lt hi, ← List.getD_eq_getElem?_getD]
  have g0 := g 0 (by decide)
  have g1 := g 1 (by decide)
  rw [show (10 + 0 : Nat) = 10 from rfl, ← gX 10 (by decide)] at g0
  rw [show (10 + 1 : Nat) = 11 from rfl, ← gX 11 (by decide)] at g1
  have d0 : (beB (csum ((X.set 10 0).set 11 0)) 2).getD 0 0 = csum ((X.set 10 0).set 11 0) / 256 % 256 := rfl
  have d1 : (beB (csum ((X.set 10 0).set 11 0)) 2).getD 1 0 = csum ((X.set 10 0).set 11 0) / 1 % 256 := rfl
  rw [d0] at g0
  rw [d1] at g1
  have hzl : ((X.set 10 0).set 11 0).length = 20 := by rw [List.length_set, List.length_set, hXl]
  have hS : csum ((X.set 10 0).set 11 0) = 65535 - fold16 (tot ((X.set 10 0).set 11 0) 20) := by rw [csum, hzl]
  rw [← hX, csum, hXl]
  generalize csum ((X.set 10 0).set 11 0) = S at *
  generalize tot ((X.set 10 0).set 11 0) 20 = T at *
  generalize tot (X.set 10 0) 20 = T1 at *
  generalize tot X 20 = T2 at *
  have e3 : T2 = T + S := by omega
  subst e3
  rw [fold16, if_neg (by omega)] at hS
  rw [fold16, if_neg (by omega)]
  omega

theorem ok_get {xs : List Int} (ho : okB 256 xs) (i : Nat) : 0 ≤ xs.getD i 0 ∧ xs.getD i 0 < 256 := ok_getD (by decide) ho i
theorem beB_sec (xs : List Int) (a b k : Nat) (ho : okB 256 xs) (hb : b ≤ xs.length) (hk : b - a = k) : beB (beV (sec xs a b)) k = sec xs a b := by
  have h := beB_beV (sec xs a b) (ok_sec ho a b)
  rwa [length_sec _ _ _ hb, hk] at h
theorem ad4_sec (xs : List Int) (l : Nat) : ad4 (xs.drop l) = ad4 (sec xs l (l + 4)) := by
  rw [ad4, ad4, sec_eq, show l + 4 - l = 4 by omega, List.take_take]
  rfl
theorem ad6_sec (xs : List Int) (l : Nat) : ad6 (xs.drop l) = ad6 (sec xs l (l + 16)) := by
  rw [ad6, ad6, sec_eq, show l + 16 - l = 16 by omega, List.take_take, List.drop_take, List.take_take]
  rfl
theorem ad4_bytes (s : List Int) (h : s.length = 4) (ho : okB 256 s) : (ad4 s).bytes = s := by
  show beB (beV (s.take 4) * 4294967296 / 4294967296) 4 = s
  rw [Int.mul_ediv_cancel _ (by decide), List.take_of_length_le (Nat.le_of_eq h)]
  have := beB_beV s ho
  rwa [h] at this
theorem ad6_bytes (s : List Int) (h : s.length = 16) (ho : okB 256 s) : (ad6 s).bytes = s := by
  show beB (beV (s.take 8)) 8 ++ beB (beV ((s.drop 8).take 8)) 8 = s
  have h1 := beB_beV (s.take 8) (ok_take ho 8)
  have h2 := beB_beV ((s.drop 8).take 8) (ok_take (ok_drop ho 8) 8)
  rw [List.length_take, h, show min 8 16 = 8 from rfl] at h1
  rw [List.length_take, List.length_drop, h, show min 8 (16 - 8) = 8 from rfl] at h2
  rw [h1, h2, List.take_of_length_le (l := s.drop 8) (by rw [List.length_drop, h]; decide), List.take_append_drop]
theorem ad4_ok (s : List Int) (h : 4 ≤ s.length) (ho : okB 256 s) : (ad4 s).ok ∧ (ad4 s).right = true := by
  have hr := beV_range 4 (s.take 4) (by rw [List.length_take]; omega) (ok_take ho 4)
  refine ⟨⟨?_, ?_, (by decide : (0 : Int) ≤ 0), (by decide : (0 : Int) < 18446744073709551616)⟩, ?_⟩
  · show 0 ≤ beV (s.take 4) * 4294967296; omega
  · show beV (s.take 4) * 4294967296 < 18446744073709551616
    have : (256 : Int) ^ 4 = 4294967296 := rfl
    omega
  · show (false || ((0 : Int) == 0 && beV (s.take 4) * 4294967296 % 4294967296 == 0)) = true
    rw [Int.mul_emod_left]; rfl
theorem ad6_ok (s : List Int) (h : 16 ≤ s.length) (ho : okB 256 s) : (ad6 s).ok ∧ (ad6 s).right = true := by
  have h1 := beV_range 8 (s.take 8) (by rw [List.length_take]; omega) (ok_take ho 8)
  have h2 := beV_range 8 ((s.drop 8).take 8) (by rw [List.length_take, List.length_drop]; omega) (ok_take (ok_drop ho 8) 8)
  have e : (256 : Int) ^ 8 = 18446744073709551616 := rfl
  rw [e] at h1 h2
  exact ⟨⟨h1.1, h1.2, h2.1, h2.2⟩, rfl⟩
theorem pk4_ok (xs : List Int) (h : 20 ≤ xs.length) (ho : okB 256 xs) : (pk4 xs).ok ∧ (pk4 xs).right = true := by
  have a1 := ad4_ok (sec xs 12 16) (by rw [length_sec _ _ _ (by omega)]; decide) (ok_sec ho _ _)
  have a2 := ad4_ok (sec xs 16 20) (by rw [length_sec _ _ _ (by omega)]; decide) (ok_sec ho _ _)
  refine ⟨⟨ok_get ho 1, (by decide : (0 : Int) ≤ 0 ∧ (0 : Int) < 4294967296), beV_two (length_sec _ _ _ (by omega)) (ok_sec ho _ _), beV_two (length_sec _ _ _ (by omega)) (ok_sec ho _ _), ok_get ho 8, ok_get ho 9, a1.1, a2.1⟩, ?_⟩
  show (false == false && false == false && ((ad4 (sec xs 12 16)).right && (ad4 (sec xs 16 20)).right && (0 : Int) == 0)) = true
  rw [a1.2, a2.2]; rfl
theorem pk6_ok (xs : List Int) (h : 40 ≤ xs.length) (ho : okB 256 xs) : (pk6 xs).ok ∧ (pk6 xs).right = true := by
  have a1 := ad6_ok (sec xs 8 24) (by rw [length_sec _ _ _ (by omega)]; decide) (ok_sec ho _ _)
  have a2 := ad6_ok (sec xs 24 40) (by rw [length_sec _ _ _ (by omega)]; decide) (ok_sec ho _ _)
  refine ⟨⟨?_, ?_, (by decide : (0 : Int) ≤ 0 ∧ (0 : Int) < 65536), (by decide : (0 : Int) ≤ 0 ∧ (0 : Int) < 65536), ok_get ho 7, ok_get ho 6, a1.1, a2.1⟩, ?_⟩
  · show 0 ≤ beV (xs.take 4) / 1048576 % 256 ∧ beV (xs.take 4) / 1048576 % 256 < 256; omega
  · show 0 ≤ beV (xs.take 4) % 1048576 ∧ beV (xs.take 4) % 1048576 < 4294967296; omega
  · show (true == true && true == true && ((ad6 (sec xs 8 24)).right && (ad6 (sec xs 24 40)).right && (decide (beV (xs.take 4) % 1048576 ≤ 1048575) && (0 : Int) == 0 && (0 : Int) == 0))) = true
    rw [a1.2, a2.2, decide_eq_true (show beV (xs.take 4) % 1048576 ≤ 1048575 by omega)]; rfl
theorem zerd_twice (xs : List Int) : zerd (zerd xs) = zerd xs := by
  unfold zerd
  rw [List.set_comm (i := 11) (j := 10) _ _ (by decide), List.set_set, List.set_set]
theorem sumdL_zerd (xs : List Int) : sumdL (zerd xs) = sumdL xs := by rw [sumdL, zerd_twice, sumdL]
/-- What was read of a version 4 packet, written again. -/
theorem put4_pk4 (xs : List Int) (h : 20 ≤ xs.length) (ho : okB 256 xs) (h0 : xs.getD 0 0 = 69) (hv : beV (sec xs 2 4) = xs.length) : put4L (pk4 xs) (xs.drop 20) = sumdL xs := by
  rw [put4L, ← sumdL_zerd xs]
  congr 1
  have e0 : (20 : Int) + ((xs.drop 20).length : Nat) = beV (sec xs 2 4) := by rw [hv, List.length_drop]; omega
  rw [head4, e0, beB_sec xs 2 4 2 ho (by omega) rfl, show (pk4 xs).id = beV (sec xs 4 6) from rfl, beB_sec xs 4 6 2 ho (by omega) rfl, show (pk4 xs).frag = beV (sec xs 6 8) from rfl, beB_sec xs 6 8 2 ho (by omega) rfl]
  rw [show (pk4 xs).src = ad4 (sec xs 12 16) from rfl, show (pk4 xs).dst = ad4 (sec xs 16 20) from rfl, ad4_bytes _ (length_sec _ _ _ (by omega)) (ok_sec ho _ _), ad4_bytes _ (length_sec _ _ _ (by omega)) (ok_sec ho _ _)]
  rw [sec_drop _ _ _ (by decide), sec_drop _ _ _ (by decide), zerd, set_two _ _ _ (by omega)]
  have t : xs.take 10 = [69, xs.getD 1 0] ++ sec xs 2 4 ++ sec xs 4 6 ++ sec xs 6 8 ++ [xs.getD 8 0, xs.getD 9 0] := by
    rw [← sec_zero, ← sec_app xs 0 1 10 (by decide) (by decide), ← sec_app xs 1 2 10 (by decide) (by decide), ← sec_app xs 2 4 10 (by decide) (by decide), ← sec_app xs 4 6 10 (by decide) (by decide), ← sec_app xs 6 8 10 (by decide) (by decide), ← sec_app xs 8 9 10 (by decide) (by decide), sec_one xs 0 (by omega), sec_one xs 1 (by omega), sec_one xs 8 (by omega), sec_one xs 9 (by omega), h0]
    simp
  rw [t]
  simp [pk4]
/-- What was read of a version 6 packet, written again. -/
theorem put6_pk6 (xs : List Int) (h : 40 ≤ xs.length) (ho : okB 256 xs) (h0 : xs.getD 0 0 / 16 = 6) (hv : beV (sec xs 4 6) = xs.length - 40) : put6L (pk6 xs) (xs.drop 40) = xs := by
  have e0 : ((xs.drop 40).length : Int) = beV (sec xs 4 6) := by rw [hv, List.length_drop]; omega
  have eW : 1610612736 + (pk6 xs).cls * 1048576 + (pk6 xs).flow = beV (sec xs 0 4) := by
    show 1610612736 + beV (xs.take 4) / 1048576 % 256 * 1048576 + beV (xs.take 4) % 1048576 = _
    rw [sec_zero]
    have e : xs.take 4 = xs.getD 0 0 :: sec xs 1 4 := by rw [← sec_zero, ← sec_app xs 0 1 4 (by decide) (by decide), sec_one xs 0 (by omega)]; rfl
    have hr := beV_range 3 (sec xs 1 4) (length_sec _ _ _ (by omega)) (ok_sec ho _ _)
    rw [e, beV_cons, length_sec _ _ _ (by omega)]
    rw [show (256 : Int) ^ (4 - 1) = 16777216 from rfl]
    rw [show (256 : Int) ^ 3 = 16777216 from rfl] at hr
    omega
  rw [put6L, head6, eW, e0, beB_sec xs 0 4 4 ho (by omega) rfl, beB_sec xs 4 6 2 ho (by omega) rfl]
  rw [show (pk6 xs).src = ad6 (sec xs 8 24) from rfl, show (pk6 xs).dst = ad6 (sec xs 24 40) from rfl, ad6_bytes _ (length_sec _ _ _ (by omega)) (ok_sec ho _ _), ad6_bytes _ (length_sec _ _ _ (by omega)) (ok_sec ho _ _)]
  rw [sec_drop _ _ _ (by decide), sec_drop _ _ _ (by decide), sec_app _ _ _ _ (by decide) (by decide)]
  rw [show [(pk6 xs).proto, (pk6 xs).ttl] = sec xs 6 8 by rw [← sec_app xs 6 7 8 (by decide) (by decide), sec_one xs 6 (by omega), sec_one xs 7 (by omega)]; rfl]
  rw [sec_app _ _ _ _ (by decide) (by decide), sec_drop _ _ _ (by decide), List.drop_zero]
end Go.Proofs.Ytmankjhopfilaaa
