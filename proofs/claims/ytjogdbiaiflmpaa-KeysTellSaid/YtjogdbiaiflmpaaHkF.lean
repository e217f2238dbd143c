/- hkdf.Expand, walked. -/
import Derived.Test.YtjogdbiaiflmpaaHkD
import Derived.Test.YtjogdbiaiflmpaaArp
namespace Go.Proofs.Ytjogdbiaiflmpaa
set_option linter.unusedVariables false
set_option linter.unusedSimpArgs false
open Go.RowKit Go.Proofs.YtjogdbiaiflmpaaL

theorem rdfront {k : IntKind} {w : World} {ad : Option Addr} {n : Nat} {xs : List Int} (h : Rd k w ad n xs) (m : Nat) (hm : m ≤ n) : Rd k w ad m (xs.take m) :=
  ⟨by rw [List.length_take, h.1]; omega, fun i hi => let ⟨x, h1, h2⟩ := h.2 i (by omega); ⟨x, h1, by rw [h2, List.getD_eq_getElem?_getD, List.getD_eq_getElem?_getD, List.getElem?_take_of_lt hi]⟩⟩
theorem rdsrc {w : World} {x : Addr} {len cap : Nat} {xs : List Int} (h : Rd .u8 w (some x) len xs) : Go.Proofs.YtjogdbiaiflmpaaL.Src w (.slice (some x) len cap) (xs.map (Value.int .u8)) :=
  .inr ⟨x, cap, by rw [List.length_map, h.1], fun j u hu => by
    obtain ⟨y, hy, rfl⟩ : ∃ y, xs[j]? = some y ∧ Value.int .u8 y = u := by simpa using hu
    rw [rd_at h j (by rw [← h.1]; exact (List.getElem?_eq_some_iff.1 hy).1), List.getD_eq_getElem?_getD, hy]; rfl⟩

theorem expand_no (key : List Int) (iv : Value) (N : Int) (w : World) (hk : key.length = 32) (h : N < 0 ∨ 8160 < N) :
    Calls Try.prog 10 #[.agg (encK .u8 key), iv, .int .i64 N] w fun e w' => e = .returned (.tuple #[.slice none 0 0, .bool false]) ∧ w.grownBy w' none := by
  go_enter Try.func10, Try.ntmps10
  by_cases h0 : N < 0
  · go_wp2_with fail
    exact bodyPost_ret (results_tmp2 rfl _ _ _) rfl ⟨rfl, World.grownBy_alloc _ _ _⟩
  · have h1 : 8160 < N := by omega
    go_wp2_with fail
    exact bodyPost_ret (results_tmp2 rfl _ _ _) rfl ⟨rfl, World.grownBy_alloc _ _ _⟩

set_option maxHeartbeats 8000000 in
set_option maxRecDepth 100000 in
theorem expand_own (key : List Int) (I : Bs) (n : Nat) (w : World) (hkl : key.length = 32) (hko : okB 256 key) (hi : I.ok w) (hn : n ≤ 8160) :
    Calls Try.prog 10 #[.agg (encK .u8 key), I.val, .int .i64 (n : Int)] w fun e w' => ∃ a c, e = .returned (.tuple #[.slice a n c, .bool true]) ∧ w'.ownsRow w.heap.size 5 1 (.slice a n c) n ((expK key I.xs n).map (Value.int .u8)) ∧ w.grownBy w' none := by
  obtain ⟨ad, len, cap, xs⟩ := I
  have HI := Lib.hid (fun (w' : World) (g : w.grownBy w' none) => Bs.ok_keep hi g)
  clear hi
  show Calls Try.prog _ #[.agg (encK .u8 key), .slice ad len cap, .int .i64 (n : Int)] w _
  have HKO := Lib.hid hko
  have HKL := Lib.hid hkl
  have hn0 : (0 : Int) ≤ n := by omega
  have hn1 : (n : Int) ≤ 8160 := by omega
  clear hko hkl
  obtain ⟨p, hp⟩ : ∃ p, w.heap.size = p := ⟨_, rfl⟩
  have hk0 := (own_start w).ints .u8 26 32 key HKL.out hp
  have hk := hk0.nil 5 .u8
  have HK := Lib.hid hk
  have HP := Lib.hid hp
  clear hk hk0 hp
  go_enter Try.func10, Try.ntmps10
  go_wp2_with fail
  rw [HP.out]
  go_loopw [8, 9, 10] (fun v l i wr => ∃ (j : Nat) (a : Option Addr) (c : Nat) (la : Option Addr) (ll lc : Nat) (L1 : List It), j ≤ (n + 31) / 32 ∧ v = .slice a (32 * j) c ∧ l = .slice la ll lc ∧ i = .int .u8 (((j : Int) + 1) % 256) ∧ Hid (Own w wr (.sl 5 .u8 a (32 * j) c (outK key xs j) :: .ints p .u8 26 32 key :: L1)) ∧ Hid (∀ w' x y z t, Own w w' (x :: y :: z :: t :: L1) → (⟨la, ll, lc, lastK key xs j⟩ : Bs).ok w')) (fun v _ _ _ => n + 64 - lenOf v)
  case atStart => exact ⟨0, none, 0, none, 0, 0, [], by omega, rfl, rfl, rfl, HK, Lib.hid (fun w' x y z t hk => ⟨⟨rfl, fun j hj => absurd hj (Nat.not_lt_zero _)⟩, (fun x hx => by cases hx), (fun _ => rfl), (show 0 ≤ 3000 by omega)⟩)⟩
  case round =>
    obtain ⟨j, a, c, la, ll, lc, L1, hj, rfl, rfl, rfl, HK', HLA⟩ := hrel
    clear HK
    have HK := HK'
    clear HK'
    obtain ⟨O, hO⟩ : ∃ O, O = 32 * j := ⟨_, rfl⟩
    rw [← hO] at HK ⊢
    by_cases hlt : O < n
    · have hlt' : (O : Int) < n := by omega
      have hO0 : (0 : Int) ≤ O := by omega
      have hj255 : j ≤ 254 := by omega
      have hO8 : O ≤ 8160 := by omega
      have hOn : O + 32 ≤ n + 32 := by omega
      have HO := Lib.hid hO
      have hj2 : j + 1 ≤ (n + 31) / 32 := by omega
      obtain ⟨b, hb⟩ : ∃ b, b = ((j : Int) + 1) % 256 := ⟨_, rfl⟩
      rw [← hb]
      have HBI := Lib.hid (show (b + 1) % 256 = ((((j + 1 : Nat) : Int)) + 1) % 256 by rw [hb]; omega)
      have hb0 : 0 ≤ b := by rw [hb]; omega
      have hb1 : b < 256 := by rw [hb]; omega
      have HNL := Lib.hid (show lastK key xs (j + 1) = hmac key (lastK key xs j ++ (xs ++ [b])) by rw [lastK, hb, List.append_assoc])
      have HNO := Lib.hid (show outK key xs (j + 1) = outK key xs j ++ lastK key xs (j + 1) from rfl)
      have HLL := Lib.hid (length_lastK key xs j)
      have HLO := Lib.hid (ok_lastK key xs (j + 1))
      clear hb hO hj
      go_wp2_with fail
      obtain ⟨s1, hs1⟩ : ∃ s1, wr.heap.size = s1 := ⟨_, rfl⟩
      rw [hs1]
      have hk1 := HK.out.ints .u8 5 1 [b] rfl hs1
      have hk2 := hk1.blk (.cells #[Value.slice la ll lc, Value.slice ad len cap, Value.slice (some ⟨s1, 0, none⟩) 1 1] 22 (0, 0)) (p := s1 + 1) (by rw [alloc_size, hs1])
      have hb1 : ∀ q ∈ [(⟨la, ll, lc, lastK key xs j⟩ : Bs), (⟨ad, len, cap, xs⟩ : Bs), (⟨some ⟨s1, 0, none⟩, 1, 1, [b]⟩ : Bs)], q.ok _ := fun q hq => by
        simp only [List.mem_cons, List.not_mem_nil, or_false] at hq
        rcases hq with rfl | rfl | rfl
        · exact HLA.out _ _ _ _ _ hk2
        · exact HI.out _ hk2.grown
        · exact ⟨hk2.rd (.next _ (.here _)), (fun x hx => by rw [List.mem_singleton] at hx; rw [hx]; exact ⟨hb0, hb1⟩), (fun h => by cases h), (show 1 ≤ 3000 by decide)⟩
      have hB : (⟨some ⟨p, 0, none⟩, 32, 32, key⟩ : Bs).ok _ := ⟨hk2.rd (.next _ (.next _ (.next _ (.here _)))), HKO.out, (fun h => by cases h), (show 32 ≤ 3000 by decide)⟩
      refine (mac_any ⟨some ⟨p, 0, none⟩, 32, 32, key⟩ (some ⟨s1 + 1, 0, none⟩) 3 3 [⟨la, ll, lc, lastK key xs j⟩, ⟨ad, len, cap, xs⟩, ⟨some ⟨s1, 0, none⟩, 1, 1, [b]⟩] _ hB rfl (parts_cell (hk2.at (.here _))) hb1 (fun h => by cases h) (by decide)).mono ?_
      rintro e wm ⟨rfl, hg⟩
      have hk3 := (hk2.sub (List.Sublist.cons _ (List.Sublist.cons _ (List.Sublist.refl _)))).grow hg
      clear hk1 hk2 hb1 hB hg hs1
      clear HLA
      clear HK
      have HK := Lib.hid hk3
      clear hk3
      rw [show hmac (⟨some ⟨p, 0, none⟩, 32, 32, key⟩ : Bs).xs (catB [(⟨la, ll, lc, lastK key xs j⟩ : Bs), (⟨ad, len, cap, xs⟩ : Bs), (⟨some ⟨s1, 0, none⟩, 1, 1, [b]⟩ : Bs)]) = lastK key xs (j + 1) by rw [HNL.out]; simp [catB]]
      obtain ⟨T, hT⟩ : ∃ T, T = lastK key xs (j + 1) := ⟨_, rfl⟩
      rw [← hT] at HNO HLL HLO ⊢
      have HT := Lib.hid hT
      clear hT HNL
      go_wp2_with ((refine wpList_new_ints rfl HK.out _ rfl .u8 26 32 (zer 32) (length_zer _) (fun w => by go_simp; first | exact ⟨rfl, rfl⟩ | kernel_rfl) ?_))
      intro wn q hkn
      have HKN := Lib.hid hkn
      clear hkn HK
      have HK := HKN
      clear HKN
      go_wp2_with (first | (refine wpList_put_row rfl HK.out 26 _ _ rfl _ _ T rfl rfl _ _ _ (by first | exact Upd.here _ | exact Upd.next _ (Upd.here _) | exact Upd.next _ (Upd.next _ (Upd.here _)) | exact Upd.next _ (Upd.next _ (Upd.next _ (Upd.here _))) | exact Upd.next _ (Upd.next _ (Upd.next _ (Upd.next _ (Upd.here _)))) | exact Upd.next _ (Upd.next _ (Upd.next _ (Upd.next _ (Upd.next _ (Upd.here _))))) | exact Upd.next _ (Upd.next _ (Upd.next _ (Upd.next _ (Upd.next _ (Upd.next _ (Upd.here _)))))) | exact Upd.next _ (Upd.next _ (Upd.next _ (Upd.next _ (Upd.next _ (Upd.next _ (Upd.next _ (Upd.here _))))))) | exact Upd.next _ (Upd.next _ (Upd.next _ (Upd.next _ (Upd.next _ (Upd.next _ (Upd.next _ (Upd.next _ (Upd.here _)))))))) | exact Upd.next _ (Upd.next _ (Upd.next _ (Upd.next _ (Upd.next _ (Upd.next _ (Upd.next _ (Upd.next _ (Upd.next _ (Upd.here _)))))))))) (by exact HLL.out) (by kernel_rfl) ?_; (intro wn hkn; have HKN := Lib.hid hkn; clear hkn; clear HK; have HK := HKN; clear HKN)) | (refine wpList_stop 34 rfl ?_))
      rintro w' rfl
      have hsrc := rdsrc (cap := 32) (HK.out.rd (.here _))
      refine wpList_app_own rfl HK.out _ _ 22 rfl 5 (.int .u8 0) 1 Try.underlying22 (by kernel_rfl) rfl .u8 _ _ _ _ rfl (by first | exact Del.here _ | exact Del.next _ (Del.here _) | exact Del.next _ (Del.next _ (Del.here _)) | exact Del.next _ (Del.next _ (Del.next _ (Del.here _))) | exact Del.next _ (Del.next _ (Del.next _ (Del.next _ (Del.here _)))) | exact Del.next _ (Del.next _ (Del.next _ (Del.next _ (Del.next _ (Del.here _))))) | exact Del.next _ (Del.next _ (Del.next _ (Del.next _ (Del.next _ (Del.next _ (Del.here _)))))) | exact Del.next _ (Del.next _ (Del.next _ (Del.next _ (Del.next _ (Del.next _ (Del.next _ (Del.here _))))))) | exact Del.next _ (Del.next _ (Del.next _ (Del.next _ (Del.next _ (Del.next _ (Del.next _ (Del.next _ (Del.here _)))))))) | exact Del.next _ (Del.next _ (Del.next _ (Del.next _ (Del.next _ (Del.next _ (Del.next _ (Del.next _ (Del.next _ (Del.here _)))))))))) (.slice (some ⟨q, 0, none⟩) 32 32) 32 T rfl HLL.out hsrc (by unfold maxLen; omega) (by omega) ?_
      intro a2 c2 wn hk
      clear hsrc
      rw [← HNO.out] at hk
      clear HK
      have HK := Lib.hid hk
      clear hk
      go_wp2_with fail
      have hke : Own w wn (.sl 5 .u8 a2 (O + 32) c2 (outK key xs (j + 1)) :: .ints p .u8 26 32 key :: [.ints q .u8 26 32 T]) := by
        have h1 := ((HK.out.front (.next _ (.next _ (.here _)))).front (.next _ (.here _)))
        exact h1.sub (List.Sublist.cons_cons _ (List.Sublist.cons_cons _ (List.Sublist.cons_cons _ (List.nil_sublist _))))
      exact ⟨⟨j + 1, a2, c2, some ⟨q, 0, none⟩, 32, 32, [.ints q .u8 26 32 T], hj2, by rw [HO.out]; rfl, rfl, by rw [HBI.out], by rw [show 32 * (j + 1) = O + 32 by rw [HO.out]; rfl]; exact Lib.hid hke, Lib.hid (fun w' x y z t hk => by rw [← HT.out]; exact ⟨hk.rd (.next _ (.next _ (.next _ (.next _ (.here _))))), HLO.out, (fun h => by cases h), (show 32 ≤ 3000 by decide)⟩)⟩, by simp [lenOf]; omega⟩
    · have hjn : j = (n + 31) / 32 := by omega
      have hnO : n ≤ O := by omega
      have hO8 : O ≤ 8192 := by omega
      have hO9 : (n : Int) ≤ O := by omega
      have hcap := (HK.out.cap (.here _))
      have hOc : O ≤ c := hcap.1
      have hnc : n ≤ c := by omega
      have hnci : (n : Int) ≤ c := by omega
      have HCP := Lib.hid hcap
      have HE := Lib.hid (show expK key xs n = (outK key xs j).take n by rw [expK, hjn])
      clear hlt hj hO hcap hjn
      go_wp2_with fail
      have ho := (HK.out.trunc n (.here _) hnO).get (.here _)
      refine bodyPost_ret (results_tmp2 rfl _ _ _) rfl ⟨a, c, rfl, ?_, HK.out.grown⟩
      rw [HE.out]
      exact ho
/-- The same, in words on what it reads as. -/
theorem own_reads {w w' : World} {a : Option Addr} {n c : Nat} {s : List Int} {t : TypeId} (ho : w'.ownsRow w.heap.size t 1 (.slice a n c) n (s.map (Value.int .u8))) (hg : w.grownBy w' none) : Rd .u8 w' a n s ∧ (a = none → c = 0) ∧ n ≤ c ∧ c ≤ maxLen := by
  obtain ⟨a', c', he, hk⟩ := (own_start w).sl hg ho
  injection he with e1 e2 e3
  subst e1 e3
  exact ⟨hk.rdsl (.here _), (hk.cap (.here _)).2.2, (hk.cap (.here _)).1, (hk.cap (.here _)).2.1⟩
theorem expand_any (key : List Int) (I : Bs) (n : Nat) (w : World) (hkl : key.length = 32) (hko : okB 256 key) (hi : I.ok w) (hn : n ≤ 8160) :
    Calls Try.prog 10 #[.agg (encK .u8 key), I.val, .int .i64 (n : Int)] w fun e w' => ∃ a c, e = .returned (.tuple #[.slice a n c, .bool true]) ∧ Rd .u8 w' a n (expK key I.xs n) ∧ (a = none → c = 0) ∧ n ≤ c ∧ c ≤ maxLen ∧ w.grownBy w' none :=
  (expand_own key I n w hkl hko hi hn).mono fun e w' ⟨a, c, h1, ho, hg⟩ => let h := own_reads ho hg; ⟨a, c, h1, h.1, h.2.1, h.2.2.1, h.2.2.2, hg⟩
end Go.Proofs.Ytjogdbiaiflmpaa
