/- Plain laws of packets: what was written is read back. -/
import Derived.Test.YtmankjhopfilaaaPlA
namespace Go.Proofs.Ytmankjhopfilaaa
set_option linter.unusedVariables false
set_option linter.unusedSimpArgs false
open Go.RowKit Go.Proofs.YtmankjhopfilaaaL

theorem sumdL_set (Z : List Int) (h : 20 ≤ Z.length) : sumdL Z = ((zerd Z).set 10 (csum ((zerd Z).take 20) / 256)).set 11 (csum ((zerd Z).take 20) % 256) := by
  have hc := csum_range ((zerd Z).take 20)
  rw [set_two _ _ _ (by rw [length_zerd]; omega), sumdL]
  simp only [beB]
  rw [show csum ((zerd Z).take 20) / 256 ^ 1 % 256 = csum ((zerd Z).take 20) / 256 by omega, show csum ((zerd Z).take 20) / 256 ^ 0 % 256 = csum ((zerd Z).take 20) % 256 by simp]
theorem zerd_set2 (Z : List Int) (a b : Int) : zerd ((Z.set 10 a).set 11 b) = zerd Z := by
  unfold zerd
  rw [List.set_comm (i := 11) (j := 10) _ _ (by decide), List.set_set, List.set_set]
theorem sumdL_twice (Z : List Int) (h : 20 ≤ Z.length) : sumdL (sumdL Z) = sumdL Z := by
  rw [← sumdL_zerd (sumdL Z), sumdL_set Z h, zerd_set2, zerd_twice, sumdL_zerd, sumdL_set Z h]
theorem ok_sumdL {Z : List Int} (ho : okB 256 Z) : okB 256 (sumdL Z) := ok_app (ok_app (ok_take (ok_zerd ho) _) (ok_beB _ _)) (ok_drop (ok_zerd ho) _)
theorem sec_sumdL (Z : List Int) (h : 20 ≤ Z.length) (a b : Nat) (hab : b ≤ 10 ∨ 11 < a) : sec (sumdL Z) a b = sec Z a b := by
  rw [sumdL_set Z h, sec_set _ _ _ _ _ (by omega), sec_set _ _ _ _ _ (by omega), zerd, sec_set _ _ _ _ _ (by omega), sec_set _ _ _ _ _ (by omega)]
theorem getD_sumdL (Z : List Int) (h : 20 ≤ Z.length) (i : Nat) (hi : i ≠ 10 ∧ i ≠ 11) : (sumdL Z).getD i 0 = Z.getD i 0 := by
  rw [sumdL_set Z h, getD_set_ne _ _ _ _ (by omega), getD_set_ne _ _ _ _ (by omega), zerd, getD_set_ne _ _ _ _ (by omega), getD_set_ne _ _ _ _ (by omega)]
theorem drop_sumdL (Z : List Int) (h : 20 ≤ Z.length) (a : Nat) (ha : 11 < a) : (sumdL Z).drop a = Z.drop a := by
  rw [sumdL_set Z h, drop_set _ _ _ _ (by omega), drop_set _ _ _ _ (by omega), zerd, drop_set _ _ _ _ (by omega), drop_set _ _ _ _ (by omega)]
theorem ad4_back {hi lo : Int} (h : (⟨false, hi, lo⟩ : Ad).ok) (hr : (⟨false, hi, lo⟩ : Ad).right = true) : ad4 (beB (hi / 4294967296) 4) = ⟨false, hi, lo⟩ := by
  have hr : (false || (lo == 0 && hi % 4294967296 == 0)) = true := hr
  simp only [Bool.false_or, Bool.and_eq_true, beq_iff_eq] at hr
  obtain ⟨rfl, hm⟩ := hr
  have h0 : 0 ≤ hi := h.h0
  have h1 : hi < 18446744073709551616 := h.h1
  rw [ad4, List.take_of_length_le (Nat.le_of_eq (length_beB _ _)), beV_beB 4 _ (by omega) (by rw [show (256 : Int) ^ 4 = 4294967296 from rfl]; omega)]
  congr 1
  omega
theorem ad6_back {hi lo : Int} (h : (⟨true, hi, lo⟩ : Ad).ok) : ad6 (beB hi 8 ++ beB lo 8) = ⟨true, hi, lo⟩ := by
  have h0 : 0 ≤ hi := h.h0
  have h1 : hi < 18446744073709551616 := h.h1
  have l0 : 0 ≤ lo := h.l0
  have l1 : lo < 18446744073709551616 := h.l1
  have e : (256 : Int) ^ 8 = 18446744073709551616 := rfl
  rw [ad6, List.take_append_of_le_length (Nat.le_of_eq (length_beB _ _).symm), List.take_of_length_le (Nat.le_of_eq (length_beB _ _)), List.drop_append_of_le_length (Nat.le_of_eq (length_beB _ _).symm), List.drop_of_length_le (Nat.le_of_eq (length_beB _ _)), List.nil_append, List.take_of_length_le (Nat.le_of_eq (length_beB _ _)), beV_beB 8 _ h0 (by rw [e]; exact h1), beV_beB 8 _ l0 (by rw [e]; exact l1)]
/-- The bytes of a version 4 packet ahead of its sum. -/
def z4 (p : Pk) (xs : List Int) : List Int := head4 p xs.length ++ (p.src.bytes ++ (p.dst.bytes ++ xs))
theorem read4 (cls id frag ttl proto sh sl dh dl : Int) (xs : List Int) (hp : (⟨false, cls, 0, id, frag, ttl, proto, ⟨false, sh, sl⟩, ⟨false, dh, dl⟩⟩ : Pk).ok) (h1 : (⟨false, sh, sl⟩ : Ad).right = true) (h2 : (⟨false, dh, dl⟩ : Ad).right = true) (ho : okB 256 xs) (hn : 20 + xs.length ≤ 1400) :
    okB 256 (put4L ⟨false, cls, 0, id, frag, ttl, proto, ⟨false, sh, sl⟩, ⟨false, dh, dl⟩⟩ xs) ∧ sumdL (put4L ⟨false, cls, 0, id, frag, ttl, proto, ⟨false, sh, sl⟩, ⟨false, dh, dl⟩⟩ xs) = put4L ⟨false, cls, 0, id, frag, ttl, proto, ⟨false, sh, sl⟩, ⟨false, dh, dl⟩⟩ xs ∧ (put4L ⟨false, cls, 0, id, frag, ttl, proto, ⟨false, sh, sl⟩, ⟨false, dh, dl⟩⟩ xs).getD 0 0 = 69 ∧ par (put4L ⟨false, cls, 0, id, frag, ttl, proto, ⟨false, sh, sl⟩, ⟨false, dh, dl⟩⟩ xs) = ⟨0, ⟨false, cls, 0, id, frag, ttl, proto, ⟨false, sh, sl⟩, ⟨false, dh, dl⟩⟩, xs⟩ := by
  obtain ⟨Z, hZ⟩ : ∃ Z, Z = z4 ⟨false, cls, 0, id, frag, ttl, proto, ⟨false, sh, sl⟩, ⟨false, dh, dl⟩⟩ xs := ⟨_, rfl⟩
  have hput : put4L ⟨false, cls, 0, id, frag, ttl, proto, ⟨false, sh, sl⟩, ⟨false, dh, dl⟩⟩ xs = sumdL Z := by rw [hZ]; rfl
  have hlen := length_put4L ⟨false, cls, 0, id, frag, ttl, proto, ⟨false, sh, sl⟩, ⟨false, dh, dl⟩⟩ xs rfl rfl
  rw [hput] at hlen ⊢
  have hZl : Z.length = 20 + xs.length := by
    rw [hZ, z4]
    show (head4 _ _ ++ (beB (sh / 4294967296) 4 ++ (beB (dh / 4294967296) 4 ++ xs))).length = _
    simp only [head4, List.length_append, length_beB, List.length_cons, List.length_nil]; omega
  have hZo : okB 256 Z := by
    rw [hZ, z4, head4]
    refine ok_app (ok_app (ok_app (ok_app (ok_app ?_ (ok_beB _ _)) (ok_beB _ _)) (ok_beB _ _)) ?_) (ok_app (ok_beB (sh / 4294967296) 4) (ok_app (ok_beB (dh / 4294967296) 4) ho))
    · intro x hx
      rcases List.mem_cons.1 hx with rfl | hx
      · exact ⟨by decide, by decide⟩
      · rw [List.mem_singleton.1 hx]; exact hp.cls
    · intro x hx
      rcases List.mem_cons.1 hx with rfl | hx
      · exact hp.ttl
      rcases List.mem_cons.1 hx with rfl | hx
      · exact hp.proto
      rcases List.mem_cons.1 hx with rfl | hx
      · exact ⟨by decide, by decide⟩
      · rw [List.mem_singleton.1 hx]; exact ⟨by decide, by decide⟩
  have h20 : 20 ≤ Z.length := by omega
  have e24 : sec Z 2 4 = beB (20 + xs.length) 2 := by rw [hZ]; rfl
  have e46 : sec Z 4 6 = beB id 2 := by rw [hZ]; rfl
  have e68 : sec Z 6 8 = beB frag 2 := by rw [hZ]; rfl
  have es : sec Z 12 16 = beB (sh / 4294967296) 4 := by rw [hZ]; rfl
  have ed : sec Z 16 20 = beB (dh / 4294967296) 4 := by rw [hZ]; rfl
  have ex : Z.drop 20 = xs := by rw [hZ]; rfl
  have g0 : Z.getD 0 0 = 69 := by rw [hZ]; rfl
  have g1 : Z.getD 1 0 = cls := by rw [hZ]; rfl
  have g8 : Z.getD 8 0 = ttl := by rw [hZ]; rfl
  have g9 : Z.getD 9 0 = proto := by rw [hZ]; rfl
  have q0 : (sumdL Z).getD 0 0 = 69 := by rw [getD_sumdL Z h20 0 (by decide)]; exact g0
  have tw := sumdL_twice Z h20
  have hv : beV (sec (sumdL Z) 2 4) = (sumdL Z).length := by
    rw [sec_sumdL Z h20 2 4 (.inl (by decide)), e24, beV_beB 2 _ (by omega) (by rw [show (256 : Int) ^ 2 = 65536 from rfl]; omega), hlen]; omega
  refine ⟨ok_sumdL hZo, tw, q0, ?_⟩
  rw [par, if_neg (by omega), if_neg (by rw [q0]; exact fun h => absurd h.2 (by decide)), par4, if_neg (by rw [hv, q0]; rintro (h | h | h); omega; exact h rfl; exact h rfl), if_neg (fun h => h tw), drop_sumdL Z h20 20 (by decide), ex]
  congr 1
  rw [pk4, sec_sumdL Z h20 4 6 (.inl (by decide)), sec_sumdL Z h20 6 8 (.inl (by decide)), sec_sumdL Z h20 12 16 (.inr (by decide)), sec_sumdL Z h20 16 20 (.inr (by decide)), getD_sumdL Z h20 1 (by decide), getD_sumdL Z h20 8 (by decide), getD_sumdL Z h20 9 (by decide), e46, e68, es, ed, g1, g8, g9, ad4_back hp.src h1, ad4_back hp.dst h2, beV_beB 2 _ hp.id.1 hp.id.2, beV_beB 2 _ hp.frag.1 hp.frag.2]
theorem read6 (cls flow ttl proto sh sl dh dl : Int) (xs : List Int) (hp : (⟨true, cls, flow, 0, 0, ttl, proto, ⟨true, sh, sl⟩, ⟨true, dh, dl⟩⟩ : Pk).ok) (hf : flow ≤ 1048575) (ho : okB 256 xs) (hn : 40 + xs.length ≤ 1400) :
    okB 256 (put6L ⟨true, cls, flow, 0, 0, ttl, proto, ⟨true, sh, sl⟩, ⟨true, dh, dl⟩⟩ xs) ∧ par (put6L ⟨true, cls, flow, 0, 0, ttl, proto, ⟨true, sh, sl⟩, ⟨true, dh, dl⟩⟩ xs) = ⟨0, ⟨true, cls, flow, 0, 0, ttl, proto, ⟨true, sh, sl⟩, ⟨true, dh, dl⟩⟩, xs⟩ := by
  obtain ⟨Z, hZ⟩ : ∃ Z, Z = put6L ⟨true, cls, flow, 0, 0, ttl, proto, ⟨true, sh, sl⟩, ⟨true, dh, dl⟩⟩ xs := ⟨_, rfl⟩
  have hlen := length_put6L ⟨true, cls, flow, 0, 0, ttl, proto, ⟨true, sh, sl⟩, ⟨true, dh, dl⟩⟩ xs rfl rfl
  rw [← hZ] at hlen ⊢
  obtain ⟨c0, c1⟩ : 0 ≤ cls ∧ cls < 256 := hp.cls
  have f0 : 0 ≤ flow := hp.flow.1
  have hZo : okB 256 Z := by
    rw [hZ, put6L, head6]
    refine ok_app (ok_app (ok_app (ok_beB _ _) (ok_beB _ _)) ?_) (ok_app (ok_app (ok_beB sh 8) (ok_beB sl 8)) (ok_app (ok_app (ok_beB dh 8) (ok_beB dl 8)) ho))
    intro x hx
    rcases List.mem_cons.1 hx with rfl | hx
    · exact hp.proto
    · rw [List.mem_singleton.1 hx]; exact hp.ttl
  have e4 : Z.take 4 = beB (1610612736 + cls * 1048576 + flow) 4 := by rw [hZ]; rfl
  have e46 : sec Z 4 6 = beB xs.length 2 := by rw [hZ]; rfl
  have es : sec Z 8 24 = beB sh 8 ++ beB sl 8 := by rw [hZ]; rfl
  have ed : sec Z 24 40 = beB dh 8 ++ beB dl 8 := by rw [hZ]; rfl
  have ex : Z.drop 40 = xs := by rw [hZ]; rfl
  have g0 : Z.getD 0 0 = (1610612736 + cls * 1048576 + flow) / 16777216 % 256 := by rw [hZ]; rfl
  have g6 : Z.getD 6 0 = proto := by rw [hZ]; rfl
  have g7 : Z.getD 7 0 = ttl := by rw [hZ]; rfl
  have eW : beV (Z.take 4) = 1610612736 + cls * 1048576 + flow := by rw [e4, beV_beB 4 _ (by omega) (by rw [show (256 : Int) ^ 4 = 4294967296 from rfl]; omega)]
  refine ⟨hZo, ?_⟩
  rw [par, if_neg (by omega), if_pos ⟨by omega, by rw [g0]; omega⟩, par6, if_neg (by rw [e46, beV_beB 2 _ (by omega) (by rw [show (256 : Int) ^ 2 = 65536 from rfl]; omega)]; omega), ex]
  congr 1
  rw [pk6, eW, g6, g7, es, ed, ad6_back hp.src, ad6_back hp.dst]
  congr 1 <;> omega
/-- What was written is read back. -/
theorem read_back (p : Pk) (xs : List Int) (hp : p.ok) (ho : okB 256 xs) (he : putE p xs.length = 0) : okB 256 (putL p xs) ∧ (putL p xs).length = p.head + xs.length ∧ p.head + xs.length ≤ 1400 ∧ par (putL p xs) = ⟨0, p, xs⟩ := by
  have hl := length_putL p xs he
  have hL : putL p xs = if p.v6 then put6L p xs else put4L p xs := by rw [putL, if_pos he]
  have hr : p.right = true := by
    unfold putE at he
    split at he
    · cases he
    · rename_i hh; simpa using hh
  have hn : p.head + xs.length ≤ 1400 := by
    unfold putE at he
    rw [if_neg (by rw [hr]; decide)] at he
    split at he
    · assumption
    · cases he
  rw [hL] at hl ⊢
  obtain ⟨v6, cls, flow, id, frag, ttl, proto, ⟨s6, sh, sl⟩, ⟨d6, dh, dl⟩⟩ := p
  cases v6
  · have h : (s6 == false && d6 == false && ((⟨s6, sh, sl⟩ : Ad).right && (⟨d6, dh, dl⟩ : Ad).right && flow == 0)) = true := hr
    simp only [Bool.and_eq_true, beq_iff_eq] at h
    obtain ⟨⟨rfl, rfl⟩, ⟨h1, h2⟩, rfl⟩ := h
    have q := read4 cls id frag ttl proto sh sl dh dl xs hp h1 h2 ho hn
    exact ⟨q.1, hl, hn, q.2.2.2⟩
  · have h : (s6 == true && d6 == true && ((⟨s6, sh, sl⟩ : Ad).right && (⟨d6, dh, dl⟩ : Ad).right && (decide (flow ≤ 1048575) && id == 0 && frag == 0))) = true := hr
    simp only [Bool.and_eq_true, beq_iff_eq, decide_eq_true_eq] at h
    obtain ⟨⟨rfl, rfl⟩, ⟨h1, h2⟩, ⟨hf, rfl⟩, rfl⟩ := h
    have q := read6 cls flow ttl proto sh sl dh dl xs hp hf ho hn
    exact ⟨q.1, hl, hn, q.2⟩
end Go.Proofs.Ytmankjhopfilaaa
