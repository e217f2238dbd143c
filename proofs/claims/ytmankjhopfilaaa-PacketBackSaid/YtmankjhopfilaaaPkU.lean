/- Put, the reference's: whole. -/
import Derived.Test.YtmankjhopfilaaaPkS
import Derived.Test.YtmankjhopfilaaaPkT
namespace Go.Proofs.Ytmankjhopfilaaa
set_option linter.unusedVariables false
set_option linter.unusedSimpArgs false
open Go.RowKit Go.Proofs.YtmankjhopfilaaaL

theorem rput_any (p : Pk) (b : Bs) (w : World) (hp : p.ok) (hb : b.ok w) :
    Calls Try.prog 13 #[p.val b.val] w fun e w' => ∃ a m c, e = .returned (.tuple #[.slice a m c, .int .i64 (putE p b.len)]) ∧ w'.ownsRow w.heap.size 5 1 (.slice a m c) m ((putL p b.xs).map (Value.int .u8)) ∧ w.grownBy w' none := by
  obtain ⟨ad, n, cp, xs⟩ := b
  have hl : xs.length = n := hb.1.1
  have hn : n ≤ 3000 := hb.2.2.2
  show Calls Try.prog _ #[p.val (.slice ad n cp)] w fun e w' => ∃ a m c, e = .returned (.tuple #[.slice a m c, .int .i64 (putE p n)]) ∧ w'.ownsRow w.heap.size 5 1 (.slice a m c) m ((putL p xs).map (Value.int .u8)) ∧ w.grownBy w' none
  cases hr : p.right with
  | false =>
    have he : putE p n = 20 := by simp [putE, hr]
    have hL : putL p xs = [] := by rw [putL, if_neg (by rw [hl, he]; decide)]
    rw [he, hL]
    obtain ⟨v6, cls, flow, id, frag, ttl, proto, ⟨s6, sh, sl⟩, ⟨d6, dh, dl⟩⟩ := p
    cases v6
    · refine (rput_bad_false cls flow id frag ttl proto sh sl dh dl s6 d6 ad n cp w hp hr).mono ?_
      rintro e w' ⟨rfl, hg⟩
      exact ⟨_, _, _, rfl, own_nil_row _ _ _, hg⟩
    · refine (rput_bad_true cls flow id frag ttl proto sh sl dh dl s6 d6 ad n cp w hp hr).mono ?_
      rintro e w' ⟨rfl, hg⟩
      exact ⟨_, _, _, rfl, own_nil_row _ _ _, hg⟩
  | true =>
    obtain ⟨v6, cls, flow, id, frag, ttl, proto, ⟨s6, sh, sl⟩, ⟨d6, dh, dl⟩⟩ := p
    cases v6
    · have h : (s6 == false && d6 == false && ((⟨s6, sh, sl⟩ : Ad).right && (⟨d6, dh, dl⟩ : Ad).right && flow == 0)) = true := hr
      simp only [Bool.and_eq_true, beq_iff_eq] at h
      obtain ⟨⟨rfl, rfl⟩, ⟨h1, h2⟩, rfl⟩ := h
      by_cases hn1 : 20 + n ≤ 1400
      · have he : putE ⟨false, cls, 0, id, frag, ttl, proto, ⟨false, sh, sl⟩, ⟨false, dh, dl⟩⟩ n = 0 := by simp [putE, hr, Pk.head, hn1]
        have hL : putL ⟨false, cls, 0, id, frag, ttl, proto, ⟨false, sh, sl⟩, ⟨false, dh, dl⟩⟩ xs = put4L ⟨false, cls, 0, id, frag, ttl, proto, ⟨false, sh, sl⟩, ⟨false, dh, dl⟩⟩ xs := by rw [putL, if_pos (by rw [hl, he])]; rfl
        rw [he, hL]
        refine (rput4_any cls id frag ttl proto sh sl dh dl ad n cp xs w hp h1 h2 hb hn1).mono ?_
        rintro e w' ⟨a, c, rfl, ho, hg⟩
        exact ⟨_, _, _, rfl, ho, hg⟩
      · have he : putE ⟨false, cls, 0, id, frag, ttl, proto, ⟨false, sh, sl⟩, ⟨false, dh, dl⟩⟩ n = 23 := by simp [putE, hr, Pk.head, hn1]
        have hL : putL ⟨false, cls, 0, id, frag, ttl, proto, ⟨false, sh, sl⟩, ⟨false, dh, dl⟩⟩ xs = [] := by rw [putL, if_neg (by rw [hl, he]; decide)]
        rw [he, hL]
        refine (rput_long_false cls 0 id frag ttl proto sh sl dh dl ad n cp w hp.src hp.dst h1 h2 (by decide) (by omega) hn).mono ?_
        rintro e w' ⟨rfl, hg⟩
        exact ⟨_, _, _, rfl, own_nil_row _ _ _, hg⟩
    · have h : (s6 == true && d6 == true && ((⟨s6, sh, sl⟩ : Ad).right && (⟨d6, dh, dl⟩ : Ad).right && (decide (flow ≤ 1048575) && id == 0 && frag == 0))) = true := hr
      simp only [Bool.and_eq_true, beq_iff_eq, decide_eq_true_eq] at h
      obtain ⟨⟨rfl, rfl⟩, ⟨h1, h2⟩, ⟨hf, rfl⟩, rfl⟩ := h
      by_cases hn1 : 40 + n ≤ 1400
      · have he : putE ⟨true, cls, flow, 0, 0, ttl, proto, ⟨true, sh, sl⟩, ⟨true, dh, dl⟩⟩ n = 0 := by simp [putE, hr, Pk.head, hn1]
        have hL : putL ⟨true, cls, flow, 0, 0, ttl, proto, ⟨true, sh, sl⟩, ⟨true, dh, dl⟩⟩ xs = put6L ⟨true, cls, flow, 0, 0, ttl, proto, ⟨true, sh, sl⟩, ⟨true, dh, dl⟩⟩ xs := by rw [putL, if_pos (by rw [hl, he])]; rfl
        rw [he, hL]
        refine (rput6_any cls flow ttl proto sh sl dh dl ad n cp xs w hp h1 h2 hf hb hn1).mono ?_
        rintro e w' ⟨a, c, rfl, ho, hg⟩
        exact ⟨_, _, _, rfl, ho, hg⟩
      · have he : putE ⟨true, cls, flow, 0, 0, ttl, proto, ⟨true, sh, sl⟩, ⟨true, dh, dl⟩⟩ n = 23 := by simp [putE, hr, Pk.head, hn1]
        have hL : putL ⟨true, cls, flow, 0, 0, ttl, proto, ⟨true, sh, sl⟩, ⟨true, dh, dl⟩⟩ xs = [] := by rw [putL, if_neg (by rw [hl, he]; decide)]
        rw [he, hL]
        refine (rput_long_true cls flow 0 0 ttl proto sh sl dh dl ad n cp w hp.src hp.dst h1 h2 (by omega) (by omega) hn).mono ?_
        rintro e w' ⟨rfl, hg⟩
        exact ⟨_, _, _, rfl, own_nil_row _ _ _, hg⟩
end Go.Proofs.Ytmankjhopfilaaa
