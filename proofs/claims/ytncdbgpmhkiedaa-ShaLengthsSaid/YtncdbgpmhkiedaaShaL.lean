/- The reference's SHA-512, walked. -/
import Derived.Test.YtncdbgpmhkiedaaShaJ
import Derived.Deep.Cut
import Derived.Deep.CutBlock
namespace Go.Proofs.Ytncdbgpmhkiedaa
set_option linter.unusedVariables false
set_option linter.unusedSimpArgs false
open Go.RowKit Go.Proofs.YtncdbgpmhkiedaaL

def z128 (n : Nat) : Nat := (247 - n % 128) % 128
theorem z128_at (n j : Nat) (hj : j ≤ z128 n) : (n + 1 + j) % 128 = 120 ↔ j = z128 n := by unfold z128 at *; omega
theorem zc5_more (n : Nat) (h : 112 < (n + 1) % 128 ∧ (n + 1) % 128 ≤ 120) : zc5 n = z128 n + 128 := by unfold zc5 z128; omega
theorem zc5_same (n : Nat) (h : ¬ (112 < (n + 1) % 128 ∧ (n + 1) % 128 ≤ 120)) : zc5 n = z128 n := by unfold zc5 z128; omega
theorem padZ_more (m : List Int) (j k : Nat) : padZ m j ++ zer k = padZ m (j + k) := by rw [padZ, padZ, zer, List.append_assoc, List.replicate_append_replicate]

def codeOf (f : Func) : Code := match f.body with
  | some c => c
  | none => .skip
def behind : Nat → Code → Code
  | 0, c => c
  | n + 1, .seq _ b => behind n b
  | _ + 1, c => c
def seqFst : Code → Code
  | .seq a _ => a
  | c => c
def seqSnd : Code → Code
  | .seq _ b => b
  | c => c

set_option maxHeartbeats 20000000 in
set_option maxRecDepth 100000 in
theorem rsum512_tail {x0 x1 x6 x7 x8 x9 x10 x11 x12 x13 x14 x15 x16 x17 x18 x19 x20 x21 x22 x23 x24 x25 x26 x27 x28 x29 x30 x31 x32 x33 x34 x35 x36 x37 x38 x39 x40 x41 x42 x43 x44 x45 x46 x47 x48 x49 x50 x51 x52 x53 x54 x55 x56 x57 x58 x59 x60 x61 x62 x63 x64 x65 x66 x67 x68 x69 x70 x71 x72 x73 x74 x75 x76 x77 x78 x79 x80 x81 x82 x83 x84 x85 x86 x87 x88 x89 x90 x91 x92 x93 x94 x95 x96 x97 x98 x99 x100 x101 x102 x103 x104 x105 x106 x107 x108 x109 x110 x111 x112 x113 x114 x115 x116 x117 x118 x119 x120 x121 x122 x123 x124 x125 x126 x127 x128 x129 x130 x131 x132 x133 x134 x135 x136 x137 x138 x139 x140 x141 x142 x143 x144 x145 x146 x147 x148 x149 x150 x151 x152 x153 x154 x155 x156 x157 x158 x159 x160 x161 x162 x163 x164 x165 x166 x167 x168 x169 x170 x171 x172 x173 x174 x175 x176 x177 x178 x179 x180 x181 x182 x183 x184 x185 x186 x187 x188 x189 x190 x191 x192 x193 x194 x195 x196 x197 x198 x199 x200 x201 x202 x203 x204 x205 x206 x207 x208 x209 x210 x211 x212 x213 x214 x215 x216 x217 x218 x219 x220 x221 x222 x223 x224 x225 x226 x227 x228 x229 x230 x231 x232 x233 x234 x235 x236 x237 x238 x239 x240 : Value} {po pk ph pm ck N c nb : Nat} {m M KK zs : List Int} {w wr : World} {K : Act → World → Prop}
    (hK : ∀ a w', Code.wp Try.prog (seqSnd (behind 8 (codeOf Try.f8))) (bodyPost Try.prog Try.f8 fun e w' => e = .returned (.agg (encK .u8 (sum64 m))) ∧ w.grownBy w' none) a w' → K a w')
    (hcap : N ≤ c) (hcm : c ≤ maxLen) (HN : Hid (N = 128 * nb)) (hnb0 : 0 < nb) (hnb1 : nb ≤ 1500) (HMO : Hid (okB 256 M)) (HS : Hid (sum64 m = outA5 (hs64 M nb) 64)) (HKK : Hid (KK = K64))
    (HK : Hid (Own w wr [.sl 5 .u8 (some ⟨pm, 0, none⟩) N c M, .ints ph .u64 39 8 (hs64 M 0), .sl 38 .u64 (some ⟨pk, 0, none⟩) 80 ck KK, .ints po .u8 27 64 zs])) :
    Code.wp Try.prog (seqFst (behind 8 (codeOf Try.f8))) (Exit.then K (bodyPost Try.prog Try.f8 fun e w' => e = .returned (.agg (encK .u8 (sum64 m))) ∧ w.grownBy w' none)) { tmps := #[x0, x1, .pointer (some ⟨po, 0, none⟩), .slice (some ⟨pk, 0, none⟩) 80 ck, .pointer (some ⟨ph, 0, none⟩), .slice (some ⟨pm, 0, none⟩) N c, x6, x7, x8, x9, x10, x11, x12, x13, x14, x15, x16, x17, x18, x19, x20, x21, x22, x23, x24, x25, x26, x27, x28, x29, x30, x31, x32, x33, x34, x35, x36, x37, x38, x39, x40, x41, x42, x43, x44, x45, x46, x47, x48, x49, x50, x51, x52, x53, x54, x55, x56, x57, x58, x59, x60, x61, x62, x63, x64, x65, x66, x67, x68, x69, x70, x71, x72, x73, x74, x75, x76, x77, x78, x79, x80, x81, x82, x83, x84, x85, x86, x87, x88, x89, x90, x91, x92, x93, x94, x95, x96, x97, x98, x99, x100, x101, x102, x103, x104, x105, x106, x107, x108, x109, x110, x111, x112, x113, x114, x115, x116, x117, x118, x119, x120, x121, x122, x123, x124, x125, x126, x127, x128, x129, x130, x131, x132, x133, x134, x135, x136, x137, x138, x139, x140, x141, x142, x143, x144, x145, x146, x147, x148, x149, x150, x151, x152, x153, x154, x155, x156, x157, x158, x159, x160, x161, x162, x163, x164, x165, x166, x167, x168, x169, x170, x171, x172, x173, x174, x175, x176, x177, x178, x179, x180, x181, x182, x183, x184, x185, x186, x187, x188, x189, x190, x191, x192, x193, x194, x195, x196, x197, x198, x199, x200, x201, x202, x203, x204, x205, x206, x207, x208, x209, x210, x211, x212, x213, x214, x215, x216, x217, x218, x219, x220, x221, x222, x223, x224, x225, x226, x227, x228, x229, x230, x231, x232, x233, x234, x235, x236, x237, x238, x239, x240], defers := [] } wr := by
  conv at hK =>
    enter [a, w', 1, 2]
    whnf
  conv =>
    arg 2
    whnf
  go_wp2_with fail
  go_loopw [5] (fun v wr => ∃ (k R C : Nat) (ad' : Option Addr), k ≤ nb ∧ Hid (R = 128 * (nb - k)) ∧ Hid (0 < R → ad' = some ⟨pm, 128 * k, none⟩ ∧ R ≤ C ∧ C ≤ maxLen) ∧ v = .slice ad' R C ∧ Hid (Own w wr [.sl 5 .u8 (some ⟨pm, 0, none⟩) N c M, .ints ph .u64 39 8 (hs64 M k), .sl 38 .u64 (some ⟨pk, 0, none⟩) 80 ck KK, .ints po .u8 27 64 zs])) (fun v _ => lenOf v)
  case atStart => exact ⟨0, N, c, _, by omega, Lib.hid (by rw [HN.out]; rfl), Lib.hid (fun _ => ⟨rfl, hcap, hcm⟩), rfl, HK⟩
  case round =>
    obtain ⟨k, R, C, ad', hk, HR, HA, rfl, HK'⟩ := hrel
    clear HK
    have HK := HK'
    clear HK'
    by_cases hlt : k < nb
    · have hR : R = 128 * (nb - k) := HR.out
      obtain ⟨rfl, hRC, hCm⟩ := HA.out (by omega)
      have hR0 : (128 : Int) ≤ (R : Int) := by omega
      have hR1 : (R : Int) ≤ 200000 := by omega
      have hR2 : 128 ≤ R := by omega
      have hRp : 0 < R := by omega
      have HRD := Lib.hid (show N - 128 * k = R by rw [HN.out, hR]; omega)
      have HRE := Lib.hid (show 128 * k ≤ N by rw [HN.out]; omega)
      clear hR HA hcap hcm
      obtain ⟨H, hH⟩ : ∃ H, H = hs64 M k := ⟨_, rfl⟩
      rw [← hH] at HK
      have HH8 := Lib.hid (show H.length = 8 by rw [hH]; exact length_hs64 M k)
      have HHO := Lib.hid (show okB 18446744073709551616 H by rw [hH]; exact ok_hs64 M k)
      obtain ⟨b, hb⟩ : ∃ b, b = M.drop (128 * k) := ⟨_, rfl⟩
      have HBO := Lib.hid (show okB 256 b by rw [hb]; exact ok_drop' HMO.out _)
      have HB := Lib.hid hb
      have HNX := Lib.hid (show hs64 M (k + 1) = addH5 H (rn5 H (wdB5 (wdA5 b 128) 64) 80) 8 by rw [hs64, comp64, hb, hH]; rfl)
      clear hH hb
      go_wp2_with ((refine wpList_new_ints rfl HK.out _ rfl .u64 47 80 (zer 80) (length_zer _) (fun w => by go_simp; first | exact ⟨rfl, rfl⟩ | kernel_rfl) ?_))
      intro wn pw hkn
      have HKN := Lib.hid hkn
      clear hkn HK
      have HK := HKN
      clear HKN
      go_wp2_with fail
      go_loopw [10] (fun v wr => ∃ i : Nat, i ≤ 128 ∧ v = .int .i64 i ∧ Hid (Own w wr [.ints pw .u64 47 80 (wdA5 b i), .sl 5 .u8 (some ⟨pm, 0, none⟩) N c M, .ints ph .u64 39 8 H, .sl 38 .u64 (some ⟨pk, 0, none⟩) 80 ck KK, .ints po .u8 27 64 zs])) (fun v _ => 128 - (intOf v).toNat)
      case atStart => exact ⟨0, by omega, rfl, HK⟩
      case round =>
        obtain ⟨i, hi, rfl, HK'⟩ := hrel
        clear HK
        have HK := HK'
        clear HK'
        by_cases hlt : i < 128
        · as_aux_lemma =>
          have hi0 : (0 : Int) ≤ i := by omega
          have hi1 : (i : Int) < 128 := by omega
          go_wp2_with fail
          refine wp_region_grow [(2, 0), (2, 1), (2, 2), (2, 3), (2, 4), (1, 5), (2, 6), (2, 7), (2, 8), (2, 9), (1, 10), (2, 11), (2, 12), (2, 13), (3, 14)] (by kernel_rfl) (by kernel_rfl) (fun _ _ _ _ _ h => h) (fun _ _ _ _ _ h => h) ?_
          refine gSeq_own HK.out fun wn hkn gn ein => ?_
          have HKN := Lib.hid hkn
          clear hkn HK
          have HK := HKN
          clear HKN
          clear gn ein
          have hr := HK.out.rdsl_from (.next _ (.here _)) (128 * k) R HRE.out HRD.out
          rw [← HB.out] at hr
          have c0 := rd_at hr i (by omega)
          have r0 := ok_getD (B := 256) (by decide) HBO.out i
          obtain ⟨b0, hb0⟩ : ∃ y, y = b.getD i 0 := ⟨_, rfl⟩
          rw [← hb0] at c0 r0
          have HX := Lib.hid (show wdA5 b (i + 1) = (wdA5 b i).set (i / 8) (bits .or .u64 (IntKind.u64.wrap ((wdA5 b i).getD (i / 8) 0 * 256)) b0) by rw [wdA5, wd5, hb0])
          clear hr hb0
          simp only [Addr.add_mid] at c0
          have h1 : (i : Int) < R := by omega
          have h2 : 0 ≤ (i : Int) / 8 := by omega
          have h3 : (i : Int) / 8 < 80 := by omega
          have t0 : ((i : Int) / 8).toNat = i / 8 := by omega
          have t1 : (i : Int).tdiv 8 = (i : Int) / 8 := Int.tdiv_eq_ediv_of_nonneg hi0
          have z0 : IntKind.i64.wrap ((i : Int) / 8) = (i : Int) / 8 := IntWalk.i64_in _ (by omega)
          have y0 : IntKind.u64.wrap b0 = b0 := IntWalk.u64_in _ (by omega)
          (repeat (first | (refine gSeq_get_int rfl (by rfl) HK.out _ _ rfl _ _ rfl _ _ _ _ (by first | exact Has.here _ | exact Has.next _ (Has.here _) | exact Has.next _ (Has.next _ (Has.here _)) | exact Has.next _ (Has.next _ (Has.next _ (Has.here _))) | exact Has.next _ (Has.next _ (Has.next _ (Has.next _ (Has.here _)))) | exact Has.next _ (Has.next _ (Has.next _ (Has.next _ (Has.next _ (Has.here _))))) | exact Has.next _ (Has.next _ (Has.next _ (Has.next _ (Has.next _ (Has.next _ (Has.here _)))))) | exact Has.next _ (Has.next _ (Has.next _ (Has.next _ (Has.next _ (Has.next _ (Has.next _ (Has.here _))))))) | exact Has.next _ (Has.next _ (Has.next _ (Has.next _ (Has.next _ (Has.next _ (Has.next _ (Has.next _ (Has.here _)))))))) | exact Has.next _ (Has.next _ (Has.next _ (Has.next _ (Has.next _ (Has.next _ (Has.next _ (Has.next _ (Has.next _ (Has.here _)))))))))) rfl (by omega) ?_; (try simp only [Act.put, Act.eval, List.setIfInBounds_toArray, List.set_cons_zero, List.set_cons_succ, Array.getD_eq_getD_getElem?, List.getElem?_toArray, List.getElem?_cons_succ, List.getElem?_cons_zero, Option.getD_some])) | (refine gSeq_skip rfl (by rfl) ?_; (try simp only [Act.put, Act.eval, List.setIfInBounds_toArray, List.set_cons_zero, List.set_cons_succ, Array.getD_eq_getD_getElem?, List.getElem?_toArray, List.getElem?_cons_succ, List.getElem?_cons_zero, Option.getD_some])) | (refine gSeq_move _ rfl rfl (by rfl) ?_; (try simp only [Act.put, Act.eval, List.setIfInBounds_toArray, List.set_cons_zero, List.set_cons_succ, Array.getD_eq_getD_getElem?, List.getElem?_toArray, List.getElem?_cons_succ, List.getElem?_cons_zero, Option.getD_some])) | (refine gSeq_assign _ rfl rfl (by rfl) ?_; (try simp only [Act.put, Act.eval, List.setIfInBounds_toArray, List.set_cons_zero, List.set_cons_succ, Array.getD_eq_getD_getElem?, List.getElem?_toArray, List.getElem?_cons_succ, List.getElem?_cons_zero, Option.getD_some])) | (refine gSeq_pure rfl (by rfl) ?_ ?_ ?_; (rotate_left; (intro w'; (try (have d0 := hG.cell c0 (by simp))); go_simp; (first | done | with_reducible rfl)); (try simp only [Act.put, Act.eval, List.setIfInBounds_toArray, List.set_cons_zero, List.set_cons_succ, Array.getD_eq_getD_getElem?, List.getElem?_toArray, List.getElem?_cons_succ, List.getElem?_cons_zero, Option.getD_some]))) | ((refine gSeq_put_int rfl (by rfl) HK.out _ _ _ rfl _ _ _ _ rfl rfl _ _ _ (by first | exact Upd.here _ | exact Upd.next _ (Upd.here _) | exact Upd.next _ (Upd.next _ (Upd.here _)) | exact Upd.next _ (Upd.next _ (Upd.next _ (Upd.here _))) | exact Upd.next _ (Upd.next _ (Upd.next _ (Upd.next _ (Upd.here _)))) | exact Upd.next _ (Upd.next _ (Upd.next _ (Upd.next _ (Upd.next _ (Upd.here _))))) | exact Upd.next _ (Upd.next _ (Upd.next _ (Upd.next _ (Upd.next _ (Upd.next _ (Upd.here _)))))) | exact Upd.next _ (Upd.next _ (Upd.next _ (Upd.next _ (Upd.next _ (Upd.next _ (Upd.next _ (Upd.here _))))))) | exact Upd.next _ (Upd.next _ (Upd.next _ (Upd.next _ (Upd.next _ (Upd.next _ (Upd.next _ (Upd.next _ (Upd.here _)))))))) | exact Upd.next _ (Upd.next _ (Upd.next _ (Upd.next _ (Upd.next _ (Upd.next _ (Upd.next _ (Upd.next _ (Upd.next _ (Upd.here _)))))))))) (by omega) (by kernel_rfl) ?_; (intro wn hkn; have HKN := Lib.hid hkn; clear hkn; clear HK; have HK := HKN; clear HKN); (try simp only [Act.put, Act.eval, List.setIfInBounds_toArray, List.set_cons_zero, List.set_cons_succ, Array.getD_eq_getD_getElem?, List.getElem?_toArray, List.getElem?_cons_succ, List.getElem?_cons_zero, Option.getD_some]))) | (refine gSeq_still rfl (by rfl) ?_ ?_ ?_; (rotate_left; (intro w' hG; (try (have d0 := hG.cell c0 (by simp))); go_simp; (first | done | with_reducible rfl)); (try simp only [Act.put, Act.eval, List.setIfInBounds_toArray, List.set_cons_zero, List.set_cons_succ, Array.getD_eq_getD_getElem?, List.getElem?_toArray, List.getElem?_cons_succ, List.getElem?_cons_zero, Option.getD_some])))))
          refine gSeq_nil ?_
          have HK' : Hid (Own w wn [.ints pw .u64 47 80 (wdA5 b (i + 1)), .sl 5 .u8 (some ⟨pm, 0, none⟩) N c M, .ints ph .u64 39 8 H, .sl 38 .u64 (some ⟨pk, 0, none⟩) 80 ck KK, .ints po .u8 27 64 zs]) := by rw [HX.out]; exact HK
          clear HK
          have HK := HK'
          clear HK' t0 t1 z0 y0 c0
          go_wp2_with fail
          exact ⟨⟨i + 1, by omega, by go_num, HK⟩, by simp [intOf]; omega⟩
        · have hi2 : i = 128 := by omega
          subst hi2
          rw [show ((128 : Nat) : Int) = 128 from rfl]
          clear hlt hi
          go_wp2_with fail
          go_loopw [11] (fun v wr => ∃ i : Nat, i ≤ 64 ∧ v = .int .i64 (16 + (i : Int)) ∧ Hid (Own w wr [.ints pw .u64 47 80 (wdB5 (wdA5 b 128) i), .sl 5 .u8 (some ⟨pm, 0, none⟩) N c M, .ints ph .u64 39 8 H, .sl 38 .u64 (some ⟨pk, 0, none⟩) 80 ck KK, .ints po .u8 27 64 zs])) (fun v _ => 80 - (intOf v).toNat)
          case atStart => exact ⟨0, by omega, rfl, HK⟩
          case round =>
            obtain ⟨i, hi, rfl, HK'⟩ := hrel
            clear HK
            have HK := HK'
            clear HK'
            by_cases hlt : i < 64
            · as_aux_lemma =>
              obtain ⟨l, hl0⟩ : ∃ l, l = wdB5 (wdA5 b 128) i := ⟨_, rfl⟩
              have HO := Lib.hid (show okB 18446744073709551616 l by rw [hl0]; exact ok_wdB5 (ok_wdA5 b 128) i)
              have HX := Lib.hid (show wdB5 (wdA5 b 128) (i + 1) = l.set (16 + i) (wdN5 l i) by rw [wdB5, hl0])
              rw [← hl0] at HK
              clear hl0
              have h0 : (16 : Int) + i < 80 := by omega
              have h1 : (0 : Int) ≤ 16 + i := by omega
              have hk0 : (0 : Int) ≤ i := by omega
              go_wp2_with fail
              refine wp_region_grow [(2, 0), (2, 1), (2, 2), (1, 3), (2, 4), (2, 5), (2, 6), (1, 7), (2, 8), (2, 9)] (by kernel_rfl) (by kernel_rfl) (fun _ _ _ _ _ h => h) (fun _ _ _ _ _ h => h) ?_
              refine gSeq_own HK.out fun wn hkn gn ein => ?_
              have HKN := Lib.hid hkn
              clear hkn HK
              have HK := HKN
              clear HKN
              clear gn ein
              have z0 : IntKind.i64.wrap (16 + (i : Int) - 15) = (i : Int) + 1 := by rw [IntWalk.i64_in _ (by omega)]; omega
              have z1 : IntKind.i64.wrap (16 + (i : Int) - 2) = (i : Int) + 14 := by rw [IntWalk.i64_in _ (by omega)]; omega
              have z2 : IntKind.i64.wrap (16 + (i : Int) - 16) = (i : Int) := by rw [IntWalk.i64_in _ (by omega)]; omega
              have z3 : IntKind.i64.wrap (16 + (i : Int) - 7) = (i : Int) + 9 := by rw [IntWalk.i64_in _ (by omega)]; omega
              have t0 : ((i : Int) + 1).toNat = i + 1 := by omega
              have t1 : ((i : Int) + 14).toNat = i + 14 := by omega
              have t2 : ((i : Int) + 9).toNat = i + 9 := by omega
              have t3 : (16 + (i : Int)).toNat = 16 + i := by omega
              have h2 : (i : Int) + 1 < 80 := by omega
              have h3 : (i : Int) + 14 < 80 := by omega
              have h4 : (i : Int) + 9 < 80 := by omega
              have h5 : (i : Int) < 80 := by omega
              have h6 : (0 : Int) ≤ (i : Int) + 1 := by omega
              have h7 : (0 : Int) ≤ (i : Int) + 14 := by omega
              have h8 : (0 : Int) ≤ (i : Int) + 9 := by omega
              (repeat (first | (refine gSeq_get_int rfl (by rfl) HK.out _ _ rfl _ _ rfl _ _ _ _ (by first | exact Has.here _ | exact Has.next _ (Has.here _) | exact Has.next _ (Has.next _ (Has.here _)) | exact Has.next _ (Has.next _ (Has.next _ (Has.here _))) | exact Has.next _ (Has.next _ (Has.next _ (Has.next _ (Has.here _)))) | exact Has.next _ (Has.next _ (Has.next _ (Has.next _ (Has.next _ (Has.here _))))) | exact Has.next _ (Has.next _ (Has.next _ (Has.next _ (Has.next _ (Has.next _ (Has.here _)))))) | exact Has.next _ (Has.next _ (Has.next _ (Has.next _ (Has.next _ (Has.next _ (Has.next _ (Has.here _))))))) | exact Has.next _ (Has.next _ (Has.next _ (Has.next _ (Has.next _ (Has.next _ (Has.next _ (Has.next _ (Has.here _)))))))) | exact Has.next _ (Has.next _ (Has.next _ (Has.next _ (Has.next _ (Has.next _ (Has.next _ (Has.next _ (Has.next _ (Has.here _)))))))))) rfl (by omega) ?_; (try simp only [Act.put, Act.eval, List.setIfInBounds_toArray, List.set_cons_zero, List.set_cons_succ, Array.getD_eq_getD_getElem?, List.getElem?_toArray, List.getElem?_cons_succ, List.getElem?_cons_zero, Option.getD_some])) | (refine gSeq_skip rfl (by rfl) ?_; (try simp only [Act.put, Act.eval, List.setIfInBounds_toArray, List.set_cons_zero, List.set_cons_succ, Array.getD_eq_getD_getElem?, List.getElem?_toArray, List.getElem?_cons_succ, List.getElem?_cons_zero, Option.getD_some])) | (refine gSeq_move _ rfl rfl (by rfl) ?_; (try simp only [Act.put, Act.eval, List.setIfInBounds_toArray, List.set_cons_zero, List.set_cons_succ, Array.getD_eq_getD_getElem?, List.getElem?_toArray, List.getElem?_cons_succ, List.getElem?_cons_zero, Option.getD_some])) | (refine gSeq_assign _ rfl rfl (by rfl) ?_; (try simp only [Act.put, Act.eval, List.setIfInBounds_toArray, List.set_cons_zero, List.set_cons_succ, Array.getD_eq_getD_getElem?, List.getElem?_toArray, List.getElem?_cons_succ, List.getElem?_cons_zero, Option.getD_some])) | (refine gSeq_pure rfl (by rfl) ?_ ?_ ?_; (rotate_left; (intro w'; (skip); go_simp; (first | done | with_reducible rfl)); (try simp only [Act.put, Act.eval, List.setIfInBounds_toArray, List.set_cons_zero, List.set_cons_succ, Array.getD_eq_getD_getElem?, List.getElem?_toArray, List.getElem?_cons_succ, List.getElem?_cons_zero, Option.getD_some]))) | (fail) | (refine gSeq_still rfl (by rfl) ?_ ?_ ?_; (rotate_left; (intro w' hG; (skip); go_simp; (first | done | with_reducible rfl)); (try simp only [Act.put, Act.eval, List.setIfInBounds_toArray, List.set_cons_zero, List.set_cons_succ, Array.getD_eq_getD_getElem?, List.getElem?_toArray, List.getElem?_cons_succ, List.getElem?_cons_zero, Option.getD_some])))))
              refine gSeq_nil ?_
              clear z0 z1 z2 z3 t0 t1 t2 t3
              have e1 := ok_getD (by decide) HO.out (i + 1)
              have e2 := ok_getD (by decide) HO.out (i + 14)
              obtain ⟨x1, hx1⟩ : ∃ y, y = l.getD (i + 1) 0 := ⟨_, rfl⟩
              obtain ⟨x14, hx14⟩ : ∃ y, y = l.getD (i + 14) 0 := ⟨_, rfl⟩
              rw [← hx1] at e1 ⊢
              rw [← hx14] at e2 ⊢
              have HX1 := Lib.hid hx1
              have HX14 := Lib.hid hx14
              obtain ⟨e3, e4⟩ := e1
              obtain ⟨e5, e6⟩ := e2
              clear hx1 hx14
              go_wp2_with fail
              refine wp_region_grow [(2, 0), (2, 1), (2, 2), (2, 3), (1, 4), (2, 5), (2, 7), (2, 10), (2, 11), (2, 14), (2, 15), (2, 16), (1, 17), (2, 19), (2, 21), (2, 24), (2, 25), (0, 6), (0, 8), (2, 9), (2, 12), (2, 13), (2, 18), (0, 20), (0, 22), (2, 23), (2, 26), (2, 27), (2, 28), (3, 29)] (by kernel_rfl) (by kernel_rfl) (fun _ _ _ _ _ h => h) (fun _ _ _ _ _ h => h) ?_
              refine gSeq_own HK.out fun wn hkn gn ein => ?_
              have HKN := Lib.hid hkn
              clear hkn HK
              have HK := HKN
              clear HKN
              clear gn ein
              have z2 : IntKind.i64.wrap (16 + (i : Int) - 16) = (i : Int) := by rw [IntWalk.i64_in _ (by omega)]; omega
              have z3 : IntKind.i64.wrap (16 + (i : Int) - 7) = (i : Int) + 9 := by rw [IntWalk.i64_in _ (by omega)]; omega
              have t2 : ((i : Int) + 9).toNat = i + 9 := by omega
              have t3 : (16 + (i : Int)).toNat = 16 + i := by omega
              (repeat (first | (refine gSeq_get_int rfl (by rfl) HK.out _ _ rfl _ _ rfl _ _ _ _ (by first | exact Has.here _ | exact Has.next _ (Has.here _) | exact Has.next _ (Has.next _ (Has.here _)) | exact Has.next _ (Has.next _ (Has.next _ (Has.here _))) | exact Has.next _ (Has.next _ (Has.next _ (Has.next _ (Has.here _)))) | exact Has.next _ (Has.next _ (Has.next _ (Has.next _ (Has.next _ (Has.here _))))) | exact Has.next _ (Has.next _ (Has.next _ (Has.next _ (Has.next _ (Has.next _ (Has.here _)))))) | exact Has.next _ (Has.next _ (Has.next _ (Has.next _ (Has.next _ (Has.next _ (Has.next _ (Has.here _))))))) | exact Has.next _ (Has.next _ (Has.next _ (Has.next _ (Has.next _ (Has.next _ (Has.next _ (Has.next _ (Has.here _)))))))) | exact Has.next _ (Has.next _ (Has.next _ (Has.next _ (Has.next _ (Has.next _ (Has.next _ (Has.next _ (Has.next _ (Has.here _)))))))))) rfl (by omega) ?_; (try simp only [Act.put, Act.eval, List.setIfInBounds_toArray, List.set_cons_zero, List.set_cons_succ, Array.getD_eq_getD_getElem?, List.getElem?_toArray, List.getElem?_cons_succ, List.getElem?_cons_zero, Option.getD_some])) | (refine gSeq_skip rfl (by rfl) ?_; (try simp only [Act.put, Act.eval, List.setIfInBounds_toArray, List.set_cons_zero, List.set_cons_succ, Array.getD_eq_getD_getElem?, List.getElem?_toArray, List.getElem?_cons_succ, List.getElem?_cons_zero, Option.getD_some])) | (refine gSeq_move _ rfl rfl (by rfl) ?_; (try simp only [Act.put, Act.eval, List.setIfInBounds_toArray, List.set_cons_zero, List.set_cons_succ, Array.getD_eq_getD_getElem?, List.getElem?_toArray, List.getElem?_cons_succ, List.getElem?_cons_zero, Option.getD_some])) | (refine gSeq_assign _ rfl rfl (by rfl) ?_; (try simp only [Act.put, Act.eval, List.setIfInBounds_toArray, List.set_cons_zero, List.set_cons_succ, Array.getD_eq_getD_getElem?, List.getElem?_toArray, List.getElem?_cons_succ, List.getElem?_cons_zero, Option.getD_some])) | (refine gSeq_pure rfl (by rfl) ?_ ?_ ?_; (rotate_left; (intro w'; (skip); go_simp; (first | done | with_reducible rfl)); (try simp only [Act.put, Act.eval, List.setIfInBounds_toArray, List.set_cons_zero, List.set_cons_succ, Array.getD_eq_getD_getElem?, List.getElem?_toArray, List.getElem?_cons_succ, List.getElem?_cons_zero, Option.getD_some]))) | (fail) | (refine gSeq_still rfl (by rfl) ?_ ?_ ?_; (rotate_left; (intro w' hG; (skip); go_simp; (first | done | with_reducible rfl)); (try simp only [Act.put, Act.eval, List.setIfInBounds_toArray, List.set_cons_zero, List.set_cons_succ, Array.getD_eq_getD_getElem?, List.getElem?_toArray, List.getElem?_cons_succ, List.getElem?_cons_zero, Option.getD_some])))))
              (refine gSeq_do rfl (by rfl) (fun K hK => ?_)); go_simp
              refine (rot64_1 _ e3 e4 _).mono ?_
              rintro e wn ⟨rfl, hd⟩
              refine hK _ _ (grown_drawn hd) ?_
              have HKN := Lib.hid (HK.out.grow (grown_drawn hd))
              clear hK K hd HK
              have HK := HKN
              clear HKN
              (try simp only [Act.put, Act.eval, List.setIfInBounds_toArray, List.set_cons_zero, List.set_cons_succ, Array.getD_eq_getD_getElem?, List.getElem?_toArray, List.getElem?_cons_succ, List.getElem?_cons_zero, Option.getD_some])
              (repeat (first | (refine gSeq_get_int rfl (by rfl) HK.out _ _ rfl _ _ rfl _ _ _ _ (by first | exact Has.here _ | exact Has.next _ (Has.here _) | exact Has.next _ (Has.next _ (Has.here _)) | exact Has.next _ (Has.next _ (Has.next _ (Has.here _))) | exact Has.next _ (Has.next _ (Has.next _ (Has.next _ (Has.here _)))) | exact Has.next _ (Has.next _ (Has.next _ (Has.next _ (Has.next _ (Has.here _))))) | exact Has.next _ (Has.next _ (Has.next _ (Has.next _ (Has.next _ (Has.next _ (Has.here _)))))) | exact Has.next _ (Has.next _ (Has.next _ (Has.next _ (Has.next _ (Has.next _ (Has.next _ (Has.here _))))))) | exact Has.next _ (Has.next _ (Has.next _ (Has.next _ (Has.next _ (Has.next _ (Has.next _ (Has.next _ (Has.here _)))))))) | exact Has.next _ (Has.next _ (Has.next _ (Has.next _ (Has.next _ (Has.next _ (Has.next _ (Has.next _ (Has.next _ (Has.here _)))))))))) rfl (by omega) ?_; (try simp only [Act.put, Act.eval, List.setIfInBounds_toArray, List.set_cons_zero, List.set_cons_succ, Array.getD_eq_getD_getElem?, List.getElem?_toArray, List.getElem?_cons_succ, List.getElem?_cons_zero, Option.getD_some])) | (refine gSeq_skip rfl (by rfl) ?_; (try simp only [Act.put, Act.eval, List.setIfInBounds_toArray, List.set_cons_zero, List.set_cons_succ, Array.getD_eq_getD_getElem?, List.getElem?_toArray, List.getElem?_cons_succ, List.getElem?_cons_zero, Option.getD_some])) | (refine gSeq_move _ rfl rfl (by rfl) ?_; (try simp only [Act.put, Act.eval, List.setIfInBounds_toArray, List.set_cons_zero, List.set_cons_succ, Array.getD_eq_getD_getElem?, List.getElem?_toArray, List.getElem?_cons_succ, List.getElem?_cons_zero, Option.getD_some])) | (refine gSeq_assign _ rfl rfl (by rfl) ?_; (try simp only [Act.put, Act.eval, List.setIfInBounds_toArray, List.set_cons_zero, List.set_cons_succ, Array.getD_eq_getD_getElem?, List.getElem?_toArray, List.getElem?_cons_succ, List.getElem?_cons_zero, Option.getD_some])) | (refine gSeq_pure rfl (by rfl) ?_ ?_ ?_; (rotate_left; (intro w'; (skip); go_simp; (first | done | with_reducible rfl)); (try simp only [Act.put, Act.eval, List.setIfInBounds_toArray, List.set_cons_zero, List.set_cons_succ, Array.getD_eq_getD_getElem?, List.getElem?_toArray, List.getElem?_cons_succ, List.getElem?_cons_zero, Option.getD_some]))) | (fail) | (refine gSeq_still rfl (by rfl) ?_ ?_ ?_; (rotate_left; (intro w' hG; (skip); go_simp; (first | done | with_reducible rfl)); (try simp only [Act.put, Act.eval, List.setIfInBounds_toArray, List.set_cons_zero, List.set_cons_succ, Array.getD_eq_getD_getElem?, List.getElem?_toArray, List.getElem?_cons_succ, List.getElem?_cons_zero, Option.getD_some])))))
              (refine gSeq_do rfl (by rfl) (fun K hK => ?_)); go_simp
              refine (rot64_8 _ e3 e4 _).mono ?_
              rintro e wn ⟨rfl, hd⟩
              refine hK _ _ (grown_drawn hd) ?_
              have HKN := Lib.hid (HK.out.grow (grown_drawn hd))
              clear hK K hd HK
              have HK := HKN
              clear HKN
              (try simp only [Act.put, Act.eval, List.setIfInBounds_toArray, List.set_cons_zero, List.set_cons_succ, Array.getD_eq_getD_getElem?, List.getElem?_toArray, List.getElem?_cons_succ, List.getElem?_cons_zero, Option.getD_some])
              (repeat (first | (refine gSeq_get_int rfl (by rfl) HK.out _ _ rfl _ _ rfl _ _ _ _ (by first | exact Has.here _ | exact Has.next _ (Has.here _) | exact Has.next _ (Has.next _ (Has.here _)) | exact Has.next _ (Has.next _ (Has.next _ (Has.here _))) | exact Has.next _ (Has.next _ (Has.next _ (Has.next _ (Has.here _)))) | exact Has.next _ (Has.next _ (Has.next _ (Has.next _ (Has.next _ (Has.here _))))) | exact Has.next _ (Has.next _ (Has.next _ (Has.next _ (Has.next _ (Has.next _ (Has.here _)))))) | exact Has.next _ (Has.next _ (Has.next _ (Has.next _ (Has.next _ (Has.next _ (Has.next _ (Has.here _))))))) | exact Has.next _ (Has.next _ (Has.next _ (Has.next _ (Has.next _ (Has.next _ (Has.next _ (Has.next _ (Has.here _)))))))) | exact Has.next _ (Has.next _ (Has.next _ (Has.next _ (Has.next _ (Has.next _ (Has.next _ (Has.next _ (Has.next _ (Has.here _)))))))))) rfl (by omega) ?_; (try simp only [Act.put, Act.eval, List.setIfInBounds_toArray, List.set_cons_zero, List.set_cons_succ, Array.getD_eq_getD_getElem?, List.getElem?_toArray, List.getElem?_cons_succ, List.getElem?_cons_zero, Option.getD_some])) | (refine gSeq_skip rfl (by rfl) ?_; (try simp only [Act.put, Act.eval, List.setIfInBounds_toArray, List.set_cons_zero, List.set_cons_succ, Array.getD_eq_getD_getElem?, List.getElem?_toArray, List.getElem?_cons_succ, List.getElem?_cons_zero, Option.getD_some])) | (refine gSeq_move _ rfl rfl (by rfl) ?_; (try simp only [Act.put, Act.eval, List.setIfInBounds_toArray, List.set_cons_zero, List.set_cons_succ, Array.getD_eq_getD_getElem?, List.getElem?_toArray, List.getElem?_cons_succ, List.getElem?_cons_zero, Option.getD_some])) | (refine gSeq_assign _ rfl rfl (by rfl) ?_; (try simp only [Act.put, Act.eval, List.setIfInBounds_toArray, List.set_cons_zero, List.set_cons_succ, Array.getD_eq_getD_getElem?, List.getElem?_toArray, List.getElem?_cons_succ, List.getElem?_cons_zero, Option.getD_some])) | (refine gSeq_pure rfl (by rfl) ?_ ?_ ?_; (rotate_left; (intro w'; (skip); go_simp; (first | done | with_reducible rfl)); (try simp only [Act.put, Act.eval, List.setIfInBounds_toArray, List.set_cons_zero, List.set_cons_succ, Array.getD_eq_getD_getElem?, List.getElem?_toArray, List.getElem?_cons_succ, List.getElem?_cons_zero, Option.getD_some]))) | (fail) | (refine gSeq_still rfl (by rfl) ?_ ?_ ?_; (rotate_left; (intro w' hG; (skip); go_simp; (first | done | with_reducible rfl)); (try simp only [Act.put, Act.eval, List.setIfInBounds_toArray, List.set_cons_zero, List.set_cons_succ, Array.getD_eq_getD_getElem?, List.getElem?_toArray, List.getElem?_cons_succ, List.getElem?_cons_zero, Option.getD_some])))))
              (refine gSeq_do rfl (by rfl) (fun K hK => ?_)); go_simp
              refine (rot64_19 _ e5 e6 _).mono ?_
              rintro e wn ⟨rfl, hd⟩
              refine hK _ _ (grown_drawn hd) ?_
              have HKN := Lib.hid (HK.out.grow (grown_drawn hd))
              clear hK K hd HK
              have HK := HKN
              clear HKN
              (try simp only [Act.put, Act.eval, List.setIfInBounds_toArray, List.set_cons_zero, List.set_cons_succ, Array.getD_eq_getD_getElem?, List.getElem?_toArray, List.getElem?_cons_succ, List.getElem?_cons_zero, Option.getD_some])
              (repeat (first | (refine gSeq_get_int rfl (by rfl) HK.out _ _ rfl _ _ rfl _ _ _ _ (by first | exact Has.here _ | exact Has.next _ (Has.here _) | exact Has.next _ (Has.next _ (Has.here _)) | exact Has.next _ (Has.next _ (Has.next _ (Has.here _))) | exact Has.next _ (Has.next _ (Has.next _ (Has.next _ (Has.here _)))) | exact Has.next _ (Has.next _ (Has.next _ (Has.next _ (Has.next _ (Has.here _))))) | exact Has.next _ (Has.next _ (Has.next _ (Has.next _ (Has.next _ (Has.next _ (Has.here _)))))) | exact Has.next _ (Has.next _ (Has.next _ (Has.next _ (Has.next _ (Has.next _ (Has.next _ (Has.here _))))))) | exact Has.next _ (Has.next _ (Has.next _ (Has.next _ (Has.next _ (Has.next _ (Has.next _ (Has.next _ (Has.here _)))))))) | exact Has.next _ (Has.next _ (Has.next _ (Has.next _ (Has.next _ (Has.next _ (Has.next _ (Has.next _ (Has.next _ (Has.here _)))))))))) rfl (by omega) ?_; (try simp only [Act.put, Act.eval, List.setIfInBounds_toArray, List.set_cons_zero, List.set_cons_succ, Array.getD_eq_getD_getElem?, List.getElem?_toArray, List.getElem?_cons_succ, List.getElem?_cons_zero, Option.getD_some])) | (refine gSeq_skip rfl (by rfl) ?_; (try simp only [Act.put, Act.eval, List.setIfInBounds_toArray, List.set_cons_zero, List.set_cons_succ, Array.getD_eq_getD_getElem?, List.getElem?_toArray, List.getElem?_cons_succ, List.getElem?_cons_zero, Option.getD_some])) | (refine gSeq_move _ rfl rfl (by rfl) ?_; (try simp only [Act.put, Act.eval, List.setIfInBounds_toArray, List.set_cons_zero, List.set_cons_succ, Array.getD_eq_getD_getElem?, List.getElem?_toArray, List.getElem?_cons_succ, List.getElem?_cons_zero, Option.getD_some])) | (refine gSeq_assign _ rfl rfl (by rfl) ?_; (try simp only [Act.put, Act.eval, List.setIfInBounds_toArray, List.set_cons_zero, List.set_cons_succ, Array.getD_eq_getD_getElem?, List.getElem?_toArray, List.getElem?_cons_succ, List.getElem?_cons_zero, Option.getD_some])) | (refine gSeq_pure rfl (by rfl) ?_ ?_ ?_; (rotate_left; (intro w'; (skip); go_simp; (first | done | with_reducible rfl)); (try simp only [Act.put, Act.eval, List.setIfInBounds_toArray, List.set_cons_zero, List.set_cons_succ, Array.getD_eq_getD_getElem?, List.getElem?_toArray, List.getElem?_cons_succ, List.getElem?_cons_zero, Option.getD_some]))) | (fail) | (refine gSeq_still rfl (by rfl) ?_ ?_ ?_; (rotate_left; (intro w' hG; (skip); go_simp; (first | done | with_reducible rfl)); (try simp only [Act.put, Act.eval, List.setIfInBounds_toArray, List.set_cons_zero, List.set_cons_succ, Array.getD_eq_getD_getElem?, List.getElem?_toArray, List.getElem?_cons_succ, List.getElem?_cons_zero, Option.getD_some])))))
              (refine gSeq_do rfl (by rfl) (fun K hK => ?_)); go_simp
              refine (rot64_61 _ e5 e6 _).mono ?_
              rintro e wn ⟨rfl, hd⟩
              refine hK _ _ (grown_drawn hd) ?_
              have HKN := Lib.hid (HK.out.grow (grown_drawn hd))
              clear hK K hd HK
              have HK := HKN
              clear HKN
              (try simp only [Act.put, Act.eval, List.setIfInBounds_toArray, List.set_cons_zero, List.set_cons_succ, Array.getD_eq_getD_getElem?, List.getElem?_toArray, List.getElem?_cons_succ, List.getElem?_cons_zero, Option.getD_some])
              (repeat (first | (refine gSeq_get_int rfl (by rfl) HK.out _ _ rfl _ _ rfl _ _ _ _ (by first | exact Has.here _ | exact Has.next _ (Has.here _) | exact Has.next _ (Has.next _ (Has.here _)) | exact Has.next _ (Has.next _ (Has.next _ (Has.here _))) | exact Has.next _ (Has.next _ (Has.next _ (Has.next _ (Has.here _)))) | exact Has.next _ (Has.next _ (Has.next _ (Has.next _ (Has.next _ (Has.here _))))) | exact Has.next _ (Has.next _ (Has.next _ (Has.next _ (Has.next _ (Has.next _ (Has.here _)))))) | exact Has.next _ (Has.next _ (Has.next _ (Has.next _ (Has.next _ (Has.next _ (Has.next _ (Has.here _))))))) | exact Has.next _ (Has.next _ (Has.next _ (Has.next _ (Has.next _ (Has.next _ (Has.next _ (Has.next _ (Has.here _)))))))) | exact Has.next _ (Has.next _ (Has.next _ (Has.next _ (Has.next _ (Has.next _ (Has.next _ (Has.next _ (Has.next _ (Has.here _)))))))))) rfl (by omega) ?_; (try simp only [Act.put, Act.eval, List.setIfInBounds_toArray, List.set_cons_zero, List.set_cons_succ, Array.getD_eq_getD_getElem?, List.getElem?_toArray, List.getElem?_cons_succ, List.getElem?_cons_zero, Option.getD_some])) | (refine gSeq_skip rfl (by rfl) ?_; (try simp only [Act.put, Act.eval, List.setIfInBounds_toArray, List.set_cons_zero, List.set_cons_succ, Array.getD_eq_getD_getElem?, List.getElem?_toArray, List.getElem?_cons_succ, List.getElem?_cons_zero, Option.getD_some])) | (refine gSeq_move _ rfl rfl (by rfl) ?_; (try simp only [Act.put, Act.eval, List.setIfInBounds_toArray, List.set_cons_zero, List.set_cons_succ, Array.getD_eq_getD_getElem?, List.getElem?_toArray, List.getElem?_cons_succ, List.getElem?_cons_zero, Option.getD_some])) | (refine gSeq_assign _ rfl rfl (by rfl) ?_; (try simp only [Act.put, Act.eval, List.setIfInBounds_toArray, List.set_cons_zero, List.set_cons_succ, Array.getD_eq_getD_getElem?, List.getElem?_toArray, List.getElem?_cons_succ, List.getElem?_cons_zero, Option.getD_some])) | (refine gSeq_pure rfl (by rfl) ?_ ?_ ?_; (rotate_left; (intro w'; (skip); go_simp; (first | done | with_reducible rfl)); (try simp only [Act.put, Act.eval, List.setIfInBounds_toArray, List.set_cons_zero, List.set_cons_succ, Array.getD_eq_getD_getElem?, List.getElem?_toArray, List.getElem?_cons_succ, List.getElem?_cons_zero, Option.getD_some]))) | ((refine gSeq_put_int rfl (by rfl) HK.out _ _ _ rfl _ _ _ _ rfl rfl _ _ _ (by first | exact Upd.here _ | exact Upd.next _ (Upd.here _) | exact Upd.next _ (Upd.next _ (Upd.here _)) | exact Upd.next _ (Upd.next _ (Upd.next _ (Upd.here _))) | exact Upd.next _ (Upd.next _ (Upd.next _ (Upd.next _ (Upd.here _)))) | exact Upd.next _ (Upd.next _ (Upd.next _ (Upd.next _ (Upd.next _ (Upd.here _))))) | exact Upd.next _ (Upd.next _ (Upd.next _ (Upd.next _ (Upd.next _ (Upd.next _ (Upd.here _)))))) | exact Upd.next _ (Upd.next _ (Upd.next _ (Upd.next _ (Upd.next _ (Upd.next _ (Upd.next _ (Upd.here _))))))) | exact Upd.next _ (Upd.next _ (Upd.next _ (Upd.next _ (Upd.next _ (Upd.next _ (Upd.next _ (Upd.next _ (Upd.here _)))))))) | exact Upd.next _ (Upd.next _ (Upd.next _ (Upd.next _ (Upd.next _ (Upd.next _ (Upd.next _ (Upd.next _ (Upd.next _ (Upd.here _)))))))))) (by omega) (by kernel_rfl) ?_; (intro wn hkn; have HKN := Lib.hid hkn; clear hkn; clear HK; have HK := HKN; clear HKN); (try simp only [Act.put, Act.eval, List.setIfInBounds_toArray, List.set_cons_zero, List.set_cons_succ, Array.getD_eq_getD_getElem?, List.getElem?_toArray, List.getElem?_cons_succ, List.getElem?_cons_zero, Option.getD_some]))) | (refine gSeq_still rfl (by rfl) ?_ ?_ ?_; (rotate_left; (intro w' hG; (skip); go_simp; (first | done | with_reducible rfl)); (try simp only [Act.put, Act.eval, List.setIfInBounds_toArray, List.set_cons_zero, List.set_cons_succ, Array.getD_eq_getD_getElem?, List.getElem?_toArray, List.getElem?_cons_succ, List.getElem?_cons_zero, Option.getD_some])))))
              refine gSeq_nil ?_
              clear z2 z3 t2 t3
              have HK' : Hid (Own w wn [.ints pw .u64 47 80 (wdB5 (wdA5 b 128) (i + 1)), .sl 5 .u8 (some ⟨pm, 0, none⟩) N c M, .ints ph .u64 39 8 H, .sl 38 .u64 (some ⟨pk, 0, none⟩) 80 ck KK, .ints po .u8 27 64 zs]) := by rw [HX.out, wdN5, ← HX1.out, ← HX14.out]; exact HK
              clear HK
              have HK := HK'
              clear HK'
              go_wp2_with fail
              exact ⟨⟨i + 1, by omega, by go_num, HK⟩, by simp [intOf]; omega⟩
            · have hi2 : i = 64 := by omega
              subst hi2
              clear hlt hi
              rw [show (16 : Int) + ((64 : Nat) : Int) = 80 from rfl]
              obtain ⟨ws, hws⟩ : ∃ ws, ws = wdB5 (wdA5 b 128) 64 := ⟨_, rfl⟩
              have HWL := Lib.hid (show ws.length = 80 by rw [hws, length_wdB5, length_wdA5])
              have HNX' := Lib.hid (show hs64 M (k + 1) = addH5 H (rn5 H ws 80) 8 by rw [HNX.out, hws])
              rw [← hws] at HK
              clear hws HNX
              go_wp2_with (first | (refine wpList_get_row rfl HK.out 39 _ rfl _ rfl _ _ _ _ (by first | exact Has.here _ | exact Has.next _ (Has.here _) | exact Has.next _ (Has.next _ (Has.here _)) | exact Has.next _ (Has.next _ (Has.next _ (Has.here _))) | exact Has.next _ (Has.next _ (Has.next _ (Has.next _ (Has.here _)))) | exact Has.next _ (Has.next _ (Has.next _ (Has.next _ (Has.next _ (Has.here _))))) | exact Has.next _ (Has.next _ (Has.next _ (Has.next _ (Has.next _ (Has.next _ (Has.here _)))))) | exact Has.next _ (Has.next _ (Has.next _ (Has.next _ (Has.next _ (Has.next _ (Has.next _ (Has.here _))))))) | exact Has.next _ (Has.next _ (Has.next _ (Has.next _ (Has.next _ (Has.next _ (Has.next _ (Has.next _ (Has.here _)))))))) | exact Has.next _ (Has.next _ (Has.next _ (Has.next _ (Has.next _ (Has.next _ (Has.next _ (Has.next _ (Has.next _ (Has.here _)))))))))) _ Try.underlying39 rfl (by kernel_rfl) ?_) | (refine wpList_new_ints rfl HK.out _ rfl .u64 39 8 (zer 8) (length_zer _) (fun w => by go_simp; first | exact ⟨rfl, rfl⟩ | kernel_rfl) ?_))
              intro wn pv hkn
              have HKN := Lib.hid hkn
              clear hkn HK
              have HK := HKN
              clear HKN
              go_wp2_with (refine wpList_put_row rfl HK.out 39 _ _ rfl _ _ H rfl rfl _ _ _ (by first | exact Upd.here _ | exact Upd.next _ (Upd.here _) | exact Upd.next _ (Upd.next _ (Upd.here _)) | exact Upd.next _ (Upd.next _ (Upd.next _ (Upd.here _))) | exact Upd.next _ (Upd.next _ (Upd.next _ (Upd.next _ (Upd.here _)))) | exact Upd.next _ (Upd.next _ (Upd.next _ (Upd.next _ (Upd.next _ (Upd.here _))))) | exact Upd.next _ (Upd.next _ (Upd.next _ (Upd.next _ (Upd.next _ (Upd.next _ (Upd.here _)))))) | exact Upd.next _ (Upd.next _ (Upd.next _ (Upd.next _ (Upd.next _ (Upd.next _ (Upd.next _ (Upd.here _))))))) | exact Upd.next _ (Upd.next _ (Upd.next _ (Upd.next _ (Upd.next _ (Upd.next _ (Upd.next _ (Upd.next _ (Upd.here _)))))))) | exact Upd.next _ (Upd.next _ (Upd.next _ (Upd.next _ (Upd.next _ (Upd.next _ (Upd.next _ (Upd.next _ (Upd.next _ (Upd.here _)))))))))) (by exact HH8.out) (by kernel_rfl) ?_; (intro wn hkn; have HKN := Lib.hid hkn; clear hkn; clear HK; have HK := HKN; clear HKN))
              go_loopw [15] (fun v wr => ∃ (j : Nat), j ≤ 80 ∧ v = .int .i64 j ∧ Hid (Own w wr [.ints pv .u64 39 8 (rn5 H ws j), .ints pw .u64 47 80 ws, .sl 5 .u8 (some ⟨pm, 0, none⟩) N c M, .ints ph .u64 39 8 H, .sl 38 .u64 (some ⟨pk, 0, none⟩) 80 ck KK, .ints po .u8 27 64 zs])) (fun v _ => 80 - (intOf v).toNat)
              case atStart => exact ⟨0, by omega, rfl, HK⟩
              case round =>
                obtain ⟨j, hj, rfl, HK'⟩ := hrel
                clear HK
                have HK := HK'
                clear HK'
                by_cases hlj : j < 80
                · obtain ⟨v, hv⟩ : ∃ v, v = rn5 H ws j := ⟨_, rfl⟩
                  rw [← hv] at HK
                  have HV := Lib.hid (show okB 18446744073709551616 v by rw [hv]; exact ok_rn5 HHO.out ws j)
                  obtain ⟨q, hq⟩ : ∃ q, q = KK.getD j 0 := ⟨_, rfl⟩
                  have HNV := Lib.hid (show rn5 H ws (j + 1) = step64 v q (ws.getD j 0) by rw [rn5, hv, hq, HKK.out])
                  have HKW := Lib.hid (show KK[j]?.getD 0 = q by rw [hq, List.getD_eq_getElem?_getD])
                  have hj0 : (0 : Int) ≤ j := by omega
                  have hj64 : (j : Int) < 80 := by omega
                  have hj80 : (j : Int) < 80 := by omega
                  clear hv hq
                  have e4 := ok_getD (by decide) HV.out 4
                  have e0 := ok_getD (by decide) HV.out 0
                  go_wp2_with fail
                  refine wp_region_grow [(2, 0), (1, 1), (2, 2), (1, 3), (2, 4), (2, 5)] (by kernel_rfl) (by kernel_rfl) (fun _ _ _ _ _ h => h) (fun _ _ _ _ _ h => h) ?_
                  refine gSeq_own HK.out fun wn hkn gn ein => ?_
                  have HKN := Lib.hid hkn
                  clear hkn HK
                  have HK := HKN
                  clear HKN
                  clear gn ein
                  (repeat (first | (refine gSeq_get_int rfl (by rfl) HK.out _ _ rfl _ _ rfl _ _ _ _ (by first | exact Has.here _ | exact Has.next _ (Has.here _) | exact Has.next _ (Has.next _ (Has.here _)) | exact Has.next _ (Has.next _ (Has.next _ (Has.here _))) | exact Has.next _ (Has.next _ (Has.next _ (Has.next _ (Has.here _)))) | exact Has.next _ (Has.next _ (Has.next _ (Has.next _ (Has.next _ (Has.here _))))) | exact Has.next _ (Has.next _ (Has.next _ (Has.next _ (Has.next _ (Has.next _ (Has.here _)))))) | exact Has.next _ (Has.next _ (Has.next _ (Has.next _ (Has.next _ (Has.next _ (Has.next _ (Has.here _))))))) | exact Has.next _ (Has.next _ (Has.next _ (Has.next _ (Has.next _ (Has.next _ (Has.next _ (Has.next _ (Has.here _)))))))) | exact Has.next _ (Has.next _ (Has.next _ (Has.next _ (Has.next _ (Has.next _ (Has.next _ (Has.next _ (Has.next _ (Has.here _)))))))))) rfl (by omega) ?_; (try simp only [Act.put, Act.eval, List.setIfInBounds_toArray, List.set_cons_zero, List.set_cons_succ, Array.getD_eq_getD_getElem?, List.getElem?_toArray, List.getElem?_cons_succ, List.getElem?_cons_zero, Option.getD_some])) | (refine gSeq_skip rfl (by rfl) ?_; (try simp only [Act.put, Act.eval, List.setIfInBounds_toArray, List.set_cons_zero, List.set_cons_succ, Array.getD_eq_getD_getElem?, List.getElem?_toArray, List.getElem?_cons_succ, List.getElem?_cons_zero, Option.getD_some])) | (refine gSeq_move _ rfl rfl (by rfl) ?_; (try simp only [Act.put, Act.eval, List.setIfInBounds_toArray, List.set_cons_zero, List.set_cons_succ, Array.getD_eq_getD_getElem?, List.getElem?_toArray, List.getElem?_cons_succ, List.getElem?_cons_zero, Option.getD_some])) | (refine gSeq_assign _ rfl rfl (by rfl) ?_; (try simp only [Act.put, Act.eval, List.setIfInBounds_toArray, List.set_cons_zero, List.set_cons_succ, Array.getD_eq_getD_getElem?, List.getElem?_toArray, List.getElem?_cons_succ, List.getElem?_cons_zero, Option.getD_some])) | (refine gSeq_pure rfl (by rfl) ?_ ?_ ?_; (rotate_left; (intro w'; (skip); go_simp; (first | done | with_reducible rfl)); (try simp only [Act.put, Act.eval, List.setIfInBounds_toArray, List.set_cons_zero, List.set_cons_succ, Array.getD_eq_getD_getElem?, List.getElem?_toArray, List.getElem?_cons_succ, List.getElem?_cons_zero, Option.getD_some]))) | (fail) | (refine gSeq_still rfl (by rfl) ?_ ?_ ?_; (rotate_left; (intro w' hG; (skip); go_simp; (first | done | with_reducible rfl)); (try simp only [Act.put, Act.eval, List.setIfInBounds_toArray, List.set_cons_zero, List.set_cons_succ, Array.getD_eq_getD_getElem?, List.getElem?_toArray, List.getElem?_cons_succ, List.getElem?_cons_zero, Option.getD_some])))))
                  refine gSeq_nil ?_
                  obtain ⟨x4, hx4⟩ : ∃ y, y = v.getD 4 0 := ⟨_, rfl⟩
                  obtain ⟨x0, hx0⟩ : ∃ y, y = v.getD 0 0 := ⟨_, rfl⟩
                  rw [← hx4] at e4 ⊢
                  rw [← hx0] at e0 ⊢
                  have HX4 := Lib.hid hx4
                  have HX0 := Lib.hid hx0
                  clear hx4 hx0
                  obtain ⟨a4, b4⟩ := e4
                  obtain ⟨a0, b0⟩ := e0
                  go_wp2_with fail
                  refine wp_region_grow [(2, 0), (1, 1), (2, 2), (2, 4), (2, 7), (2, 11), (2, 12), (1, 13), (2, 14), (2, 15), (2, 16), (2, 17), (1, 18), (2, 19), (2, 20), (2, 22), (2, 23), (2, 24), (1, 25), (2, 27), (2, 28), (1, 29), (0, 3), (0, 5), (2, 6), (0, 8), (2, 9), (2, 10), (2, 21), (2, 26), (2, 30), (2, 31)] (by kernel_rfl) (by kernel_rfl) (fun _ _ _ _ _ h => h) (fun _ _ _ _ _ h => h) ?_
                  refine gSeq_own HK.out fun wn hkn gn ein => ?_
                  have HKN := Lib.hid hkn
                  clear hkn HK
                  have HK := HKN
                  clear HKN
                  clear gn ein
                  have hkw := HKW.out
                  (repeat (first | (refine gSeq_get_int rfl (by rfl) HK.out _ _ rfl _ _ rfl _ _ _ _ (by first | exact Has.here _ | exact Has.next _ (Has.here _) | exact Has.next _ (Has.next _ (Has.here _)) | exact Has.next _ (Has.next _ (Has.next _ (Has.here _))) | exact Has.next _ (Has.next _ (Has.next _ (Has.next _ (Has.here _)))) | exact Has.next _ (Has.next _ (Has.next _ (Has.next _ (Has.next _ (Has.here _))))) | exact Has.next _ (Has.next _ (Has.next _ (Has.next _ (Has.next _ (Has.next _ (Has.here _)))))) | exact Has.next _ (Has.next _ (Has.next _ (Has.next _ (Has.next _ (Has.next _ (Has.next _ (Has.here _))))))) | exact Has.next _ (Has.next _ (Has.next _ (Has.next _ (Has.next _ (Has.next _ (Has.next _ (Has.next _ (Has.here _)))))))) | exact Has.next _ (Has.next _ (Has.next _ (Has.next _ (Has.next _ (Has.next _ (Has.next _ (Has.next _ (Has.next _ (Has.here _)))))))))) rfl (by omega) ?_; (try simp only [Act.put, Act.eval, List.setIfInBounds_toArray, List.set_cons_zero, List.set_cons_succ, Array.getD_eq_getD_getElem?, List.getElem?_toArray, List.getElem?_cons_succ, List.getElem?_cons_zero, Option.getD_some])) | (refine gSeq_skip rfl (by rfl) ?_; (try simp only [Act.put, Act.eval, List.setIfInBounds_toArray, List.set_cons_zero, List.set_cons_succ, Array.getD_eq_getD_getElem?, List.getElem?_toArray, List.getElem?_cons_succ, List.getElem?_cons_zero, Option.getD_some])) | (refine gSeq_move _ rfl rfl (by rfl) ?_; (try simp only [Act.put, Act.eval, List.setIfInBounds_toArray, List.set_cons_zero, List.set_cons_succ, Array.getD_eq_getD_getElem?, List.getElem?_toArray, List.getElem?_cons_succ, List.getElem?_cons_zero, Option.getD_some])) | (refine gSeq_assign _ rfl rfl (by rfl) ?_; (try simp only [Act.put, Act.eval, List.setIfInBounds_toArray, List.set_cons_zero, List.set_cons_succ, Array.getD_eq_getD_getElem?, List.getElem?_toArray, List.getElem?_cons_succ, List.getElem?_cons_zero, Option.getD_some])) | (refine gSeq_pure rfl (by rfl) ?_ ?_ ?_; (rotate_left; (intro w'; (skip); go_simp; (first | done | with_reducible rfl)); (try simp only [Act.put, Act.eval, List.setIfInBounds_toArray, List.set_cons_zero, List.set_cons_succ, Array.getD_eq_getD_getElem?, List.getElem?_toArray, List.getElem?_cons_succ, List.getElem?_cons_zero, Option.getD_some]))) | ((refine gSeq_get_sl rfl (by rfl) HK.out _ _ rfl _ _ rfl _ _ _ _ _ (by first | exact Has.here _ | exact Has.next _ (Has.here _) | exact Has.next _ (Has.next _ (Has.here _)) | exact Has.next _ (Has.next _ (Has.next _ (Has.here _))) | exact Has.next _ (Has.next _ (Has.next _ (Has.next _ (Has.here _)))) | exact Has.next _ (Has.next _ (Has.next _ (Has.next _ (Has.next _ (Has.here _))))) | exact Has.next _ (Has.next _ (Has.next _ (Has.next _ (Has.next _ (Has.next _ (Has.here _)))))) | exact Has.next _ (Has.next _ (Has.next _ (Has.next _ (Has.next _ (Has.next _ (Has.next _ (Has.here _))))))) | exact Has.next _ (Has.next _ (Has.next _ (Has.next _ (Has.next _ (Has.next _ (Has.next _ (Has.next _ (Has.here _)))))))) | exact Has.next _ (Has.next _ (Has.next _ (Has.next _ (Has.next _ (Has.next _ (Has.next _ (Has.next _ (Has.next _ (Has.here _)))))))))) rfl (by omega) ?_; (try simp only [Act.put, Act.eval, List.setIfInBounds_toArray, List.set_cons_zero, List.set_cons_succ, Array.getD_eq_getD_getElem?, List.getElem?_toArray, List.getElem?_cons_succ, List.getElem?_cons_zero, Option.getD_some]))) | (refine gSeq_still rfl (by rfl) ?_ ?_ ?_; (rotate_left; (intro w' hG; (skip); go_simp; (first | done | with_reducible rfl)); (try simp only [Act.put, Act.eval, List.setIfInBounds_toArray, List.set_cons_zero, List.set_cons_succ, Array.getD_eq_getD_getElem?, List.getElem?_toArray, List.getElem?_cons_succ, List.getElem?_cons_zero, Option.getD_some])))))
                  (refine gSeq_do rfl (by rfl) (fun K hK => ?_)); go_simp
                  refine (rot64_14 _ a4 b4 _).mono ?_
                  rintro e wn ⟨rfl, hd⟩
                  refine hK _ _ (grown_drawn hd) ?_
                  have HKN := Lib.hid (HK.out.grow (grown_drawn hd))
                  clear hK K hd HK
                  have HK := HKN
                  clear HKN
                  (try simp only [Act.put, Act.eval, List.setIfInBounds_toArray, List.set_cons_zero, List.set_cons_succ, Array.getD_eq_getD_getElem?, List.getElem?_toArray, List.getElem?_cons_succ, List.getElem?_cons_zero, Option.getD_some])
                  (repeat (first | (refine gSeq_get_int rfl (by rfl) HK.out _ _ rfl _ _ rfl _ _ _ _ (by first | exact Has.here _ | exact Has.next _ (Has.here _) | exact Has.next _ (Has.next _ (Has.here _)) | exact Has.next _ (Has.next _ (Has.next _ (Has.here _))) | exact Has.next _ (Has.next _ (Has.next _ (Has.next _ (Has.here _)))) | exact Has.next _ (Has.next _ (Has.next _ (Has.next _ (Has.next _ (Has.here _))))) | exact Has.next _ (Has.next _ (Has.next _ (Has.next _ (Has.next _ (Has.next _ (Has.here _)))))) | exact Has.next _ (Has.next _ (Has.next _ (Has.next _ (Has.next _ (Has.next _ (Has.next _ (Has.here _))))))) | exact Has.next _ (Has.next _ (Has.next _ (Has.next _ (Has.next _ (Has.next _ (Has.next _ (Has.next _ (Has.here _)))))))) | exact Has.next _ (Has.next _ (Has.next _ (Has.next _ (Has.next _ (Has.next _ (Has.next _ (Has.next _ (Has.next _ (Has.here _)))))))))) rfl (by omega) ?_; (try simp only [Act.put, Act.eval, List.setIfInBounds_toArray, List.set_cons_zero, List.set_cons_succ, Array.getD_eq_getD_getElem?, List.getElem?_toArray, List.getElem?_cons_succ, List.getElem?_cons_zero, Option.getD_some])) | (refine gSeq_skip rfl (by rfl) ?_; (try simp only [Act.put, Act.eval, List.setIfInBounds_toArray, List.set_cons_zero, List.set_cons_succ, Array.getD_eq_getD_getElem?, List.getElem?_toArray, List.getElem?_cons_succ, List.getElem?_cons_zero, Option.getD_some])) | (refine gSeq_move _ rfl rfl (by rfl) ?_; (try simp only [Act.put, Act.eval, List.setIfInBounds_toArray, List.set_cons_zero, List.set_cons_succ, Array.getD_eq_getD_getElem?, List.getElem?_toArray, List.getElem?_cons_succ, List.getElem?_cons_zero, Option.getD_some])) | (refine gSeq_assign _ rfl rfl (by rfl) ?_; (try simp only [Act.put, Act.eval, List.setIfInBounds_toArray, List.set_cons_zero, List.set_cons_succ, Array.getD_eq_getD_getElem?, List.getElem?_toArray, List.getElem?_cons_succ, List.getElem?_cons_zero, Option.getD_some])) | (refine gSeq_pure rfl (by rfl) ?_ ?_ ?_; (rotate_left; (intro w'; (skip); go_simp; (first | done | with_reducible rfl)); (try simp only [Act.put, Act.eval, List.setIfInBounds_toArray, List.set_cons_zero, List.set_cons_succ, Array.getD_eq_getD_getElem?, List.getElem?_toArray, List.getElem?_cons_succ, List.getElem?_cons_zero, Option.getD_some]))) | ((refine gSeq_get_sl rfl (by rfl) HK.out _ _ rfl _ _ rfl _ _ _ _ _ (by first | exact Has.here _ | exact Has.next _ (Has.here _) | exact Has.next _ (Has.next _ (Has.here _)) | exact Has.next _ (Has.next _ (Has.next _ (Has.here _))) | exact Has.next _ (Has.next _ (Has.next _ (Has.next _ (Has.here _)))) | exact Has.next _ (Has.next _ (Has.next _ (Has.next _ (Has.next _ (Has.here _))))) | exact Has.next _ (Has.next _ (Has.next _ (Has.next _ (Has.next _ (Has.next _ (Has.here _)))))) | exact Has.next _ (Has.next _ (Has.next _ (Has.next _ (Has.next _ (Has.next _ (Has.next _ (Has.here _))))))) | exact Has.next _ (Has.next _ (Has.next _ (Has.next _ (Has.next _ (Has.next _ (Has.next _ (Has.next _ (Has.here _)))))))) | exact Has.next _ (Has.next _ (Has.next _ (Has.next _ (Has.next _ (Has.next _ (Has.next _ (Has.next _ (Has.next _ (Has.here _)))))))))) rfl (by omega) ?_; (try simp only [Act.put, Act.eval, List.setIfInBounds_toArray, List.set_cons_zero, List.set_cons_succ, Array.getD_eq_getD_getElem?, List.getElem?_toArray, List.getElem?_cons_succ, List.getElem?_cons_zero, Option.getD_some]))) | (refine gSeq_still rfl (by rfl) ?_ ?_ ?_; (rotate_left; (intro w' hG; (skip); go_simp; (first | done | with_reducible rfl)); (try simp only [Act.put, Act.eval, List.setIfInBounds_toArray, List.set_cons_zero, List.set_cons_succ, Array.getD_eq_getD_getElem?, List.getElem?_toArray, List.getElem?_cons_succ, List.getElem?_cons_zero, Option.getD_some])))))
                  (refine gSeq_do rfl (by rfl) (fun K hK => ?_)); go_simp
                  refine (rot64_18 _ a4 b4 _).mono ?_
                  rintro e wn ⟨rfl, hd⟩
                  refine hK _ _ (grown_drawn hd) ?_
                  have HKN := Lib.hid (HK.out.grow (grown_drawn hd))
                  clear hK K hd HK
                  have HK := HKN
                  clear HKN
                  (try simp only [Act.put, Act.eval, List.setIfInBounds_toArray, List.set_cons_zero, List.set_cons_succ, Array.getD_eq_getD_getElem?, List.getElem?_toArray, List.getElem?_cons_succ, List.getElem?_cons_zero, Option.getD_some])
                  (repeat (first | (refine gSeq_get_int rfl (by rfl) HK.out _ _ rfl _ _ rfl _ _ _ _ (by first | exact Has.here _ | exact Has.next _ (Has.here _) | exact Has.next _ (Has.next _ (Has.here _)) | exact Has.next _ (Has.next _ (Has.next _ (Has.here _))) | exact Has.next _ (Has.next _ (Has.next _ (Has.next _ (Has.here _)))) | exact Has.next _ (Has.next _ (Has.next _ (Has.next _ (Has.next _ (Has.here _))))) | exact Has.next _ (Has.next _ (Has.next _ (Has.next _ (Has.next _ (Has.next _ (Has.here _)))))) | exact Has.next _ (Has.next _ (Has.next _ (Has.next _ (Has.next _ (Has.next _ (Has.next _ (Has.here _))))))) | exact Has.next _ (Has.next _ (Has.next _ (Has.next _ (Has.next _ (Has.next _ (Has.next _ (Has.next _ (Has.here _)))))))) | exact Has.next _ (Has.next _ (Has.next _ (Has.next _ (Has.next _ (Has.next _ (Has.next _ (Has.next _ (Has.next _ (Has.here _)))))))))) rfl (by omega) ?_; (try simp only [Act.put, Act.eval, List.setIfInBounds_toArray, List.set_cons_zero, List.set_cons_succ, Array.getD_eq_getD_getElem?, List.getElem?_toArray, List.getElem?_cons_succ, List.getElem?_cons_zero, Option.getD_some])) | (refine gSeq_skip rfl (by rfl) ?_; (try simp only [Act.put, Act.eval, List.setIfInBounds_toArray, List.set_cons_zero, List.set_cons_succ, Array.getD_eq_getD_getElem?, List.getElem?_toArray, List.getElem?_cons_succ, List.getElem?_cons_zero, Option.getD_some])) | (refine gSeq_move _ rfl rfl (by rfl) ?_; (try simp only [Act.put, Act.eval, List.setIfInBounds_toArray, List.set_cons_zero, List.set_cons_succ, Array.getD_eq_getD_getElem?, List.getElem?_toArray, List.getElem?_cons_succ, List.getElem?_cons_zero, Option.getD_some])) | (refine gSeq_assign _ rfl rfl (by rfl) ?_; (try simp only [Act.put, Act.eval, List.setIfInBounds_toArray, List.set_cons_zero, List.set_cons_succ, Array.getD_eq_getD_getElem?, List.getElem?_toArray, List.getElem?_cons_succ, List.getElem?_cons_zero, Option.getD_some])) | (refine gSeq_pure rfl (by rfl) ?_ ?_ ?_; (rotate_left; (intro w'; (skip); go_simp; (first | done | with_reducible rfl)); (try simp only [Act.put, Act.eval, List.setIfInBounds_toArray, List.set_cons_zero, List.set_cons_succ, Array.getD_eq_getD_getElem?, List.getElem?_toArray, List.getElem?_cons_succ, List.getElem?_cons_zero, Option.getD_some]))) | ((refine gSeq_get_sl rfl (by rfl) HK.out _ _ rfl _ _ rfl _ _ _ _ _ (by first | exact Has.here _ | exact Has.next _ (Has.here _) | exact Has.next _ (Has.next _ (Has.here _)) | exact Has.next _ (Has.next _ (Has.next _ (Has.here _))) | exact Has.next _ (Has.next _ (Has.next _ (Has.next _ (Has.here _)))) | exact Has.next _ (Has.next _ (Has.next _ (Has.next _ (Has.next _ (Has.here _))))) | exact Has.next _ (Has.next _ (Has.next _ (Has.next _ (Has.next _ (Has.next _ (Has.here _)))))) | exact Has.next _ (Has.next _ (Has.next _ (Has.next _ (Has.next _ (Has.next _ (Has.next _ (Has.here _))))))) | exact Has.next _ (Has.next _ (Has.next _ (Has.next _ (Has.next _ (Has.next _ (Has.next _ (Has.next _ (Has.here _)))))))) | exact Has.next _ (Has.next _ (Has.next _ (Has.next _ (Has.next _ (Has.next _ (Has.next _ (Has.next _ (Has.next _ (Has.here _)))))))))) rfl (by omega) ?_; (try simp only [Act.put, Act.eval, List.setIfInBounds_toArray, List.set_cons_zero, List.set_cons_succ, Array.getD_eq_getD_getElem?, List.getElem?_toArray, List.getElem?_cons_succ, List.getElem?_cons_zero, Option.getD_some]))) | (refine gSeq_still rfl (by rfl) ?_ ?_ ?_; (rotate_left; (intro w' hG; (skip); go_simp; (first | done | with_reducible rfl)); (try simp only [Act.put, Act.eval, List.setIfInBounds_toArray, List.set_cons_zero, List.set_cons_succ, Array.getD_eq_getD_getElem?, List.getElem?_toArray, List.getElem?_cons_succ, List.getElem?_cons_zero, Option.getD_some])))))
                  (refine gSeq_do rfl (by rfl) (fun K hK => ?_)); go_simp
                  refine (rot64_41 _ a4 b4 _).mono ?_
                  rintro e wn ⟨rfl, hd⟩
                  refine hK _ _ (grown_drawn hd) ?_
                  have HKN := Lib.hid (HK.out.grow (grown_drawn hd))
                  clear hK K hd HK
                  have HK := HKN
                  clear HKN
                  (try simp only [Act.put, Act.eval, List.setIfInBounds_toArray, List.set_cons_zero, List.set_cons_succ, Array.getD_eq_getD_getElem?, List.getElem?_toArray, List.getElem?_cons_succ, List.getElem?_cons_zero, Option.getD_some])
                  (repeat (first | (refine gSeq_get_int rfl (by rfl) HK.out _ _ rfl _ _ rfl _ _ _ _ (by first | exact Has.here _ | exact Has.next _ (Has.here _) | exact Has.next _ (Has.next _ (Has.here _)) | exact Has.next _ (Has.next _ (Has.next _ (Has.here _))) | exact Has.next _ (Has.next _ (Has.next _ (Has.next _ (Has.here _)))) | exact Has.next _ (Has.next _ (Has.next _ (Has.next _ (Has.next _ (Has.here _))))) | exact Has.next _ (Has.next _ (Has.next _ (Has.next _ (Has.next _ (Has.next _ (Has.here _)))))) | exact Has.next _ (Has.next _ (Has.next _ (Has.next _ (Has.next _ (Has.next _ (Has.next _ (Has.here _))))))) | exact Has.next _ (Has.next _ (Has.next _ (Has.next _ (Has.next _ (Has.next _ (Has.next _ (Has.next _ (Has.here _)))))))) | exact Has.next _ (Has.next _ (Has.next _ (Has.next _ (Has.next _ (Has.next _ (Has.next _ (Has.next _ (Has.next _ (Has.here _)))))))))) rfl (by omega) ?_; (try simp only [Act.put, Act.eval, List.setIfInBounds_toArray, List.set_cons_zero, List.set_cons_succ, Array.getD_eq_getD_getElem?, List.getElem?_toArray, List.getElem?_cons_succ, List.getElem?_cons_zero, Option.getD_some])) | (refine gSeq_skip rfl (by rfl) ?_; (try simp only [Act.put, Act.eval, List.setIfInBounds_toArray, List.set_cons_zero, List.set_cons_succ, Array.getD_eq_getD_getElem?, List.getElem?_toArray, List.getElem?_cons_succ, List.getElem?_cons_zero, Option.getD_some])) | (refine gSeq_move _ rfl rfl (by rfl) ?_; (try simp only [Act.put, Act.eval, List.setIfInBounds_toArray, List.set_cons_zero, List.set_cons_succ, Array.getD_eq_getD_getElem?, List.getElem?_toArray, List.getElem?_cons_succ, List.getElem?_cons_zero, Option.getD_some])) | (refine gSeq_assign _ rfl rfl (by rfl) ?_; (try simp only [Act.put, Act.eval, List.setIfInBounds_toArray, List.set_cons_zero, List.set_cons_succ, Array.getD_eq_getD_getElem?, List.getElem?_toArray, List.getElem?_cons_succ, List.getElem?_cons_zero, Option.getD_some])) | (refine gSeq_pure rfl (by rfl) ?_ ?_ ?_; (rotate_left; (intro w'; (skip); go_simp; (first | done | with_reducible rfl)); (try simp only [Act.put, Act.eval, List.setIfInBounds_toArray, List.set_cons_zero, List.set_cons_succ, Array.getD_eq_getD_getElem?, List.getElem?_toArray, List.getElem?_cons_succ, List.getElem?_cons_zero, Option.getD_some]))) | ((refine gSeq_get_sl rfl (by rfl) HK.out _ _ rfl _ _ rfl _ _ _ _ _ (by first | exact Has.here _ | exact Has.next _ (Has.here _) | exact Has.next _ (Has.next _ (Has.here _)) | exact Has.next _ (Has.next _ (Has.next _ (Has.here _))) | exact Has.next _ (Has.next _ (Has.next _ (Has.next _ (Has.here _)))) | exact Has.next _ (Has.next _ (Has.next _ (Has.next _ (Has.next _ (Has.here _))))) | exact Has.next _ (Has.next _ (Has.next _ (Has.next _ (Has.next _ (Has.next _ (Has.here _)))))) | exact Has.next _ (Has.next _ (Has.next _ (Has.next _ (Has.next _ (Has.next _ (Has.next _ (Has.here _))))))) | exact Has.next _ (Has.next _ (Has.next _ (Has.next _ (Has.next _ (Has.next _ (Has.next _ (Has.next _ (Has.here _)))))))) | exact Has.next _ (Has.next _ (Has.next _ (Has.next _ (Has.next _ (Has.next _ (Has.next _ (Has.next _ (Has.next _ (Has.here _)))))))))) rfl (by omega) ?_; (try simp only [Act.put, Act.eval, List.setIfInBounds_toArray, List.set_cons_zero, List.set_cons_succ, Array.getD_eq_getD_getElem?, List.getElem?_toArray, List.getElem?_cons_succ, List.getElem?_cons_zero, Option.getD_some]))) | (refine gSeq_still rfl (by rfl) ?_ ?_ ?_; (rotate_left; (intro w' hG; (skip); go_simp; (first | done | with_reducible rfl)); (try simp only [Act.put, Act.eval, List.setIfInBounds_toArray, List.set_cons_zero, List.set_cons_succ, Array.getD_eq_getD_getElem?, List.getElem?_toArray, List.getElem?_cons_succ, List.getElem?_cons_zero, Option.getD_some])))))
                  refine gSeq_nil ?_
                  clear hkw
                  generalize hT : IntKind.u64.wrap _ = t1
                  generalize IntKind.u64.wrap _ = j1
                  generalize IntKind.u64.wrap _ = j2
                  generalize IntKind.u64.wrap _ = j3
                  generalize bits BinOp.xor IntKind.u64 (bits BinOp.and IntKind.u64 x4 _) _ = j4
                  generalize bits BinOp.and IntKind.u64 (bits BinOp.xor IntKind.u64 _ x4) _ = j5
                  generalize bits BinOp.xor IntKind.u64 (if IntKind.u64.signed = true then -1 else IntKind.u64.max) x4 = j6
                  have ht1 : tmp15 v x4 q (ws.getD j 0) = t1 := hT
                  have HT := Lib.hid ht1
                  clear hT ht1
                  go_wp2_with fail
                  refine wp_region_grow [(2, 0), (2, 2), (2, 5), (2, 8), (2, 9), (1, 10), (2, 11), (2, 12), (2, 13), (1, 14), (2, 15), (2, 16), (2, 17), (1, 18), (2, 19), (1, 20), (2, 21), (2, 22), (0, 1), (0, 3), (2, 4), (0, 6), (2, 7), (2, 23), (2, 24)] (by kernel_rfl) (by kernel_rfl) (fun _ _ _ _ _ h => h) (fun _ _ _ _ _ h => h) ?_
                  refine gSeq_own HK.out fun wn hkn gn ein => ?_
                  have HKN := Lib.hid hkn
                  clear hkn HK
                  have HK := HKN
                  clear HKN
                  clear gn ein
                  (repeat (first | (refine gSeq_get_int rfl (by rfl) HK.out _ _ rfl _ _ rfl _ _ _ _ (by first | exact Has.here _ | exact Has.next _ (Has.here _) | exact Has.next _ (Has.next _ (Has.here _)) | exact Has.next _ (Has.next _ (Has.next _ (Has.here _))) | exact Has.next _ (Has.next _ (Has.next _ (Has.next _ (Has.here _)))) | exact Has.next _ (Has.next _ (Has.next _ (Has.next _ (Has.next _ (Has.here _))))) | exact Has.next _ (Has.next _ (Has.next _ (Has.next _ (Has.next _ (Has.next _ (Has.here _)))))) | exact Has.next _ (Has.next _ (Has.next _ (Has.next _ (Has.next _ (Has.next _ (Has.next _ (Has.here _))))))) | exact Has.next _ (Has.next _ (Has.next _ (Has.next _ (Has.next _ (Has.next _ (Has.next _ (Has.next _ (Has.here _)))))))) | exact Has.next _ (Has.next _ (Has.next _ (Has.next _ (Has.next _ (Has.next _ (Has.next _ (Has.next _ (Has.next _ (Has.here _)))))))))) rfl (by omega) ?_; (try simp only [Act.put, Act.eval, List.setIfInBounds_toArray, List.set_cons_zero, List.set_cons_succ, Array.getD_eq_getD_getElem?, List.getElem?_toArray, List.getElem?_cons_succ, List.getElem?_cons_zero, Option.getD_some])) | (refine gSeq_skip rfl (by rfl) ?_; (try simp only [Act.put, Act.eval, List.setIfInBounds_toArray, List.set_cons_zero, List.set_cons_succ, Array.getD_eq_getD_getElem?, List.getElem?_toArray, List.getElem?_cons_succ, List.getElem?_cons_zero, Option.getD_some])) | (refine gSeq_move _ rfl rfl (by rfl) ?_; (try simp only [Act.put, Act.eval, List.setIfInBounds_toArray, List.set_cons_zero, List.set_cons_succ, Array.getD_eq_getD_getElem?, List.getElem?_toArray, List.getElem?_cons_succ, List.getElem?_cons_zero, Option.getD_some])) | (refine gSeq_assign _ rfl rfl (by rfl) ?_; (try simp only [Act.put, Act.eval, List.setIfInBounds_toArray, List.set_cons_zero, List.set_cons_succ, Array.getD_eq_getD_getElem?, List.getElem?_toArray, List.getElem?_cons_succ, List.getElem?_cons_zero, Option.getD_some])) | (refine gSeq_pure rfl (by rfl) ?_ ?_ ?_; (rotate_left; (intro w'; (skip); go_simp; (first | done | with_reducible rfl)); (try simp only [Act.put, Act.eval, List.setIfInBounds_toArray, List.set_cons_zero, List.set_cons_succ, Array.getD_eq_getD_getElem?, List.getElem?_toArray, List.getElem?_cons_succ, List.getElem?_cons_zero, Option.getD_some]))) | (fail) | (refine gSeq_still rfl (by rfl) ?_ ?_ ?_; (rotate_left; (intro w' hG; (skip); go_simp; (first | done | with_reducible rfl)); (try simp only [Act.put, Act.eval, List.setIfInBounds_toArray, List.set_cons_zero, List.set_cons_succ, Array.getD_eq_getD_getElem?, List.getElem?_toArray, List.getElem?_cons_succ, List.getElem?_cons_zero, Option.getD_some])))))
                  (refine gSeq_do rfl (by rfl) (fun K hK => ?_)); go_simp
                  refine (rot64_28 _ a0 b0 _).mono ?_
                  rintro e wn ⟨rfl, hd⟩
                  refine hK _ _ (grown_drawn hd) ?_
                  have HKN := Lib.hid (HK.out.grow (grown_drawn hd))
                  clear hK K hd HK
                  have HK := HKN
                  clear HKN
                  (try simp only [Act.put, Act.eval, List.setIfInBounds_toArray, List.set_cons_zero, List.set_cons_succ, Array.getD_eq_getD_getElem?, List.getElem?_toArray, List.getElem?_cons_succ, List.getElem?_cons_zero, Option.getD_some])
                  (repeat (first | (refine gSeq_get_int rfl (by rfl) HK.out _ _ rfl _ _ rfl _ _ _ _ (by first | exact Has.here _ | exact Has.next _ (Has.here _) | exact Has.next _ (Has.next _ (Has.here _)) | exact Has.next _ (Has.next _ (Has.next _ (Has.here _))) | exact Has.next _ (Has.next _ (Has.next _ (Has.next _ (Has.here _)))) | exact Has.next _ (Has.next _ (Has.next _ (Has.next _ (Has.next _ (Has.here _))))) | exact Has.next _ (Has.next _ (Has.next _ (Has.next _ (Has.next _ (Has.next _ (Has.here _)))))) | exact Has.next _ (Has.next _ (Has.next _ (Has.next _ (Has.next _ (Has.next _ (Has.next _ (Has.here _))))))) | exact Has.next _ (Has.next _ (Has.next _ (Has.next _ (Has.next _ (Has.next _ (Has.next _ (Has.next _ (Has.here _)))))))) | exact Has.next _ (Has.next _ (Has.next _ (Has.next _ (Has.next _ (Has.next _ (Has.next _ (Has.next _ (Has.next _ (Has.here _)))))))))) rfl (by omega) ?_; (try simp only [Act.put, Act.eval, List.setIfInBounds_toArray, List.set_cons_zero, List.set_cons_succ, Array.getD_eq_getD_getElem?, List.getElem?_toArray, List.getElem?_cons_succ, List.getElem?_cons_zero, Option.getD_some])) | (refine gSeq_skip rfl (by rfl) ?_; (try simp only [Act.put, Act.eval, List.setIfInBounds_toArray, List.set_cons_zero, List.set_cons_succ, Array.getD_eq_getD_getElem?, List.getElem?_toArray, List.getElem?_cons_succ, List.getElem?_cons_zero, Option.getD_some])) | (refine gSeq_move _ rfl rfl (by rfl) ?_; (try simp only [Act.put, Act.eval, List.setIfInBounds_toArray, List.set_cons_zero, List.set_cons_succ, Array.getD_eq_getD_getElem?, List.getElem?_toArray, List.getElem?_cons_succ, List.getElem?_cons_zero, Option.getD_some])) | (refine gSeq_assign _ rfl rfl (by rfl) ?_; (try simp only [Act.put, Act.eval, List.setIfInBounds_toArray, List.set_cons_zero, List.set_cons_succ, Array.getD_eq_getD_getElem?, List.getElem?_toArray, List.getElem?_cons_succ, List.getElem?_cons_zero, Option.getD_some])) | (refine gSeq_pure rfl (by rfl) ?_ ?_ ?_; (rotate_left; (intro w'; (skip); go_simp; (first | done | with_reducible rfl)); (try simp only [Act.put, Act.eval, List.setIfInBounds_toArray, List.set_cons_zero, List.set_cons_succ, Array.getD_eq_getD_getElem?, List.getElem?_toArray, List.getElem?_cons_succ, List.getElem?_cons_zero, Option.getD_some]))) | (fail) | (refine gSeq_still rfl (by rfl) ?_ ?_ ?_; (rotate_left; (intro w' hG; (skip); go_simp; (first | done | with_reducible rfl)); (try simp only [Act.put, Act.eval, List.setIfInBounds_toArray, List.set_cons_zero, List.set_cons_succ, Array.getD_eq_getD_getElem?, List.getElem?_toArray, List.getElem?_cons_succ, List.getElem?_cons_zero, Option.getD_some])))))
                  (refine gSeq_do rfl (by rfl) (fun K hK => ?_)); go_simp
                  refine (rot64_34 _ a0 b0 _).mono ?_
                  rintro e wn ⟨rfl, hd⟩
                  refine hK _ _ (grown_drawn hd) ?_
                  have HKN := Lib.hid (HK.out.grow (grown_drawn hd))
                  clear hK K hd HK
                  have HK := HKN
                  clear HKN
                  (try simp only [Act.put, Act.eval, List.setIfInBounds_toArray, List.set_cons_zero, List.set_cons_succ, Array.getD_eq_getD_getElem?, List.getElem?_toArray, List.getElem?_cons_succ, List.getElem?_cons_zero, Option.getD_some])
                  (repeat (first | (refine gSeq_get_int rfl (by rfl) HK.out _ _ rfl _ _ rfl _ _ _ _ (by first | exact Has.here _ | exact Has.next _ (Has.here _) | exact Has.next _ (Has.next _ (Has.here _)) | exact Has.next _ (Has.next _ (Has.next _ (Has.here _))) | exact Has.next _ (Has.next _ (Has.next _ (Has.next _ (Has.here _)))) | exact Has.next _ (Has.next _ (Has.next _ (Has.next _ (Has.next _ (Has.here _))))) | exact Has.next _ (Has.next _ (Has.next _ (Has.next _ (Has.next _ (Has.next _ (Has.here _)))))) | exact Has.next _ (Has.next _ (Has.next _ (Has.next _ (Has.next _ (Has.next _ (Has.next _ (Has.here _))))))) | exact Has.next _ (Has.next _ (Has.next _ (Has.next _ (Has.next _ (Has.next _ (Has.next _ (Has.next _ (Has.here _)))))))) | exact Has.next _ (Has.next _ (Has.next _ (Has.next _ (Has.next _ (Has.next _ (Has.next _ (Has.next _ (Has.next _ (Has.here _)))))))))) rfl (by omega) ?_; (try simp only [Act.put, Act.eval, List.setIfInBounds_toArray, List.set_cons_zero, List.set_cons_succ, Array.getD_eq_getD_getElem?, List.getElem?_toArray, List.getElem?_cons_succ, List.getElem?_cons_zero, Option.getD_some])) | (refine gSeq_skip rfl (by rfl) ?_; (try simp only [Act.put, Act.eval, List.setIfInBounds_toArray, List.set_cons_zero, List.set_cons_succ, Array.getD_eq_getD_getElem?, List.getElem?_toArray, List.getElem?_cons_succ, List.getElem?_cons_zero, Option.getD_some])) | (refine gSeq_move _ rfl rfl (by rfl) ?_; (try simp only [Act.put, Act.eval, List.setIfInBounds_toArray, List.set_cons_zero, List.set_cons_succ, Array.getD_eq_getD_getElem?, List.getElem?_toArray, List.getElem?_cons_succ, List.getElem?_cons_zero, Option.getD_some])) | (refine gSeq_assign _ rfl rfl (by rfl) ?_; (try simp only [Act.put, Act.eval, List.setIfInBounds_toArray, List.set_cons_zero, List.set_cons_succ, Array.getD_eq_getD_getElem?, List.getElem?_toArray, List.getElem?_cons_succ, List.getElem?_cons_zero, Option.getD_some])) | (refine gSeq_pure rfl (by rfl) ?_ ?_ ?_; (rotate_left; (intro w'; (skip); go_simp; (first | done | with_reducible rfl)); (try simp only [Act.put, Act.eval, List.setIfInBounds_toArray, List.set_cons_zero, List.set_cons_succ, Array.getD_eq_getD_getElem?, List.getElem?_toArray, List.getElem?_cons_succ, List.getElem?_cons_zero, Option.getD_some]))) | (fail) | (refine gSeq_still rfl (by rfl) ?_ ?_ ?_; (rotate_left; (intro w' hG; (skip); go_simp; (first | done | with_reducible rfl)); (try simp only [Act.put, Act.eval, List.setIfInBounds_toArray, List.set_cons_zero, List.set_cons_succ, Array.getD_eq_getD_getElem?, List.getElem?_toArray, List.getElem?_cons_succ, List.getElem?_cons_zero, Option.getD_some])))))
                  (refine gSeq_do rfl (by rfl) (fun K hK => ?_)); go_simp
                  refine (rot64_39 _ a0 b0 _).mono ?_
                  rintro e wn ⟨rfl, hd⟩
                  refine hK _ _ (grown_drawn hd) ?_
                  have HKN := Lib.hid (HK.out.grow (grown_drawn hd))
                  clear hK K hd HK
                  have HK := HKN
                  clear HKN
                  (try simp only [Act.put, Act.eval, List.setIfInBounds_toArray, List.set_cons_zero, List.set_cons_succ, Array.getD_eq_getD_getElem?, List.getElem?_toArray, List.getElem?_cons_succ, List.getElem?_cons_zero, Option.getD_some])
                  (repeat (first | (refine gSeq_get_int rfl (by rfl) HK.out _ _ rfl _ _ rfl _ _ _ _ (by first | exact Has.here _ | exact Has.next _ (Has.here _) | exact Has.next _ (Has.next _ (Has.here _)) | exact Has.next _ (Has.next _ (Has.next _ (Has.here _))) | exact Has.next _ (Has.next _ (Has.next _ (Has.next _ (Has.here _)))) | exact Has.next _ (Has.next _ (Has.next _ (Has.next _ (Has.next _ (Has.here _))))) | exact Has.next _ (Has.next _ (Has.next _ (Has.next _ (Has.next _ (Has.next _ (Has.here _)))))) | exact Has.next _ (Has.next _ (Has.next _ (Has.next _ (Has.next _ (Has.next _ (Has.next _ (Has.here _))))))) | exact Has.next _ (Has.next _ (Has.next _ (Has.next _ (Has.next _ (Has.next _ (Has.next _ (Has.next _ (Has.here _)))))))) | exact Has.next _ (Has.next _ (Has.next _ (Has.next _ (Has.next _ (Has.next _ (Has.next _ (Has.next _ (Has.next _ (Has.here _)))))))))) rfl (by omega) ?_; (try simp only [Act.put, Act.eval, List.setIfInBounds_toArray, List.set_cons_zero, List.set_cons_succ, Array.getD_eq_getD_getElem?, List.getElem?_toArray, List.getElem?_cons_succ, List.getElem?_cons_zero, Option.getD_some])) | (refine gSeq_skip rfl (by rfl) ?_; (try simp only [Act.put, Act.eval, List.setIfInBounds_toArray, List.set_cons_zero, List.set_cons_succ, Array.getD_eq_getD_getElem?, List.getElem?_toArray, List.getElem?_cons_succ, List.getElem?_cons_zero, Option.getD_some])) | (refine gSeq_move _ rfl rfl (by rfl) ?_; (try simp only [Act.put, Act.eval, List.setIfInBounds_toArray, List.set_cons_zero, List.set_cons_succ, Array.getD_eq_getD_getElem?, List.getElem?_toArray, List.getElem?_cons_succ, List.getElem?_cons_zero, Option.getD_some])) | (refine gSeq_assign _ rfl rfl (by rfl) ?_; (try simp only [Act.put, Act.eval, List.setIfInBounds_toArray, List.set_cons_zero, List.set_cons_succ, Array.getD_eq_getD_getElem?, List.getElem?_toArray, List.getElem?_cons_succ, List.getElem?_cons_zero, Option.getD_some])) | (refine gSeq_pure rfl (by rfl) ?_ ?_ ?_; (rotate_left; (intro w'; (skip); go_simp; (first | done | with_reducible rfl)); (try simp only [Act.put, Act.eval, List.setIfInBounds_toArray, List.set_cons_zero, List.set_cons_succ, Array.getD_eq_getD_getElem?, List.getElem?_toArray, List.getElem?_cons_succ, List.getElem?_cons_zero, Option.getD_some]))) | (fail) | (refine gSeq_still rfl (by rfl) ?_ ?_ ?_; (rotate_left; (intro w' hG; (skip); go_simp; (first | done | with_reducible rfl)); (try simp only [Act.put, Act.eval, List.setIfInBounds_toArray, List.set_cons_zero, List.set_cons_succ, Array.getD_eq_getD_getElem?, List.getElem?_toArray, List.getElem?_cons_succ, List.getElem?_cons_zero, Option.getD_some])))))
                  refine gSeq_nil ?_
                  generalize hT2 : IntKind.u64.wrap _ = t2
                  have ht2 : w64 (tmp25 v x0) = t2 := hT2
                  have hst : step64 v q (ws.getD j 0) = [(t1 + t2) % 18446744073709551616, v.getD 0 0, v.getD 1 0, v.getD 2 0, (v.getD 3 0 + t1) % 18446744073709551616, v.getD 4 0, v.getD 5 0, v.getD 6 0] := by
                    rw [step64, stepX5, ← HX4.out, ← HX0.out, HT.out, ← ht2, w64, IntKind.wrap_u64]
                    rw [show (t1 + tmp25 v x0 % 18446744073709551616) % 18446744073709551616 = (t1 + tmp25 v x0) % 18446744073709551616 by omega]
                  have HST := Lib.hid hst
                  clear hT2 ht2 hst
                  go_wp2_with (first | (refine wpList_get_int rfl HK.out _ _ rfl _ _ rfl _ _ _ _ (by first | exact Has.here _ | exact Has.next _ (Has.here _) | exact Has.next _ (Has.next _ (Has.here _)) | exact Has.next _ (Has.next _ (Has.next _ (Has.here _))) | exact Has.next _ (Has.next _ (Has.next _ (Has.next _ (Has.here _)))) | exact Has.next _ (Has.next _ (Has.next _ (Has.next _ (Has.next _ (Has.here _))))) | exact Has.next _ (Has.next _ (Has.next _ (Has.next _ (Has.next _ (Has.next _ (Has.here _)))))) | exact Has.next _ (Has.next _ (Has.next _ (Has.next _ (Has.next _ (Has.next _ (Has.next _ (Has.here _))))))) | exact Has.next _ (Has.next _ (Has.next _ (Has.next _ (Has.next _ (Has.next _ (Has.next _ (Has.next _ (Has.here _)))))))) | exact Has.next _ (Has.next _ (Has.next _ (Has.next _ (Has.next _ (Has.next _ (Has.next _ (Has.next _ (Has.next _ (Has.here _)))))))))) rfl (by omega) ?_) | (refine wpList_put_row rfl HK.out 39 _ _ rfl _ _ [(t1 + t2) % 18446744073709551616, v.getD 0 0, v.getD 1 0, v.getD 2 0, (v.getD 3 0 + t1) % 18446744073709551616, v.getD 4 0, v.getD 5 0, v.getD 6 0] rfl rfl _ _ _ (by first | exact Upd.here _ | exact Upd.next _ (Upd.here _) | exact Upd.next _ (Upd.next _ (Upd.here _)) | exact Upd.next _ (Upd.next _ (Upd.next _ (Upd.here _))) | exact Upd.next _ (Upd.next _ (Upd.next _ (Upd.next _ (Upd.here _)))) | exact Upd.next _ (Upd.next _ (Upd.next _ (Upd.next _ (Upd.next _ (Upd.here _))))) | exact Upd.next _ (Upd.next _ (Upd.next _ (Upd.next _ (Upd.next _ (Upd.next _ (Upd.here _)))))) | exact Upd.next _ (Upd.next _ (Upd.next _ (Upd.next _ (Upd.next _ (Upd.next _ (Upd.next _ (Upd.here _))))))) | exact Upd.next _ (Upd.next _ (Upd.next _ (Upd.next _ (Upd.next _ (Upd.next _ (Upd.next _ (Upd.next _ (Upd.here _)))))))) | exact Upd.next _ (Upd.next _ (Upd.next _ (Upd.next _ (Upd.next _ (Upd.next _ (Upd.next _ (Upd.next _ (Upd.next _ (Upd.here _)))))))))) (by rfl) (by kernel_rfl) ?_; (intro wn hkn; have HKN := Lib.hid hkn; clear hkn; clear HK; have HK := HKN; clear HKN)))
                  have HK' : Hid (Own w wn [.ints pv .u64 39 8 (rn5 H ws (j + 1)), .ints pw .u64 47 80 ws, .sl 5 .u8 (some ⟨pm, 0, none⟩) N c M, .ints ph .u64 39 8 H, .sl 38 .u64 (some ⟨pk, 0, none⟩) 80 ck KK, .ints po .u8 27 64 zs]) := by rw [HNV.out, HST.out]; exact HK
                  clear HK
                  have HK := HK'
                  clear HK'
                  go_wp2_with fail
                  exact ⟨⟨j + 1, by omega, by go_num, HK⟩, by simp [intOf]; omega⟩
                · have hj2 : j = 80 := by omega
                  subst hj2
                  clear hlj hj
                  rw [show ((80 : Nat) : Int) = 80 from rfl]
                  obtain ⟨V, hV⟩ : ∃ V, V = rn5 H ws 80 := ⟨_, rfl⟩
                  rw [← hV] at HK
                  have HNX := Lib.hid (show hs64 M (k + 1) = addH5 H V 8 by rw [hV]; exact HNX'.out)
                  clear hV HNX'
                  go_wp2_with fail
                  go_loopw [20] (fun v wr => ∃ (j : Nat), j ≤ 8 ∧ v = .int .i64 j ∧ Hid (Own w wr [.ints pv .u64 39 8 V, .ints pw .u64 47 80 ws, .sl 5 .u8 (some ⟨pm, 0, none⟩) N c M, .ints ph .u64 39 8 (addH5 H V j), .sl 38 .u64 (some ⟨pk, 0, none⟩) 80 ck KK, .ints po .u8 27 64 zs])) (fun v _ => 8 - (intOf v).toNat)
                  case atStart => exact ⟨0, by omega, rfl, HK⟩
                  case round =>
                    obtain ⟨j, hj, rfl, HK'⟩ := hrel
                    clear HK
                    have HK := HK'
                    clear HK'
                    by_cases hlj : j < 8
                    · as_aux_lemma =>
                      obtain ⟨A, hA⟩ : ∃ A, A = addH5 H V j := ⟨_, rfl⟩
                      rw [← hA] at HK
                      have HNA := Lib.hid (show addH5 H V (j + 1) = A.set j (w64 (A.getD j 0 + V.getD j 0)) by rw [addH5, hA])
                      clear hA
                      have hj0 : (0 : Int) ≤ j := by omega
                      have hj8 : (j : Int) < 8 := by omega
                      go_wp2_with fail
                      refine wp_region_grow [(2, 0), (2, 1), (1, 2), (2, 3), (2, 4), (1, 5), (2, 6), (2, 7), (3, 8)] (by kernel_rfl) (by kernel_rfl) (fun _ _ _ _ _ h => h) (fun _ _ _ _ _ h => h) ?_
                      refine gSeq_own HK.out fun wn hkn gn ein => ?_
                      have HKN := Lib.hid hkn
                      clear hkn HK
                      have HK := HKN
                      clear HKN
                      clear gn ein
                      (repeat (first | (refine gSeq_get_int rfl (by rfl) HK.out _ _ rfl _ _ rfl _ _ _ _ (by first | exact Has.here _ | exact Has.next _ (Has.here _) | exact Has.next _ (Has.next _ (Has.here _)) | exact Has.next _ (Has.next _ (Has.next _ (Has.here _))) | exact Has.next _ (Has.next _ (Has.next _ (Has.next _ (Has.here _)))) | exact Has.next _ (Has.next _ (Has.next _ (Has.next _ (Has.next _ (Has.here _))))) | exact Has.next _ (Has.next _ (Has.next _ (Has.next _ (Has.next _ (Has.next _ (Has.here _)))))) | exact Has.next _ (Has.next _ (Has.next _ (Has.next _ (Has.next _ (Has.next _ (Has.next _ (Has.here _))))))) | exact Has.next _ (Has.next _ (Has.next _ (Has.next _ (Has.next _ (Has.next _ (Has.next _ (Has.next _ (Has.here _)))))))) | exact Has.next _ (Has.next _ (Has.next _ (Has.next _ (Has.next _ (Has.next _ (Has.next _ (Has.next _ (Has.next _ (Has.here _)))))))))) rfl (by omega) ?_; (try simp only [Act.put, Act.eval, List.setIfInBounds_toArray, List.set_cons_zero, List.set_cons_succ, Array.getD_eq_getD_getElem?, List.getElem?_toArray, List.getElem?_cons_succ, List.getElem?_cons_zero, Option.getD_some])) | (refine gSeq_skip rfl (by rfl) ?_; (try simp only [Act.put, Act.eval, List.setIfInBounds_toArray, List.set_cons_zero, List.set_cons_succ, Array.getD_eq_getD_getElem?, List.getElem?_toArray, List.getElem?_cons_succ, List.getElem?_cons_zero, Option.getD_some])) | (refine gSeq_move _ rfl rfl (by rfl) ?_; (try simp only [Act.put, Act.eval, List.setIfInBounds_toArray, List.set_cons_zero, List.set_cons_succ, Array.getD_eq_getD_getElem?, List.getElem?_toArray, List.getElem?_cons_succ, List.getElem?_cons_zero, Option.getD_some])) | (refine gSeq_assign _ rfl rfl (by rfl) ?_; (try simp only [Act.put, Act.eval, List.setIfInBounds_toArray, List.set_cons_zero, List.set_cons_succ, Array.getD_eq_getD_getElem?, List.getElem?_toArray, List.getElem?_cons_succ, List.getElem?_cons_zero, Option.getD_some])) | (refine gSeq_pure rfl (by rfl) ?_ ?_ ?_; (rotate_left; (intro w'; (skip); go_simp; (first | done | with_reducible rfl)); (try simp only [Act.put, Act.eval, List.setIfInBounds_toArray, List.set_cons_zero, List.set_cons_succ, Array.getD_eq_getD_getElem?, List.getElem?_toArray, List.getElem?_cons_succ, List.getElem?_cons_zero, Option.getD_some]))) | ((refine gSeq_put_int rfl (by rfl) HK.out _ _ _ rfl _ _ _ _ rfl rfl _ _ _ (by first | exact Upd.here _ | exact Upd.next _ (Upd.here _) | exact Upd.next _ (Upd.next _ (Upd.here _)) | exact Upd.next _ (Upd.next _ (Upd.next _ (Upd.here _))) | exact Upd.next _ (Upd.next _ (Upd.next _ (Upd.next _ (Upd.here _)))) | exact Upd.next _ (Upd.next _ (Upd.next _ (Upd.next _ (Upd.next _ (Upd.here _))))) | exact Upd.next _ (Upd.next _ (Upd.next _ (Upd.next _ (Upd.next _ (Upd.next _ (Upd.here _)))))) | exact Upd.next _ (Upd.next _ (Upd.next _ (Upd.next _ (Upd.next _ (Upd.next _ (Upd.next _ (Upd.here _))))))) | exact Upd.next _ (Upd.next _ (Upd.next _ (Upd.next _ (Upd.next _ (Upd.next _ (Upd.next _ (Upd.next _ (Upd.here _)))))))) | exact Upd.next _ (Upd.next _ (Upd.next _ (Upd.next _ (Upd.next _ (Upd.next _ (Upd.next _ (Upd.next _ (Upd.next _ (Upd.here _)))))))))) (by omega) (by kernel_rfl) ?_; (intro wn hkn; have HKN := Lib.hid hkn; clear hkn; clear HK; have HK := HKN; clear HKN); (try simp only [Act.put, Act.eval, List.setIfInBounds_toArray, List.set_cons_zero, List.set_cons_succ, Array.getD_eq_getD_getElem?, List.getElem?_toArray, List.getElem?_cons_succ, List.getElem?_cons_zero, Option.getD_some]))) | (refine gSeq_still rfl (by rfl) ?_ ?_ ?_; (rotate_left; (intro w' hG; (skip); go_simp; (first | done | with_reducible rfl)); (try simp only [Act.put, Act.eval, List.setIfInBounds_toArray, List.set_cons_zero, List.set_cons_succ, Array.getD_eq_getD_getElem?, List.getElem?_toArray, List.getElem?_cons_succ, List.getElem?_cons_zero, Option.getD_some])))))
                      refine gSeq_nil ?_
                      have HK' : Hid (Own w wn [.ints pv .u64 39 8 V, .ints pw .u64 47 80 ws, .sl 5 .u8 (some ⟨pm, 0, none⟩) N c M, .ints ph .u64 39 8 (addH5 H V (j + 1)), .sl 38 .u64 (some ⟨pk, 0, none⟩) 80 ck KK, .ints po .u8 27 64 zs]) := by rw [HNA.out]; exact HK
                      clear HK
                      have HK := HK'
                      clear HK'
                      go_wp2_with fail
                      exact ⟨⟨j + 1, by omega, by go_num, HK⟩, by simp [intOf]; omega⟩
                    · have hj2 : j = 8 := by omega
                      subst hj2
                      clear hlj hj
                      rw [show ((8 : Nat) : Int) = 8 from rfl]
                      rw [← HNX.out] at HK
                      have hsub := (HK.out.sub (List.Sublist.cons _ (List.Sublist.cons _ (List.Sublist.refl _))))
                      clear HK
                      have HK := Lib.hid hsub
                      clear hsub
                      go_wp2_with (refine wpList_slice rfl 22 _ _ _ rfl _ rfl _ _ rfl rfl _ (run_sub_l Try.underlying22 (by kernel_rfl) 128 128 rfl hR2) ?_)
                      have hR := HR.out
                      exact ⟨⟨k + 1, R - 128, C - 128, _, by omega, Lib.hid (by rw [hR]; omega), Lib.hid (fun hp => ⟨by rw [subAt, if_neg (by omega)]; simp [Addr.add_mid], by omega, by omega⟩), rfl, HK⟩, by simp [lenOf]; omega⟩
    · as_aux_lemma =>
      have hkn : k = nb := by omega
      have hR0 : R = 0 := by rw [HR.out, hkn, Nat.sub_self, Nat.mul_zero]
      subst hR0
      rw [hkn] at HK
      obtain ⟨H, hH⟩ : ∃ H, H = hs64 M nb := ⟨_, rfl⟩
      rw [← hH] at HK
      have HH8 := Lib.hid (show H.length = 8 by rw [hH]; exact length_hs64 M nb)
      have HHO := Lib.hid (show okB 18446744073709551616 H by rw [hH]; exact ok_hs64 M nb)
      have HS' := Lib.hid (show sum64 m = outA5 H 64 by rw [hH]; exact HS.out)
      clear hH hkn hlt hk HA HR HS
      go_wp2_with ((refine wpList_new_ints rfl HK.out _ rfl .u8 27 64 (zer 64) (length_zer _) (fun w => by go_simp; first | exact ⟨rfl, rfl⟩ | kernel_rfl) ?_))
      intro wn pr hkn
      have HKN := Lib.hid hkn
      clear hkn HK
      have HK := HKN
      clear HKN
      go_wp2_with fail
      go_loopw [22] (fun v wr => ∃ (j : Nat), j ≤ 64 ∧ v = .int .i64 j ∧ Hid (Own w wr [.ints pr .u8 27 64 (outA5 H j), .sl 5 .u8 (some ⟨pm, 0, none⟩) N c M, .ints ph .u64 39 8 H, .sl 38 .u64 (some ⟨pk, 0, none⟩) 80 ck KK, .ints po .u8 27 64 zs])) (fun v _ => 64 - (intOf v).toNat)
      case atStart => exact ⟨0, by omega, rfl, HK⟩
      case round =>
        obtain ⟨j, hj, rfl, HK'⟩ := hrel
        clear HK
        have HK := HK'
        clear HK'
        by_cases hlj : j < 64
        · have hj0 : (0 : Int) ≤ j := by omega
          have hj32 : (j : Int) < 64 := by omega
          have hq0 : (0 : Int) ≤ (j : Int) / 8 := by omega
          have hq8 : (j : Int) / 8 < 8 := by omega
          have hq : ((j : Int) / 8).toNat = j / 8 := by omega
          have hs0 : 0 ≤ 56 - 8 * ((j : Int) % 8) := by omega
          have hq8' : j / 8 < 8 := by omega
          obtain ⟨A, hA⟩ : ∃ A, A = outA5 H j := ⟨_, rfl⟩
          rw [← hA] at HK
          have HNA := Lib.hid (show outA5 H (j + 1) = A.set j (H.getD (j / 8) 0 / 2 ^ (56 - 8 * (j % 8)) % 256) by rw [outA5, hA])
          have hx := ok_getD (by decide) HHO.out (j / 8)
          clear hA
          go_wp2_with (first | (refine wpList_get_int rfl HK.out _ _ rfl _ _ rfl _ _ _ _ (by first | exact Has.here _ | exact Has.next _ (Has.here _) | exact Has.next _ (Has.next _ (Has.here _)) | exact Has.next _ (Has.next _ (Has.next _ (Has.here _))) | exact Has.next _ (Has.next _ (Has.next _ (Has.next _ (Has.here _)))) | exact Has.next _ (Has.next _ (Has.next _ (Has.next _ (Has.next _ (Has.here _))))) | exact Has.next _ (Has.next _ (Has.next _ (Has.next _ (Has.next _ (Has.next _ (Has.here _)))))) | exact Has.next _ (Has.next _ (Has.next _ (Has.next _ (Has.next _ (Has.next _ (Has.next _ (Has.here _))))))) | exact Has.next _ (Has.next _ (Has.next _ (Has.next _ (Has.next _ (Has.next _ (Has.next _ (Has.next _ (Has.here _)))))))) | exact Has.next _ (Has.next _ (Has.next _ (Has.next _ (Has.next _ (Has.next _ (Has.next _ (Has.next _ (Has.next _ (Has.here _)))))))))) rfl (by omega) ?_) | (refine wpList_put_int rfl HK.out _ _ _ rfl _ _ _ _ rfl rfl _ _ _ (by first | exact Upd.here _ | exact Upd.next _ (Upd.here _) | exact Upd.next _ (Upd.next _ (Upd.here _)) | exact Upd.next _ (Upd.next _ (Upd.next _ (Upd.here _))) | exact Upd.next _ (Upd.next _ (Upd.next _ (Upd.next _ (Upd.here _)))) | exact Upd.next _ (Upd.next _ (Upd.next _ (Upd.next _ (Upd.next _ (Upd.here _))))) | exact Upd.next _ (Upd.next _ (Upd.next _ (Upd.next _ (Upd.next _ (Upd.next _ (Upd.here _)))))) | exact Upd.next _ (Upd.next _ (Upd.next _ (Upd.next _ (Upd.next _ (Upd.next _ (Upd.next _ (Upd.here _))))))) | exact Upd.next _ (Upd.next _ (Upd.next _ (Upd.next _ (Upd.next _ (Upd.next _ (Upd.next _ (Upd.next _ (Upd.here _)))))))) | exact Upd.next _ (Upd.next _ (Upd.next _ (Upd.next _ (Upd.next _ (Upd.next _ (Upd.next _ (Upd.next _ (Upd.next _ (Upd.here _)))))))))) (by omega) (by kernel_rfl) ?_; (intro wn hkn; have HKN := Lib.hid hkn; clear hkn; clear HK; have HK := HKN; clear HKN)))
          have HK' : Hid (Own w wn [.ints pr .u8 27 64 (outA5 H (j + 1)), .sl 5 .u8 (some ⟨pm, 0, none⟩) N c M, .ints ph .u64 39 8 H, .sl 38 .u64 (some ⟨pk, 0, none⟩) 80 ck KK, .ints po .u8 27 64 zs]) := by rw [HNA.out]; exact HK
          exact ⟨⟨j + 1, by omega, by go_num, HK'⟩, by simp [intOf]; omega⟩
        · have hj2 : j = 64 := by omega
          subst hj2
          clear hlj hj
          rw [show ((64 : Nat) : Int) = 64 from rfl]
          rw [← HS'.out] at HK
          have HL := Lib.hid (length_sum64 m)
          go_wp2_with (first | (refine wpList_get_row rfl HK.out 27 _ rfl _ rfl _ _ _ _ (by first | exact Has.here _ | exact Has.next _ (Has.here _) | exact Has.next _ (Has.next _ (Has.here _)) | exact Has.next _ (Has.next _ (Has.next _ (Has.here _))) | exact Has.next _ (Has.next _ (Has.next _ (Has.next _ (Has.here _)))) | exact Has.next _ (Has.next _ (Has.next _ (Has.next _ (Has.next _ (Has.here _))))) | exact Has.next _ (Has.next _ (Has.next _ (Has.next _ (Has.next _ (Has.next _ (Has.here _)))))) | exact Has.next _ (Has.next _ (Has.next _ (Has.next _ (Has.next _ (Has.next _ (Has.next _ (Has.here _))))))) | exact Has.next _ (Has.next _ (Has.next _ (Has.next _ (Has.next _ (Has.next _ (Has.next _ (Has.next _ (Has.here _)))))))) | exact Has.next _ (Has.next _ (Has.next _ (Has.next _ (Has.next _ (Has.next _ (Has.next _ (Has.next _ (Has.next _ (Has.here _)))))))))) _ Try.underlying27 rfl (by kernel_rfl) ?_) | (refine wpList_put_row rfl HK.out 27 _ _ rfl _ _ (sum64 m) rfl rfl _ _ _ (by first | exact Upd.here _ | exact Upd.next _ (Upd.here _) | exact Upd.next _ (Upd.next _ (Upd.here _)) | exact Upd.next _ (Upd.next _ (Upd.next _ (Upd.here _))) | exact Upd.next _ (Upd.next _ (Upd.next _ (Upd.next _ (Upd.here _)))) | exact Upd.next _ (Upd.next _ (Upd.next _ (Upd.next _ (Upd.next _ (Upd.here _))))) | exact Upd.next _ (Upd.next _ (Upd.next _ (Upd.next _ (Upd.next _ (Upd.next _ (Upd.here _)))))) | exact Upd.next _ (Upd.next _ (Upd.next _ (Upd.next _ (Upd.next _ (Upd.next _ (Upd.next _ (Upd.here _))))))) | exact Upd.next _ (Upd.next _ (Upd.next _ (Upd.next _ (Upd.next _ (Upd.next _ (Upd.next _ (Upd.next _ (Upd.here _)))))))) | exact Upd.next _ (Upd.next _ (Upd.next _ (Upd.next _ (Upd.next _ (Upd.next _ (Upd.next _ (Upd.next _ (Upd.next _ (Upd.here _)))))))))) (by exact HL.out) (by kernel_rfl) ?_; (intro wn hkn; have HKN := Lib.hid hkn; clear hkn; clear HK; have HK := HKN; clear HKN)))
          exact bodyPost_ret (results_own rfl _ HK.out _ rfl (by first | exact Has.here _ | exact Has.next _ (Has.here _) | exact Has.next _ (Has.next _ (Has.here _)) | exact Has.next _ (Has.next _ (Has.next _ (Has.here _))) | exact Has.next _ (Has.next _ (Has.next _ (Has.next _ (Has.here _)))) | exact Has.next _ (Has.next _ (Has.next _ (Has.next _ (Has.next _ (Has.here _))))) | exact Has.next _ (Has.next _ (Has.next _ (Has.next _ (Has.next _ (Has.next _ (Has.here _)))))) | exact Has.next _ (Has.next _ (Has.next _ (Has.next _ (Has.next _ (Has.next _ (Has.next _ (Has.here _))))))) | exact Has.next _ (Has.next _ (Has.next _ (Has.next _ (Has.next _ (Has.next _ (Has.next _ (Has.next _ (Has.here _)))))))) | exact Has.next _ (Has.next _ (Has.next _ (Has.next _ (Has.next _ (Has.next _ (Has.next _ (Has.next _ (Has.next _ (Has.here _)))))))))) _ Try.underlying27 rfl (by kernel_rfl)) rfl ⟨rfl, HK.out.grown⟩

set_option maxHeartbeats 20000000 in
set_option maxRecDepth 100000 in
theorem rsum512_any (B : Bs) (w : World) (hb : B.ok w) :
    Calls Try.prog 8 #[B.val] w fun e w' => e = .returned (.agg (encK .u8 (sum64 B.xs))) ∧ w.grownBy w' none := by
  have HSRC := Lib.hid (fun (w' : World) (g : w.grownBy w' none) => Bs.src (Bs.ok_keep hb g))
  have hm2 := hb.2.2.2
  have HML := Lib.hid hb.1.1
  have HMB := Lib.hid hb.2.1
  obtain ⟨n, hn⟩ : ∃ n, n = B.len := ⟨_, rfl⟩
  obtain ⟨m, hmm⟩ : ∃ m, m = B.xs := ⟨_, rfl⟩
  have hv : B.val = .slice B.ad n B.cap := by rw [hn]; rfl
  rw [← hn, ← hmm] at HML
  rw [← hmm] at HMB ⊢
  rw [← hn] at hm2
  have HSRC' := Lib.hid (fun (w' : World) (g : w.grownBy w' none) => by have := HSRC.out w' g; rw [← hmm, hv] at this; exact this)
  rw [hv]
  obtain ⟨ad, had⟩ : ∃ ad, ad = B.ad := ⟨_, rfl⟩
  obtain ⟨cap, hcap⟩ : ∃ cap, cap = B.cap := ⟨_, rfl⟩
  rw [← had, ← hcap] at HSRC' ⊢
  clear hv hmm hn had hcap hb HSRC
  have HZ := Lib.hid (z128_at n)
  have hz : z128 n ≤ 127 := by unfold z128; omega
  obtain ⟨z, hzz⟩ : ∃ z, z = z128 n := ⟨_, rfl⟩
  rw [← hzz] at HZ hz
  have HZM := Lib.hid (zc5_more n)
  have HZS := Lib.hid (zc5_same n)
  rw [← hzz] at HZM HZS
  have hw := whole128 n
  clear hzz
  have hc5 : zc5 n ≤ 300 := by unfold zc5; omega
  obtain ⟨z5, hz5⟩ : ∃ z5, z5 = zc5 n := ⟨_, rfl⟩
  rw [← hz5] at HZM HZS hw hc5
  obtain ⟨M, hM⟩ : ∃ M, M = pad128 m := ⟨_, rfl⟩
  have HMP := Lib.hid (show M = padZ m z5 ++ lenB8 n 8 by rw [hM, pad128, HML.out, hz5])
  obtain ⟨nb, hnb⟩ : ∃ nb, nb = (n + 1 + z5 + 8) / 128 := ⟨_, rfl⟩
  have HMO := Lib.hid (show okB 256 M by rw [hM]; exact ok_pad128 HMB.out)
  have hN : n + 1 + z5 + 8 = 128 * nb := by omega
  have hnb0 : 0 < nb := by omega
  have hnb1 : nb ≤ 1500 := by omega
  have HS := Lib.hid (show sum64 m = outA5 (hs64 M nb) 64 by rw [sum64, ← hM]; congr 2; rw [hM, length_pad128, HML.out, ← hz5, hN]; omega)
  have HNB := Lib.hid hN
  clear hM hnb hw hN hz5 HMB
  have HK := Lib.hid (own_start w)
  go_enter Try.func8, Try.ntmps8
  go_wp2_with ((refine wpList_new_ints rfl HK.out _ rfl .u8 27 64 (zer 64) (length_zer _) (fun w => by go_simp; first | exact ⟨rfl, rfl⟩ | kernel_rfl) ?_))
  intro wn po hkn
  have HKN := Lib.hid hkn
  clear hkn HK
  have HK := HKN
  clear HKN
  obtain ⟨zs, hzs⟩ : ∃ zs, zs = zer 64 := ⟨_, rfl⟩
  rw [← hzs] at HK
  have HZZ := Lib.hid hzs
  clear hzs
  go_wp2_with fail
  refine (kays_any _).mono ?_
  rintro e w3 ⟨v, rfl, ho, g3⟩
  obtain ⟨a, ck, rfl, hk⟩ := HK.out.sl g3 ho
  clear HK ho g3
  obtain ⟨pk, rfl, -⟩ := hk.addr (.here _) (by omega)
  obtain ⟨KK, hkk⟩ : ∃ KK, KK = K64 := ⟨_, rfl⟩
  rw [← hkk] at hk
  have HKK := Lib.hid hkk
  clear hkk
  have HK := Lib.hid hk
  clear hk
  go_wp2_with fail
  refine (rstart_any _).mono ?_
  rintro e w2 ⟨rfl, g2⟩
  obtain ⟨SS, hss⟩ : ∃ SS, SS = H64 := ⟨_, rfl⟩
  rw [← hss]
  have HSS := Lib.hid hss
  clear hss
  have HSL := Lib.hid (show SS.length = 8 by rw [HSS.out]; rfl)
  have hk := HK.out.grow g2
  clear g2
  clear HK
  have HK := Lib.hid hk
  clear hk
  go_wp2_with ((refine wpList_new_ints rfl HK.out _ rfl .u64 39 8 (zer 8) (length_zer _) (fun w => by go_simp; first | exact ⟨rfl, rfl⟩ | kernel_rfl) ?_))
  intro wn ph hkn
  have HKN := Lib.hid hkn
  clear hkn HK
  have HK := HKN
  clear HKN
  have hn0 : (0 : Int) ≤ (n : Int) := by omega
  have hn1 : (n : Int) ≤ 100000 := by omega
  have hk := HK.out.nil 5 .u8
  clear HK
  have HK := Lib.hid hk
  clear hk
  go_wp2_with (first | (refine wpList_put_row rfl HK.out 39 _ _ rfl _ _ SS rfl rfl _ _ _ (by first | exact Upd.here _ | exact Upd.next _ (Upd.here _) | exact Upd.next _ (Upd.next _ (Upd.here _)) | exact Upd.next _ (Upd.next _ (Upd.next _ (Upd.here _))) | exact Upd.next _ (Upd.next _ (Upd.next _ (Upd.next _ (Upd.here _)))) | exact Upd.next _ (Upd.next _ (Upd.next _ (Upd.next _ (Upd.next _ (Upd.here _))))) | exact Upd.next _ (Upd.next _ (Upd.next _ (Upd.next _ (Upd.next _ (Upd.next _ (Upd.here _)))))) | exact Upd.next _ (Upd.next _ (Upd.next _ (Upd.next _ (Upd.next _ (Upd.next _ (Upd.next _ (Upd.here _))))))) | exact Upd.next _ (Upd.next _ (Upd.next _ (Upd.next _ (Upd.next _ (Upd.next _ (Upd.next _ (Upd.next _ (Upd.here _)))))))) | exact Upd.next _ (Upd.next _ (Upd.next _ (Upd.next _ (Upd.next _ (Upd.next _ (Upd.next _ (Upd.next _ (Upd.next _ (Upd.here _)))))))))) (by exact HSL.out) (by kernel_rfl) ?_; (intro wn hkn; have HKN := Lib.hid hkn; clear hkn; clear HK; have HK := HKN; clear HKN)) | (refine wpList_stop 26 rfl ?_))
  rintro w' rfl
  refine wpList_app_own rfl HK.out _ _ 22 rfl 5 (.int .u8 0) 1 Try.underlying22 (by kernel_rfl) rfl .u8 _ _ _ _ rfl (by first | exact Del.here _ | exact Del.next _ (Del.here _) | exact Del.next _ (Del.next _ (Del.here _)) | exact Del.next _ (Del.next _ (Del.next _ (Del.here _))) | exact Del.next _ (Del.next _ (Del.next _ (Del.next _ (Del.here _)))) | exact Del.next _ (Del.next _ (Del.next _ (Del.next _ (Del.next _ (Del.here _))))) | exact Del.next _ (Del.next _ (Del.next _ (Del.next _ (Del.next _ (Del.next _ (Del.here _)))))) | exact Del.next _ (Del.next _ (Del.next _ (Del.next _ (Del.next _ (Del.next _ (Del.next _ (Del.here _))))))) | exact Del.next _ (Del.next _ (Del.next _ (Del.next _ (Del.next _ (Del.next _ (Del.next _ (Del.next _ (Del.here _)))))))) | exact Del.next _ (Del.next _ (Del.next _ (Del.next _ (Del.next _ (Del.next _ (Del.next _ (Del.next _ (Del.next _ (Del.here _)))))))))) (.slice ad n cap) n m rfl HML.out (HSRC'.out _ HK.out.grown) (by unfold maxLen; omega) (by omega) ?_
  intro a1 c1 w2 hk
  rw [Nat.zero_add, List.nil_append] at hk
  clear HK
  have HK := Lib.hid hk
  clear hk
  clear HSRC'
  go_wp2_with (at_builtin; refine wpList_push_own rfl HK.out _ _ 22 rfl 5 (.int .u8 0) 1 Try.underlying22 (by kernel_rfl) rfl .u8 _ _ _ _ rfl (by first | exact Del.here _ | exact Del.next _ (Del.here _) | exact Del.next _ (Del.next _ (Del.here _)) | exact Del.next _ (Del.next _ (Del.next _ (Del.here _))) | exact Del.next _ (Del.next _ (Del.next _ (Del.next _ (Del.here _)))) | exact Del.next _ (Del.next _ (Del.next _ (Del.next _ (Del.next _ (Del.here _))))) | exact Del.next _ (Del.next _ (Del.next _ (Del.next _ (Del.next _ (Del.next _ (Del.here _)))))) | exact Del.next _ (Del.next _ (Del.next _ (Del.next _ (Del.next _ (Del.next _ (Del.next _ (Del.here _))))))) | exact Del.next _ (Del.next _ (Del.next _ (Del.next _ (Del.next _ (Del.next _ (Del.next _ (Del.next _ (Del.here _)))))))) | exact Del.next _ (Del.next _ (Del.next _ (Del.next _ (Del.next _ (Del.next _ (Del.next _ (Del.next _ (Del.next _ (Del.here _)))))))))) _ _ _ rfl (by unfold maxLen; omega) (by omega) ?_)
  intro a2 c2 w3 hk
  clear HK
  have HK := Lib.hid hk
  clear hk
  go_wp2_with fail
  go_loopw [5] (fun v wr => ∃ (j N : Nat) (a : Option Addr) (c : Nat), N = n + 1 + j ∧ j ≤ z ∧ v = .slice a N c ∧ Hid (Own w wr [.sl 5 .u8 a N c (padZ m j), .ints ph .u64 39 8 SS, .sl 38 .u64 (some ⟨pk, 0, none⟩) 80 ck KK, .ints po .u8 27 64 zs])) (fun v _ => n + 130 - (lenOf v))
  case atStart => exact ⟨0, n + 1, a2, c2, by omega, by omega, rfl, by rw [padZ, List.replicate_zero, List.append_nil]; exact HK⟩
  case round =>
    obtain ⟨j, N, a, c, hN, hj, rfl, HK'⟩ := hrel
    clear HK
    have HK := HK'
    clear HK'
    have hiff := HZ.out j hj
    rw [← hN] at hiff
    have hN0 : (0 : Int) ≤ (N : Int) := by omega
    have hN1 : (N : Int) ≤ 200000 := by omega
    by_cases hlt : j = z
    · have hb : (N : Int) % 128 = 120 := by have := hiff.2 hlt; omega
      have HN0 := Lib.hid hN
      rw [hlt] at HK
      have HN := Lib.hid (show N = n + 1 + z by rw [hN, hlt])
      clear hiff hN hlt hj
      have hr0 : (0 : Int) ≤ ((n : Int) + 1) % 128 := by omega
      go_upto_region 7 with fail
      clear hb
      obtain ⟨bb, hbb⟩ : ∃ bb : Bool, bb = decide (112 < (n + 1) % 128 ∧ (n + 1) % 128 ≤ 120) := ⟨_, rfl⟩
      have HBB := Lib.hid hbb
      clear hbb
      go_cut [45] from 40 (fun s45 wx => s45 = .bool bb ∧ wx = wr)
      case first =>
        by_cases h1 : 112 < (n + 1) % 128
        · have h3 : ((n : Int) + 1) % 128 > 112 := by omega
          by_cases h2 : (n + 1) % 128 ≤ 120
          · have h4 : ((n : Int) + 1) % 128 ≤ 120 := by omega
            have HX := Lib.hid (show bb = true by rw [HBB.out]; exact decide_eq_true ⟨h1, h2⟩)
            clear h1 h2
            go_wp2_with fail
            go_meet
            case rel => exact ⟨by rw [HX.out], rfl⟩
          · have h4 : ¬ ((n : Int) + 1) % 128 ≤ 120 := by omega
            have HX := Lib.hid (show bb = false by rw [HBB.out]; exact decide_eq_false fun h => h2 h.2)
            clear h1 h2
            go_wp2_with fail
            go_meet
            case rel => exact ⟨by rw [HX.out], rfl⟩
        · have h3 : ¬ ((n : Int) + 1) % 128 > 112 := by omega
          have HX := Lib.hid (show bb = false by rw [HBB.out]; exact decide_eq_false fun h => h1 h.1)
          clear h1
          go_wp2_with fail
          go_meet
          case rel => exact ⟨by rw [HX.out], rfl⟩
      case rest =>
        obtain ⟨rfl, rfl⟩ := hcut
        go_upto_if 45 with fail
        go_cut [5] from 46 (fun s5 wx => ∃ (a : Option Addr) (c : Nat), s5 = .slice a (n + 1 + z5) c ∧ Hid (Own w wx [.sl 5 .u8 a (n + 1 + z5) c (padZ m z5), .ints ph .u64 39 8 SS, .sl 38 .u64 (some ⟨pk, 0, none⟩) 80 ck KK, .ints po .u8 27 64 zs]))
        case first =>
          have hN3 : N ≤ 200000 := by omega
          cases bb with
          | true =>
            have HZE := Lib.hid (HZM.out (of_decide_eq_true HBB.out.symm))
            clear HBB hr0
            go_wp2_with (at_builtin; refine wpList_app_zeros rfl HK.out _ _ 22 3 rfl 5 .u8 1 Try.underlying22 Try.underlying3 (by kernel_rfl) _ _ _ _ rfl (by first | exact Del.here _ | exact Del.next _ (Del.here _) | exact Del.next _ (Del.next _ (Del.here _)) | exact Del.next _ (Del.next _ (Del.next _ (Del.here _))) | exact Del.next _ (Del.next _ (Del.next _ (Del.next _ (Del.here _)))) | exact Del.next _ (Del.next _ (Del.next _ (Del.next _ (Del.next _ (Del.here _))))) | exact Del.next _ (Del.next _ (Del.next _ (Del.next _ (Del.next _ (Del.next _ (Del.here _)))))) | exact Del.next _ (Del.next _ (Del.next _ (Del.next _ (Del.next _ (Del.next _ (Del.next _ (Del.here _))))))) | exact Del.next _ (Del.next _ (Del.next _ (Del.next _ (Del.next _ (Del.next _ (Del.next _ (Del.next _ (Del.here _)))))))) | exact Del.next _ (Del.next _ (Del.next _ (Del.next _ (Del.next _ (Del.next _ (Del.next _ (Del.next _ (Del.next _ (Del.here _)))))))))) 128 _ rfl rfl (by decide) (by unfold maxLen; omega) (by omega) ?_)
            intro a4 c4 w4 hk
            clear HK
            have HK := Lib.hid hk
            clear hk
            go_wp2_with fail
            have hx := HK.out
            have e1 : N + 128 = n + 1 + z5 := by rw [HN.out, HZE.out]; omega
            rw [padZ_more, ← HZE.out, e1] at hx
            go_meet
            case rel => exact ⟨_, _, by rw [e1], Lib.hid hx⟩
          | false =>
            have HZE := Lib.hid (HZS.out (of_decide_eq_false HBB.out.symm))
            clear HBB hr0
            go_wp2_with fail
            have hx := HK.out
            have e1 : N = n + 1 + z5 := by rw [HN.out, HZE.out]
            rw [← HZE.out, e1] at hx
            go_meet
            case rel => exact ⟨_, _, by rw [e1], Lib.hid hx⟩
        case rest =>
          obtain ⟨a, c, rfl, HK'⟩ := hcut
          clear HK
          have HK := HK'
          clear HK' HZ HZM HZS HBB hr0 HN HN0 hN0 hN1 hz hn0 hn1
          skip
          obtain ⟨PP, hPP⟩ : ∃ PP, PP = padZ m z5 := ⟨_, rfl⟩
          rw [← hPP] at HK HMP
          obtain ⟨N1, hN1⟩ : ∃ N1, N1 = n + 1 + z5 := ⟨_, rfl⟩
          rw [← hN1] at HK HNB ⊢
          have hN2 : N1 ≤ 4000 := by omega
          clear hPP hN1 hc5
          have hn0 : (0 : Int) ≤ (n : Int) := by omega
          have hn1 : (n : Int) ≤ 100000 := by omega
          go_wp2_with fail
          go_loopw [5, 8] (fun v i wr => ∃ (k N2 : Nat) (a : Option Addr) (c : Nat), N2 = N1 + k ∧ k ≤ 8 ∧ i = .int .i64 (7 - (k : Int)) ∧ v = .slice a N2 c ∧ Hid (Own w wr [.sl 5 .u8 a N2 c (PP ++ lenB8 n k), .ints ph .u64 39 8 SS, .sl 38 .u64 (some ⟨pk, 0, none⟩) 80 ck KK, .ints po .u8 27 64 zs])) (fun v _ _ => N1 + 9 - (lenOf v))
          case atStart => exact ⟨0, N1, a, c, by omega, by omega, rfl, rfl, by rw [lenB8, List.append_nil]; exact HK⟩
          case round =>
            obtain ⟨k, N2, a, c, hN2, hk, rfl, rfl, HK'⟩ := hrel
            clear HK
            have HK := HK'
            clear HK'
            have hN3 : N2 ≤ 5000 := by omega
            have HE := Lib.hid hN2
            clear hN2
            have hk0 : 0 ≤ (k : Int) := by omega
            by_cases hlt : k < 8
            · as_aux_lemma =>
              have hk8 : (k : Int) < 8 := by omega
              have hk7 : (k : Int) ≤ 7 := by omega
              have h56 : 0 ≤ 7 - (k : Int) := by omega
              have h57 : 0 ≤ 8 * (7 - (k : Int)) := by omega
              go_wp2_with (at_builtin; refine wpList_push_own rfl HK.out _ _ 22 rfl 5 (.int .u8 0) 1 Try.underlying22 (by kernel_rfl) rfl .u8 _ _ _ _ rfl (by first | exact Del.here _ | exact Del.next _ (Del.here _) | exact Del.next _ (Del.next _ (Del.here _)) | exact Del.next _ (Del.next _ (Del.next _ (Del.here _))) | exact Del.next _ (Del.next _ (Del.next _ (Del.next _ (Del.here _)))) | exact Del.next _ (Del.next _ (Del.next _ (Del.next _ (Del.next _ (Del.here _))))) | exact Del.next _ (Del.next _ (Del.next _ (Del.next _ (Del.next _ (Del.next _ (Del.here _)))))) | exact Del.next _ (Del.next _ (Del.next _ (Del.next _ (Del.next _ (Del.next _ (Del.next _ (Del.here _))))))) | exact Del.next _ (Del.next _ (Del.next _ (Del.next _ (Del.next _ (Del.next _ (Del.next _ (Del.next _ (Del.here _)))))))) | exact Del.next _ (Del.next _ (Del.next _ (Del.next _ (Del.next _ (Del.next _ (Del.next _ (Del.next _ (Del.next _ (Del.here _)))))))))) _ _ _ rfl (by unfold maxLen; omega) (by omega) ?_)
              intro a2 c2 w3 hk
              clear HK
              have HK := Lib.hid hk
              clear hk
              have hk := HK.out
              have HE8 := Lib.hid (show 8 * (7 - k) = 56 - 8 * k by omega)
              rw [HE8.out] at hk
              clear HK
              have HK := Lib.hid hk
              clear hk
              have hs : 7 - (k : Int) - 1 = 7 - ((k + 1 : Nat) : Int) := by omega
              have HSX := Lib.hid hs
              clear hs
              go_wp2_with fail
              exact ⟨⟨k + 1, N2 + 1, a2, c2, by rw [HE.out]; omega, by omega, by rw [HSX.out], rfl, HK⟩, by simp [lenOf]; have := HE.out; omega⟩
            · have hk8 : k = 8 := by omega
              have hi : 7 - (k : Int) = -1 := by omega
              rw [hi]
              rw [hk8, ← HMP.out] at HK
              obtain ⟨N, hNN⟩ : ∃ N, N = 128 * nb := ⟨_, rfl⟩
              have hNE : N2 = N := by rw [HE.out, hNN, ← HNB.out, hk8]
              rw [hNE] at HK ⊢
              have HN := Lib.hid hNN
              have hN0 : 0 < N := by omega
              clear hi hk8 hN3 hlt hNE HE hk hk0 hNN HNB HMP HML
              have hk := HK.out
              obtain ⟨pm, rfl, hcap⟩ := hk.addr (.here _) hN0
              have hcm := (hk.cap (.here _)).2.1
              rw [show SS = hs64 M 0 by rw [HSS.out]; rfl] at hk
              clear HK
              have HK := Lib.hid hk
              clear hk
              clear HSS HSL
              go_upto_block 4 with fail
              exact rsum512_tail (by assumption) hcap hcm HN hnb0 hnb1 HMO HS HKK HK
    · as_aux_lemma =>
      have hb : ¬ (N : Int) % 128 = 120 := by intro h; exact hlt (hiff.1 (by omega))
      have hjz : j + 1 ≤ z := by omega
      have hN3 : N ≤ 200000 := by omega
      have HN := Lib.hid hN
      have hbb : ((N : Int) % 128 != 120) = true := bne_iff_ne.2 hb
      clear hiff hN hlt
      go_wp2_with (at_builtin; refine wpList_push_own rfl HK.out _ _ 22 rfl 5 (.int .u8 0) 1 Try.underlying22 (by kernel_rfl) rfl .u8 _ _ _ _ rfl (by first | exact Del.here _ | exact Del.next _ (Del.here _) | exact Del.next _ (Del.next _ (Del.here _)) | exact Del.next _ (Del.next _ (Del.next _ (Del.here _))) | exact Del.next _ (Del.next _ (Del.next _ (Del.next _ (Del.here _)))) | exact Del.next _ (Del.next _ (Del.next _ (Del.next _ (Del.next _ (Del.here _))))) | exact Del.next _ (Del.next _ (Del.next _ (Del.next _ (Del.next _ (Del.next _ (Del.here _)))))) | exact Del.next _ (Del.next _ (Del.next _ (Del.next _ (Del.next _ (Del.next _ (Del.next _ (Del.here _))))))) | exact Del.next _ (Del.next _ (Del.next _ (Del.next _ (Del.next _ (Del.next _ (Del.next _ (Del.next _ (Del.here _)))))))) | exact Del.next _ (Del.next _ (Del.next _ (Del.next _ (Del.next _ (Del.next _ (Del.next _ (Del.next _ (Del.next _ (Del.here _)))))))))) _ _ _ rfl (by unfold maxLen; omega) (by omega) ?_)
      intro a2 c2 w3 hk
      clear hbb
      rw [padZ_next] at hk
      clear HK
      have HK := Lib.hid hk
      clear hk
      go_wp2_with fail
      exact ⟨⟨j + 1, N + 1, a2, c2, by rw [HN.out]; omega, hjz, rfl, HK⟩, by simp [lenOf]; have := HN.out; omega⟩
end Go.Proofs.Ytncdbgpmhkiedaa
