/- SHA-256: what it computes. -/
import Derived.Test.YtjogdbiaiflmpaaShaC
namespace Go.Proofs.Ytjogdbiaiflmpaa
set_option linter.unusedVariables false
set_option linter.unusedSimpArgs false
open Go.RowKit Go.Proofs.YtjogdbiaiflmpaaL

def H32 : List Int := [1779033703, 3144134277, 1013904242, 2773480762, 1359893119, 2600822924, 528734635, 1541459225]
def K32 : List Int := [1116352408, 1899447441, 3049323471, 3921009573, 961987163, 1508970993, 2453635748, 2870763221, 3624381080, 310598401, 607225278, 1426881987, 1925078388, 2162078206, 2614888103, 3248222580, 3835390401, 4022224774, 264347078, 604807628, 770255983, 1249150122, 1555081692, 1996064986, 2554220882, 2821834349, 2952996808, 3210313671, 3336571891, 3584528711, 113926993, 338241895, 666307205, 773529912, 1294757372, 1396182291, 1695183700, 1986661051, 2177026350, 2456956037, 2730485921, 2820302411, 3259730800, 3345764771, 3516065817, 3600352804, 4094571909, 275423344, 430227734, 506948616, 659060556, 883997877, 958139571, 1322822218, 1537002063, 1747873779, 1955562222, 2024104815, 2227730452, 2361852424, 2428436474, 2756734187, 3204031479, 3329325298]
theorem ok_H32 : okB 4294967296 H32 := by unfold okB H32; decide
theorem length_H32 : H32.length = 8 := rfl
theorem length_K32 : K32.length = 64 := rfl
def big0 (x : Int) : Int := bits .xor .u32 (bits .xor .u32 (rr32 x 2) (rr32 x 13)) (rr32 x 22)
def big1 (x : Int) : Int := bits .xor .u32 (bits .xor .u32 (rr32 x 6) (rr32 x 11)) (rr32 x 25)
def not32 (e : Int) : Int := bits .xor .u32 (if IntKind.u32.signed = true then -1 else IntKind.u32.max) e
def tmp1 (v : List Int) (e kk ww : Int) : Int := w32 (w32 (w32 (w32 (v.getD 7 0 + big1 e) + bits .xor .u32 (bits .and .u32 e (v.getD 5 0)) (bits .and .u32 (not32 e) (v.getD 6 0))) + kk) + ww)
def tmp2 (v : List Int) (a : Int) : Int := big0 a + bits .xor .u32 (bits .xor .u32 (bits .and .u32 a (v.getD 1 0)) (bits .and .u32 a (v.getD 2 0))) (bits .and .u32 (v.getD 1 0) (v.getD 2 0))
def stepX (v : List Int) (e a kk ww : Int) : List Int := [(tmp1 v e kk ww + tmp2 v a) % 4294967296, v.getD 0 0, v.getD 1 0, v.getD 2 0, (v.getD 3 0 + tmp1 v e kk ww) % 4294967296, v.getD 4 0, v.getD 5 0, v.getD 6 0]
def step32 (v : List Int) (kk ww : Int) : List Int := stepX v (v.getD 4 0) (v.getD 0 0) kk ww
def rn (h l : List Int) : Nat → List Int
  | 0 => h
  | j + 1 => step32 (rn h l j) (K32.getD j 0) (l.getD j 0)
def addH (h v : List Int) : Nat → List Int
  | 0 => h
  | j + 1 => (addH h v j).set j (w32 ((addH h v j).getD j 0 + v.getD j 0))
def wd32 (b : List Int) : List Int := wdB (wdA b 16) 48
def comp32 (h b : List Int) : List Int := addH h (rn h (wd32 b) 64) 8
def hs32 (m : List Int) : Nat → List Int
  | 0 => H32
  | k + 1 => comp32 (hs32 m k) (m.drop (64 * k))
def outA (h : List Int) : Nat → List Int
  | 0 => List.replicate 32 0
  | k + 1 => (outA h k).set k (h.getD (k / 4) 0 / 2 ^ (24 - 8 * (k % 4)) % 256)
/-- SHA-256. -/
def sum32 (m : List Int) : List Int := outA (hs32 (pad64 m) ((pad64 m).length / 64)) 32
theorem length_step32 (v : List Int) (kk ww : Int) : (step32 v kk ww).length = 8 := rfl
theorem ok_step32 {v : List Int} (h : okB 4294967296 v) (kk ww : Int) : okB 4294967296 (step32 v kk ww) := fun x hx => by
  have g := fun i => ok_getD (B := 4294967296) (by decide) h i
  simp only [step32, stepX, List.mem_cons, List.not_mem_nil, or_false] at hx
  rcases hx with rfl | rfl | rfl | rfl | rfl | rfl | rfl | rfl <;> first | exact ⟨Int.emod_nonneg _ (by decide), Int.emod_lt_of_pos _ (by decide)⟩ | exact g _
theorem length_rn {h : List Int} (hh : h.length = 8) (l : List Int) : ∀ j, (rn h l j).length = 8
  | 0 => hh
  | j + 1 => rfl
theorem ok_rn {h : List Int} (hh : okB 4294967296 h) (l : List Int) : ∀ j, okB 4294967296 (rn h l j)
  | 0 => hh
  | j + 1 => ok_step32 (ok_rn hh l j) _ _
theorem length_addH (h v : List Int) : ∀ j, (addH h v j).length = h.length
  | 0 => rfl
  | j + 1 => by rw [addH, List.length_set, length_addH h v j]
theorem ok_addH {h : List Int} (hh : okB 4294967296 h) (v : List Int) : ∀ j, okB 4294967296 (addH h v j)
  | 0 => hh
  | j + 1 => ok_set (ok_addH hh v j) _ _ (w32_range _).1 (w32_range _).2
theorem length_hs32 (m : List Int) : ∀ k, (hs32 m k).length = 8
  | 0 => rfl
  | k + 1 => by rw [hs32, comp32, length_addH, length_hs32 m k]
theorem ok_hs32 (m : List Int) : ∀ k, okB 4294967296 (hs32 m k)
  | 0 => ok_H32
  | k + 1 => ok_addH (ok_hs32 m k) _ _
theorem length_outA (h : List Int) : ∀ k, (outA h k).length = 32
  | 0 => List.length_replicate ..
  | k + 1 => by rw [outA, List.length_set, length_outA h k]
theorem ok_outA (h : List Int) : ∀ k, okB 256 (outA h k)
  | 0 => fun x hx => by rw [outA] at hx; rw [List.eq_of_mem_replicate hx]; decide
  | k + 1 => ok_set (ok_outA h k) _ _ (Int.emod_nonneg _ (by decide)) (Int.emod_lt_of_pos _ (by decide))
theorem length_wd32 (b : List Int) : (wd32 b).length = 64 := by rw [wd32, length_wdB, length_wdA]
theorem length_sum32 (m : List Int) : (sum32 m).length = 32 := length_outA _ _
theorem ok_sum32 (m : List Int) : okB 256 (sum32 m) := ok_outA _ _
theorem length_pad64 (m : List Int) : (pad64 m).length = m.length + 1 + zc m.length + 8 := by rw [pad64, List.length_append, length_padZ, length_lenB8]
theorem whole64 (n : Nat) : (n + 1 + zc n + 8) % 64 = 0 := by unfold zc; omega

theorem start256_any (w : World) : Calls Try.prog 24 #[] w fun e w' => e = .returned (.agg (encK .u32 H32)) ∧ w.grownBy w' none := by
  have HK := Lib.hid (own_start w)
  go_enter Try.func24, Try.ntmps24
  go_wp2_with ((refine wpList_new_ints rfl HK.out _ rfl .u32 46 8 (zer 8) (length_zer _) (fun w => by go_simp; first | exact ⟨rfl, rfl⟩ | kernel_rfl) ?_))
  intro wn p hkn
  have HKN := Lib.hid hkn
  clear hkn HK
  have HK := HKN
  clear HKN
  go_wp2_with (refine wpList_put_row rfl HK.out 46 _ _ rfl _ _ H32 rfl rfl _ _ _ (by first | exact Upd.here _ | exact Upd.next _ (Upd.here _) | exact Upd.next _ (Upd.next _ (Upd.here _)) | exact Upd.next _ (Upd.next _ (Upd.next _ (Upd.here _))) | exact Upd.next _ (Upd.next _ (Upd.next _ (Upd.next _ (Upd.here _)))) | exact Upd.next _ (Upd.next _ (Upd.next _ (Upd.next _ (Upd.next _ (Upd.here _))))) | exact Upd.next _ (Upd.next _ (Upd.next _ (Upd.next _ (Upd.next _ (Upd.next _ (Upd.here _)))))) | exact Upd.next _ (Upd.next _ (Upd.next _ (Upd.next _ (Upd.next _ (Upd.next _ (Upd.next _ (Upd.here _))))))) | exact Upd.next _ (Upd.next _ (Upd.next _ (Upd.next _ (Upd.next _ (Upd.next _ (Upd.next _ (Upd.next _ (Upd.here _)))))))) | exact Upd.next _ (Upd.next _ (Upd.next _ (Upd.next _ (Upd.next _ (Upd.next _ (Upd.next _ (Upd.next _ (Upd.next _ (Upd.here _)))))))))) (by rfl) (by kernel_rfl) ?_; (intro wn hkn; have HKN := Lib.hid hkn; clear hkn; clear HK; have HK := HKN; clear HKN))
  exact bodyPost_ret (results_own rfl _ HK.out _ rfl (by first | exact Has.here _ | exact Has.next _ (Has.here _) | exact Has.next _ (Has.next _ (Has.here _)) | exact Has.next _ (Has.next _ (Has.next _ (Has.here _))) | exact Has.next _ (Has.next _ (Has.next _ (Has.next _ (Has.here _)))) | exact Has.next _ (Has.next _ (Has.next _ (Has.next _ (Has.next _ (Has.here _))))) | exact Has.next _ (Has.next _ (Has.next _ (Has.next _ (Has.next _ (Has.next _ (Has.here _)))))) | exact Has.next _ (Has.next _ (Has.next _ (Has.next _ (Has.next _ (Has.next _ (Has.next _ (Has.here _))))))) | exact Has.next _ (Has.next _ (Has.next _ (Has.next _ (Has.next _ (Has.next _ (Has.next _ (Has.next _ (Has.here _)))))))) | exact Has.next _ (Has.next _ (Has.next _ (Has.next _ (Has.next _ (Has.next _ (Has.next _ (Has.next _ (Has.next _ (Has.here _)))))))))) _ Try.underlying46 rfl (by kernel_rfl)) rfl ⟨rfl, HK.out.grown⟩
set_option maxHeartbeats 1600000 in
set_option maxRecDepth 100000 in
theorem round256_any (w : World) : Calls Try.prog 25 #[] w fun e w' => e = .returned (.agg (encK .u32 K32)) ∧ w.grownBy w' none := by
  have HK := Lib.hid (own_start w)
  go_enter Try.func25, Try.ntmps25
  go_wp2_with ((refine wpList_new_ints rfl HK.out _ rfl .u32 49 64 (zer 64) (length_zer _) (fun w => by go_simp; first | exact ⟨rfl, rfl⟩ | kernel_rfl) ?_))
  intro wn p hkn
  have HKN := Lib.hid hkn
  clear hkn HK
  have HK := HKN
  clear HKN
  go_wp2_with (refine wpList_put_row rfl HK.out 49 _ _ rfl _ _ K32 rfl rfl _ _ _ (by first | exact Upd.here _ | exact Upd.next _ (Upd.here _) | exact Upd.next _ (Upd.next _ (Upd.here _)) | exact Upd.next _ (Upd.next _ (Upd.next _ (Upd.here _))) | exact Upd.next _ (Upd.next _ (Upd.next _ (Upd.next _ (Upd.here _)))) | exact Upd.next _ (Upd.next _ (Upd.next _ (Upd.next _ (Upd.next _ (Upd.here _))))) | exact Upd.next _ (Upd.next _ (Upd.next _ (Upd.next _ (Upd.next _ (Upd.next _ (Upd.here _)))))) | exact Upd.next _ (Upd.next _ (Upd.next _ (Upd.next _ (Upd.next _ (Upd.next _ (Upd.next _ (Upd.here _))))))) | exact Upd.next _ (Upd.next _ (Upd.next _ (Upd.next _ (Upd.next _ (Upd.next _ (Upd.next _ (Upd.next _ (Upd.here _)))))))) | exact Upd.next _ (Upd.next _ (Upd.next _ (Upd.next _ (Upd.next _ (Upd.next _ (Upd.next _ (Upd.next _ (Upd.next _ (Upd.here _)))))))))) (by rfl) (by kernel_rfl) ?_; (intro wn hkn; have HKN := Lib.hid hkn; clear hkn; clear HK; have HK := HKN; clear HKN))
  exact bodyPost_ret (results_own rfl _ HK.out _ rfl (by first | exact Has.here _ | exact Has.next _ (Has.here _) | exact Has.next _ (Has.next _ (Has.here _)) | exact Has.next _ (Has.next _ (Has.next _ (Has.here _))) | exact Has.next _ (Has.next _ (Has.next _ (Has.next _ (Has.here _)))) | exact Has.next _ (Has.next _ (Has.next _ (Has.next _ (Has.next _ (Has.here _))))) | exact Has.next _ (Has.next _ (Has.next _ (Has.next _ (Has.next _ (Has.next _ (Has.here _)))))) | exact Has.next _ (Has.next _ (Has.next _ (Has.next _ (Has.next _ (Has.next _ (Has.next _ (Has.here _))))))) | exact Has.next _ (Has.next _ (Has.next _ (Has.next _ (Has.next _ (Has.next _ (Has.next _ (Has.next _ (Has.here _)))))))) | exact Has.next _ (Has.next _ (Has.next _ (Has.next _ (Has.next _ (Has.next _ (Has.next _ (Has.next _ (Has.next _ (Has.here _)))))))))) _ Try.underlying49 rfl (by kernel_rfl)) rfl ⟨rfl, HK.out.grown⟩
end Go.Proofs.Ytjogdbiaiflmpaa
