/- poly's reference, walked. -/
import Derived.Test.YthhijeokeljcjaaPolL
namespace Go.Proofs.Ythhijeokeljcjaa
set_option linter.unusedVariables false
set_option linter.unusedSimpArgs false
open Go.RowKit Go.Proofs.YthhijeokeljcjaaL

def cA (S : List Int) : Nat → List Int
  | 0 => S
  | m + 1 => (cA S m).set (3 + 4 * m) ((cA S m).getD (3 + 4 * m) 0 % 16)
def cB (S : List Int) : Nat → List Int
  | 0 => S
  | m + 1 => (cB S m).set (4 + 4 * m) ((cB S m).getD (4 + 4 * m) 0 / 4 * 4)
theorem cA_ok {S : List Int} (h : S.length = 17 ∧ okB 256 S) : ∀ m, (cA S m).length = 17 ∧ okB 256 (cA S m)
  | 0 => h
  | m + 1 => by
    have ih := cA_ok h m
    have := ok_getD (B := 256) (by decide) ih.2 (3 + 4 * m)
    exact ⟨by rw [cA, List.length_set, ih.1], ok_set ih.2 _ _ (by omega) (by omega)⟩
theorem cB_ok {S : List Int} (h : S.length = 17 ∧ okB 256 S) : ∀ m, (cB S m).length = 17 ∧ okB 256 (cB S m)
  | 0 => h
  | m + 1 => by
    have ih := cB_ok h m
    have := ok_getD (B := 256) (by decide) ih.2 (4 + 4 * m)
    exact ⟨by rw [cB, List.length_set, ih.1], ok_set ih.2 _ _ (by omega) (by omega)⟩
theorem nat_all' (p : Nat → Bool) (h : (List.range 256).all p = true) (X : Nat) (hX : X < 256) : p X = true := List.all_eq_true.1 h X (List.mem_range.2 hX)
theorem a255 {x : Int} (h : 0 ≤ x ∧ x < 256) : ((x.toNat &&& (255 : Int).toNat : Nat) : Int) = x := by
  have := nat_all' (fun X => X &&& 255 == X) (by decide +kernel) x.toNat (by omega)
  have h2 : x.toNat &&& 255 = x.toNat := by simpa using this
  rw [show (255 : Int).toNat = 255 from rfl, h2]; omega
theorem a15 {x : Int} (h : 0 ≤ x ∧ x < 256) : ((x.toNat &&& (15 : Int).toNat : Nat) : Int) = x % 16 := by
  have := nat_all' (fun X => X &&& 15 == X % 16) (by decide +kernel) x.toNat (by omega)
  have h2 : x.toNat &&& 15 = x.toNat % 16 := by simpa using this
  rw [show (15 : Int).toNat = 15 from rfl, h2]; omega
theorem a252 {x : Int} (h : 0 ≤ x ∧ x < 256) : ((x.toNat &&& (252 : Int).toNat : Nat) : Int) = x / 4 * 4 := by
  have := nat_all' (fun X => X &&& 252 == X / 4 * 4) (by decide +kernel) x.toNat (by omega)
  have h2 : x.toNat &&& 252 = x.toNat / 4 * 4 := by simpa using this
  rw [show (252 : Int).toNat = 252 from rfl, h2]; omega
theorem clamp_end {K : List Int} (h : K.length = 16) (ho : okB 256 K) : cB (cA (K ++ [0]) 4) 3 = andB K [255, 255, 255, 15, 252, 255, 255, 15, 252, 255, 255, 15, 252, 255, 255, 15] ++ [0] := by
  match K, h with
  | [x0, x1, x2, x3, x4, x5, x6, x7, x8, x9, x10, x11, x12, x13, x14, x15], _ =>
    have hx : ∀ y ∈ [x0, x1, x2, x3, x4, x5, x6, x7, x8, x9, x10, x11, x12, x13, x14, x15], 0 ≤ y ∧ y < 256 := ho
    simp only [andB, List.cons_append, List.nil_append]
    rw [a255 (hx x0 (by simp)), a255 (hx x1 (by simp)), a255 (hx x2 (by simp)), a15 (hx x3 (by simp)), a252 (hx x4 (by simp)), a255 (hx x5 (by simp)), a255 (hx x6 (by simp)), a15 (hx x7 (by simp)), a252 (hx x8 (by simp)), a255 (hx x9 (by simp)), a255 (hx x10 (by simp)), a15 (hx x11 (by simp)), a252 (hx x12 (by simp)), a255 (hx x13 (by simp)), a255 (hx x14 (by simp)), a15 (hx x15 (by simp))]
    rfl
theorem b15 {x : Int} (h : 0 ≤ x ∧ x < 256) : bits .and .u32 x 15 = x % 16 := u32_andm x 4 h.1 (by omega) (by decide)
theorem b252 {x : Int} (h : 0 ≤ x ∧ x < 256) : bits .and .u32 x 252 = x / 4 * 4 := by
  rw [u32_and x 252 h.1 (by omega) (by decide) (by decide)]; exact a252 h
theorem take_set (key : List Int) (k : Nat) (hk : k < 16) (h : 16 ≤ key.length) : (key.take k ++ zerP (17 - k)).set k (key.getD k 0) = key.take (k + 1) ++ zerP (17 - (k + 1)) := by
  rw [set_one' (key.take k) k 17 _ (by rw [List.length_take]; omega) (by omega), take_next key k (by omega)]

theorem clampR_len {key : List Int} (h : key.length = 32) : (clampR key).length = 16 := by
  rw [clampR, length_andB _ _ (by rw [List.length_take, h]; rfl)]; rfl
theorem ok_andB : ∀ (xs ms : List Int), okB 256 ms → okB 256 (andB xs ms)
  | [], _, _ => fun x hx => by simp [andB] at hx
  | _ :: _, [], _ => fun x hx => by simp [andB] at hx
  | y :: r, m :: s, h => fun x hx => by
    rw [andB] at hx
    rcases List.mem_cons.1 hx with rfl | hx
    · have h1 := h m (by simp)
      have : y.toNat &&& m.toNat ≤ m.toNat := Nat.and_le_right
      omega
    · exact ok_andB r s (fun z hz => h z (by simp [hz])) x hx
theorem clampR_ok {key : List Int} (h : key.length = 32) (ho : okB 256 key) : okB 256 (clampR key ++ [0]) := fun x hx => by
  rcases List.mem_append.1 hx with hx | hx
  · exact ok_andB _ _ (by unfold okB; decide) x hx
  · have : x = 0 := by simpa using hx
    omega
theorem clampR_num0 {key : List Int} (h : key.length = 32) (ho : okB 256 key) : numB 256 (clampR key ++ [0]) = keyR key := by
  rw [show ([0] : List Int) = List.replicate 1 0 from rfl, num_zeros, clampR_num h ho]
theorem rd_below {k : IntKind} {w w' : World} {ad : Option Addr} {n q b : Nat} {xs : List Int} (h : Rd k w ad n xs) (hq : ∀ x, ad = some x → x.block < b) (hb : b ≤ q) (g : w.grownBy w' (some q)) : Rd k w' ad n xs :=
  ⟨h.1, fun i hi => by
    obtain ⟨x, hx, hc⟩ := h.2 i hi
    have hlt := hq x hx
    exact ⟨x, hx, g.cell hc (by rw [add_block]; intro e; injection e; omega)⟩⟩
theorem subAt_lt {ad : Option Addr} {q : Nat} (h : ∀ x, ad = some x → x.block < q) (l m : Nat) : ∀ x, subAt ad l m = some x → x.block < q := fun x hx => by
  unfold subAt at hx
  split at hx
  · exact h x hx
  · cases ad with
    | none => cases hx
    | some y =>
      have : y.add (l * 1) = x := Option.some.inj hx
      rw [← this, add_block]; exact h y rfl
set_option maxHeartbeats 2000000 in
set_option maxRecDepth 100000 in
theorem rpoly_any (key : List Int) (ad : Option Addr) (len cap : Nat) (bs : List Int) (w : World) (hk : key.length = 32) (hko : okB 256 key) (hr : Rd .u8 w ad len bs) (hbo : okB 256 bs) (hlc : len ≤ cap) (hcm : cap ≤ maxLen) (hadb : 0 < len → ∀ x, ad = some x → x.block < w.heap.size) :
    Calls Try.prog 27 #[.agg (encK .u8 key), .slice ad len cap] w fun e w' => e = .returned (.agg (encK .u8 (digB 256 16 (tagV key bs)))) ∧ w.grownBy w' none := by
  have HK := Lib.hid hk
  have HKO := Lib.hid hko
  have HR0 := Lib.hid hr
  have HBO := Lib.hid hbo
  have HBL := Lib.hid hr.1
  have HLC := Lib.hid hlc
  have HCM := Lib.hid hcm
  have HKR := Lib.hid (keyR_range hko)
  have HADB0 := Lib.hid hadb
  clear hk hko hr hbo hlc hcm hadb
  go_enter Try.func27, Try.ntmps27
  obtain ⟨p, hp⟩ : ∃ p, w.heap.size = p := ⟨_, rfl⟩
  have HP := Lib.hid hp
  have HADB := Lib.hid (show 0 < len → ∀ x, ad = some x → x.block < p from fun h0 x hx => by rw [← hp]; exact HADB0.out h0 x hx)
  clear hp HADB0
  go_wp2_with fail
  rw [HP.out]
  go_loopw [6] (fun v wr => ∃ k : Nat, k ≤ 16 ∧ v = .int .i64 k ∧ wr.heap[p]? = some (.cells (encK .u8 key) A32 (0, 0)) ∧ wr.heap[p + 1]? = some (.cells (encK .u8 (List.replicate 16 0)) A16 (0, 0)) ∧
    wr.heap[p + 1 + 1]? = some (.cells (encK .u32 (key.take k ++ zerP (17 - k))) A17 (0, 0)) ∧ w.grownBy wr none) (fun v _ => 16 - (intOf v).toNat)
  case atStart =>
    rw [← HP.out]
    exact ⟨0, by omega, rfl, three_0 _ _ _ _, three_1 _ _ _ _, three_2 _ _ _ _, three_g _ _ _ _⟩
  case round =>
    obtain ⟨k, hk, rfl, r0, r1, r2, hg⟩ := hrel
    have R0 := Lib.hid r0
    have R1 := Lib.hid r1
    have R2 := Lib.hid r2
    have HG := Lib.hid hg
    clear r0 r1 r2 hg
    by_cases hlt : k < 16
    · have hk0 : 0 ≤ (k : Int) := by omega
      have hk16 : (k : Int) < 16 := by omega
      have hk17 : (k : Int) < 17 := by omega
      have hk32 : (k : Int) < 32 := by omega
      have e1 := rowK_at R0.out k (by rw [HK.out]; omega)
      obtain ⟨x, hx⟩ : ∃ x, x = key.getD k 0 := ⟨_, rfl⟩
      have hx0 := ok_getD (B := 256) (by decide) HKO.out k
      rw [← hx] at e1 hx0
      have HX := Lib.hid hx
      clear hx
      go_wp2_with (refine wpList_store_cell rfl _ (.tmp 25) (.tmp 24) rfl (p + 1 + 1) k _ rfl rfl _ _ R2.out (by rw [size_encK, List.length_append, length_zerP, List.length_take, HK.out]; omega) (by kernel_rfl) rfl rfl ?_)
      intro w5 r5 g5
      have r6 := rowK_set r5
      rw [HX.out, take_set key k hlt (by rw [HK.out]; decide)] at r6
      have R2' := Lib.hid r6
      have R0' := Lib.hid ((g5.block _ (row_lt R0.out) (by intro e; injection e; omega)).trans R0.out)
      have R1' := Lib.hid ((g5.block _ (row_lt R1.out) (by intro e; injection e; omega)).trans R1.out)
      have HG' := Lib.hid (grown_row HG.out g5 (fun j hj => by injection hj with hj; have := HP.out; omega))
      clear r5 r6 g5 R0 R1 R2 HG e1 hx0
      go_wp2_with fail
      exact ⟨⟨k + 1, by omega, by go_num, R0'.out, R1'.out, R2'.out, HG'.out⟩, by simp [intOf]; omega⟩
    · have : k = 16 := by omega
      have hI : (k : Int) = 16 := by omega
      rw [hI]
      clear hI
      subst this
      have hS : (key.take 16 ++ [0]).length = 17 ∧ okB 256 (key.take 16 ++ [0]) := ⟨by rw [List.length_append, List.length_take, HK.out]; rfl, fun x hx => by
        rcases List.mem_append.1 hx with hx | hx
        · exact HKO.out x (List.mem_of_mem_take hx)
        · have : x = 0 := by simpa using hx
          omega⟩
      obtain ⟨S, hSS⟩ : ∃ S, S = key.take 16 ++ [0] := ⟨_, rfl⟩
      have r2 := R2.out
      rw [show key.take 16 ++ zerP (17 - 16) = S from hSS.symm] at r2
      rw [← hSS] at hS
      have R2' := Lib.hid r2
      have HSO := Lib.hid hS
      have HSE := Lib.hid (show cB (cA S 4) 3 = clampR key ++ [0] by rw [hSS]; exact clamp_end (by rw [List.length_take, HK.out]; decide) (fun x hx => HKO.out x (List.mem_of_mem_take hx)))
      clear hSS hS r2 R2
      go_wp2_with fail
      go_loopw [7] (fun v wr => ∃ m : Nat, m ≤ 4 ∧ v = .int .i64 (3 + 4 * (m : Int)) ∧ wr.heap[p]? = some (.cells (encK .u8 key) A32 (0, 0)) ∧ wr.heap[p + 1]? = some (.cells (encK .u8 (List.replicate 16 0)) A16 (0, 0)) ∧
        wr.heap[p + 1 + 1]? = some (.cells (encK .u32 (cA S m)) A17 (0, 0)) ∧ w.grownBy wr none) (fun v _ => 20 - (intOf v).toNat)
      case atStart => exact ⟨0, by omega, rfl, R0.out, R1.out, R2'.out, HG.out⟩
      case round =>
        clear R0 R1 R2' HG
        obtain ⟨m, hm, rfl, r0, r1, r2, hg⟩ := hrel
        have R0 := Lib.hid r0
        have R1 := Lib.hid r1
        have R2 := Lib.hid r2
        have HG := Lib.hid hg
        clear r0 r1 r2 hg
        obtain ⟨I, hI⟩ : ∃ I : Nat, I = 3 + 4 * m := ⟨_, rfl⟩
        have hII : 3 + 4 * (m : Int) = (I : Int) := by omega
        rw [hII]
        have HI := Lib.hid hI
        have hmI : 4 * m + 3 = I := by omega
        have HMI := Lib.hid hmI
        clear hII hI hmI
        by_cases hlm : m < 4
        · have hI16 : (I : Int) < 16 := by have := HMI.out; omega
          have hI17 : (I : Int) < 17 := by omega
          have hI0 : 0 ≤ (I : Int) := by omega
          have hcl := cA_ok HSO.out m
          have e1 := rowK_at R2.out I (by rw [hcl.1]; omega)
          obtain ⟨x, hx⟩ : ∃ x, x = (cA S m).getD I 0 := ⟨_, rfl⟩
          have hx0 := ok_getD (B := 256) (by decide) hcl.2 I
          rw [← hx] at e1 hx0
          have HB := Lib.hid (b15 hx0)
          have HN := Lib.hid (show (cA S m).set I (x % 16) = cA S (m + 1) by rw [hx, HI.out]; rfl)
          have HL := Lib.hid hcl.1
          clear hx hx0 hcl
          go_wp2_with (refine wpList_store_cell rfl _ (.tmp 34) (.tmp 33) rfl (p + 1 + 1) I _ rfl rfl _ _ R2.out (by rw [size_encK, HL.out]; omega) (by kernel_rfl) rfl rfl ?_)
          intro w5 r5 g5
          rw [HB.out] at r5
          have r6 := rowK_set r5
          rw [HN.out] at r6
          have R2' := Lib.hid r6
          have R0' := Lib.hid ((g5.block _ (row_lt R0.out) (by intro e; injection e; omega)).trans R0.out)
          have R1' := Lib.hid ((g5.block _ (row_lt R1.out) (by intro e; injection e; omega)).trans R1.out)
          have HG' := Lib.hid (grown_row HG.out g5 (fun j hj => by injection hj with hj; have := HP.out; omega))
          clear r5 r6 g5 R0 R1 R2 HG e1
          go_wp2_with fail
          exact ⟨⟨m + 1, by omega, by have := HMI.out; congr 1; omega, R0'.out, R1'.out, R2'.out, HG'.out⟩, by simp [intOf]; omega⟩
        · have : m = 4 := by omega
          subst this
          have hI19 : (I : Int) = 19 := by have := HMI.out; omega
          rw [hI19]
          clear hI19
          go_wp2_with fail
          go_loopw [8] (fun v wr => ∃ m : Nat, m ≤ 3 ∧ v = .int .i64 (4 + 4 * (m : Int)) ∧ wr.heap[p]? = some (.cells (encK .u8 key) A32 (0, 0)) ∧ wr.heap[p + 1]? = some (.cells (encK .u8 (List.replicate 16 0)) A16 (0, 0)) ∧
            wr.heap[p + 1 + 1]? = some (.cells (encK .u32 (cB (cA S 4) m)) A17 (0, 0)) ∧ w.grownBy wr none) (fun v _ => 20 - (intOf v).toNat)
          case atStart => exact ⟨0, by omega, rfl, R0.out, R1.out, R2.out, HG.out⟩
          case round =>
            clear R0 R1 R2 HG HI HMI hm
            obtain ⟨m, hm, rfl, r0, r1, r2, hg⟩ := hrel
            have R0 := Lib.hid r0
            have R1 := Lib.hid r1
            have R2 := Lib.hid r2
            have HG := Lib.hid hg
            clear r0 r1 r2 hg
            obtain ⟨I, hI⟩ : ∃ I : Nat, I = 4 + 4 * m := ⟨_, rfl⟩
            have hII : 4 + 4 * (m : Int) = (I : Int) := by omega
            rw [hII]
            have HI := Lib.hid hI
            have hmI : 4 * m + 4 = I := by omega
            have HMI := Lib.hid hmI
            clear hII hI hmI
            by_cases hlm : m < 3
            · have hI16 : (I : Int) < 16 := by have := HMI.out; omega
              have hI17 : (I : Int) < 17 := by omega
              have hI0 : 0 ≤ (I : Int) := by omega
              have hcl := cB_ok (cA_ok HSO.out 4) m
              have e1 := rowK_at R2.out I (by rw [hcl.1]; omega)
              obtain ⟨x, hx⟩ : ∃ x, x = (cB (cA S 4) m).getD I 0 := ⟨_, rfl⟩
              have hx0 := ok_getD (B := 256) (by decide) hcl.2 I
              rw [← hx] at e1 hx0
              have HB := Lib.hid (b252 hx0)
              have HN := Lib.hid (show (cB (cA S 4) m).set I (x / 4 * 4) = cB (cA S 4) (m + 1) by rw [hx, HI.out]; rfl)
              have HL := Lib.hid hcl.1
              clear hx hx0 hcl
              go_wp2_with (refine wpList_store_cell rfl _ (.tmp 43) (.tmp 42) rfl (p + 1 + 1) I _ rfl rfl _ _ R2.out (by rw [size_encK, HL.out]; omega) (by kernel_rfl) rfl rfl ?_)
              intro w5 r5 g5
              rw [HB.out] at r5
              have r6 := rowK_set r5
              rw [HN.out] at r6
              have R2' := Lib.hid r6
              have R0' := Lib.hid ((g5.block _ (row_lt R0.out) (by intro e; injection e; omega)).trans R0.out)
              have R1' := Lib.hid ((g5.block _ (row_lt R1.out) (by intro e; injection e; omega)).trans R1.out)
              have HG' := Lib.hid (grown_row HG.out g5 (fun j hj => by injection hj with hj; have := HP.out; omega))
              clear r5 r6 g5 R0 R1 R2 HG e1
              go_wp2_with fail
              exact ⟨⟨m + 1, by omega, by have := HMI.out; congr 1; omega, R0'.out, R1'.out, R2'.out, HG'.out⟩, by simp [intOf]; omega⟩
            · have : m = 3 := by omega
              subst this
              have hI16 : (I : Int) = 16 := by have := HMI.out; omega
              rw [hI16]
              clear hI16
              have r2 := R2.out
              rw [HSE.out] at r2
              have RR := Lib.hid r2
              clear r2 R2 HI HMI
              obtain ⟨q, hq⟩ : ∃ q, wr.heap.size = q := ⟨_, rfl⟩
              have HQ := Lib.hid hq
              have HPQ := Lib.hid (show p + 1 + 1 < q by rw [← hq]; exact row_lt RR.out)
              clear hq
              go_wp2_with fail
              rw [HQ.out]
              go_loopw [1] (fun v_ wr => ∃ (k : Nat) (ad' : Option Addr) (len' cap' : Nat) (v : Int), v_ = .slice ad' len' cap' ∧ 16 * k ≤ bs.length + 15 ∧ len' = bs.length - 16 * k ∧ len' ≤ cap' ∧ cap' ≤ maxLen ∧ Hid (Rd .u8 wr ad' len' (bs.drop (16 * k))) ∧ Hid (0 < len' → ∀ x, ad' = some x → x.block < p) ∧
                Hid (0 ≤ v ∧ v < P2 ∧ v % PP = polyV (keyR key) bs k) ∧ wr.heap[p]? = some (.cells (encK .u8 key) A32 (0, 0)) ∧ wr.heap[p + 1]? = some (.cells (encK .u8 (List.replicate 16 0)) A16 (0, 0)) ∧
                wr.heap[p + 1 + 1]? = some (.cells (encK .u32 (clampR key ++ [0])) A17 (0, 0)) ∧ wr.heap[q]? = some (.cells (encK .u32 (digB 256 17 v)) A17 (0, 0)) ∧ w.grownBy wr none) (fun v _ => match v with | .slice _ n _ => n | _ => 0)
              case atStart =>
                exact ⟨0, ad, len, cap, 0, rfl, by omega, HBL.out.symm, HLC.out, HCM.out, HR0.out.kept (grown_alloc HG.out _), HADB.out, ⟨by decide, by decide, rfl⟩, (alloc_up _ _ (row_lt R0.out)).trans R0.out, (alloc_up _ _ (row_lt R1.out)).trans R1.out, (alloc_up _ _ (row_lt RR.out)).trans RR.out, alloc_at _ _ HQ.out.symm, grown_alloc HG.out _⟩
              case round =>
                clear R0 R1 RR HG
                obtain ⟨k, ad', len', cap', v, rfl, hk, hlen', hlc, hcm, HR, HAB, HV, r0, r1, r2, r3, hg⟩ := hrel
                have HCM2 := Lib.hid hcm
                have HLEN := Lib.hid hlen'
                have R0 := Lib.hid r0
                have R1 := Lib.hid r1
                have RR := Lib.hid r2
                have RH := Lib.hid r3
                have HG := Lib.hid hg
                clear r0 r1 r2 r3 hg hcm hlen'
                by_cases hpos : 0 < len'
                · have hpos' : (len' : Int) > 0 := by omega
                  by_cases h16 : 16 < len'
                  · have h16' : 16 < (len' : Int) := by omega
                    obtain ⟨s, hs⟩ : ∃ s, wr.heap.size = s := ⟨_, rfl⟩
                    have HS := Lib.hid hs
                    have HQS := Lib.hid (show q < s by rw [← hs]; exact row_lt RH.out)
                    clear hs
                    obtain ⟨xs, hxs⟩ : ∃ xs, xs = (bs.drop (16 * k)).take 16 := ⟨_, rfl⟩
                    have hxl : xs.length = 16 := by rw [hxs, List.length_take, HR.out.1]; omega
                    have hx16 : xs = (bs.drop (16 * k)).take 16 := by rw [hxs]
                    have hxo : okB 256 xs := by rw [hxs]; exact fun x hx => HBO.out x (List.mem_of_mem_drop (List.mem_of_mem_take hx))
                    have hdrop : (bs.drop (16 * k)).drop 16 = bs.drop (16 * (k + 1)) := by
                      rw [List.drop_drop]; try rfl
                    have hxk : ∀ j, j < 16 → xs.getD j 0 = (bs.drop (16 * k)).getD j 0 := fun j hj => by
                      rw [hxs, List.getD_eq_getElem?_getD, List.getElem?_take, if_pos hj, ← List.getD_eq_getElem?_getD]
                    have HXL := Lib.hid hxl
                    have HX16 := Lib.hid hx16
                    have HXO := Lib.hid hxo
                    have HDR := Lib.hid hdrop
                    have HXK := Lib.hid hxk
                    clear hxs hxl hx16 hxo hdrop hxk
                    go_wp2_with fail
                    rw [HS.out]
                    go_loopw [12] (fun v_ wr' => ∃ j : Nat, j ≤ 16 ∧ v_ = .int .i64 j ∧ wr'.heap[s]? = some (.cells (encK .u32 (xs.take j ++ zerP (17 - j))) A17 (0, 0)) ∧ Hid (Rd .u8 wr' ad' len' (bs.drop (16 * k))) ∧ wr'.heap[p]? = some (.cells (encK .u8 key) A32 (0, 0)) ∧ wr'.heap[p + 1]? = some (.cells (encK .u8 (List.replicate 16 0)) A16 (0, 0)) ∧
                      wr'.heap[p + 1 + 1]? = some (.cells (encK .u32 (clampR key ++ [0])) A17 (0, 0)) ∧ wr'.heap[q]? = some (.cells (encK .u32 (digB 256 17 v)) A17 (0, 0)) ∧ w.grownBy wr' none) (fun v _ => 16 - (intOf v).toNat)
                    case atStart =>
                      exact ⟨0, by omega, rfl, alloc_at _ _ HS.out.symm, HR.out.kept (World.grownBy_alloc _ _ _), (alloc_up _ _ (row_lt R0.out)).trans R0.out, (alloc_up _ _ (row_lt R1.out)).trans R1.out, (alloc_up _ _ (row_lt RR.out)).trans RR.out, (alloc_up _ _ (row_lt RH.out)).trans RH.out, grown_alloc HG.out _⟩
                    case round =>
                      clear R0 R1 RR RH HG
                      obtain ⟨j, hj, rfl, r4, HR', r0, r1, r2, r3, hg⟩ := hrel
                      have RC := Lib.hid r4
                      have R0 := Lib.hid r0
                      have R1 := Lib.hid r1
                      have RR := Lib.hid r2
                      have RH := Lib.hid r3
                      have HG := Lib.hid hg
                      clear r0 r1 r2 r3 r4 hg
                      by_cases hlj : j < 16
                      · have hj0 : 0 ≤ (j : Int) := by omega
                        have hj17 : (j : Int) < 17 := by omega
                        have hjN : (j : Int) < (16 : Int) := by omega
                        have hjl : (j : Int) < (len' : Int) := by omega
                        obtain ⟨x, hx, hcell⟩ := HR'.out.2 j (by omega)
                        subst hx
                        rw [← HXK.out j hlj] at hcell
                        obtain ⟨y, hy⟩ : ∃ y, y = xs.getD j 0 := ⟨_, rfl⟩
                        have hy0 := ok_getD (B := 256) (by decide) HXO.out j
                        rw [← hy] at hcell hy0
                        have HST := Lib.hid (show (xs.take j ++ zerP (17 - j)).set j y = xs.take (j + 1) ++ zerP (17 - (j + 1)) by
                          rw [set_one' (xs.take j) j 17 _ (by rw [List.length_take, HXL.out]; omega) (by omega), take_next xs j (by rw [HXL.out]; exact hlj), hy])
                        clear hy
                        go_wp2_with (refine wpList_store_cell rfl _ (.tmp 61) (.tmp 60) rfl s j _ rfl rfl _ _ RC.out (by rw [size_encK, List.length_append, length_zerP, List.length_take, HXL.out]; omega) (by kernel_rfl) rfl rfl ?_)
                        intro w5 r5 g5
                        have r6 := rowK_set r5
                        rw [HST.out] at r6
                        have RC' := Lib.hid r6
                        have R0' := Lib.hid ((g5.block _ (row_lt R0.out) (by intro e; injection e with e; have := HQS.out; have := HPQ.out; omega)).trans R0.out)
                        have R1' := Lib.hid ((g5.block _ (row_lt R1.out) (by intro e; injection e with e; have := HQS.out; have := HPQ.out; omega)).trans R1.out)
                        have RR' := Lib.hid ((g5.block _ (row_lt RR.out) (by intro e; injection e with e; have := HQS.out; have := HPQ.out; omega)).trans RR.out)
                        have RH' := Lib.hid ((g5.block _ (row_lt RH.out) (by intro e; injection e with e; have := HQS.out; omega)).trans RH.out)
                        have HR5 := Lib.hid (rd_other HR.out HR'.out g5 HS.out)
                        have HG' := Lib.hid (grown_row HG.out g5 (fun j hj => by injection hj with hj; have := HP.out; have := HPQ.out; have := HQS.out; omega))
                        clear r5 r6 g5 RC R0 R1 RR RH HG hcell hy0 HR'
                        go_wp2_with fail
                        exact ⟨⟨j + 1, by omega, by go_num, RC'.out, HR5.out, R0'.out, R1'.out, RR'.out, RH'.out, HG'.out⟩, by simp [intOf]; omega⟩
                      · have hjj : j = 16 := by omega
                        have rc := RC.out
                        rw [hjj, List.take_of_length_le (by rw [HXL.out]; omega)] at rc
                        have RC' := Lib.hid rc
                        clear rc RC
                        have hjI : (j : Int) = (16 : Int) := by omega
                        rw [hjI]
                        clear hjI hj hlj hjj
                        have HS1 := Lib.hid (set_one' xs (16) 17 1 HXL.out (by omega))
                        obtain ⟨C, hC⟩ : ∃ C, C = xs ++ [1] ++ zerP (17 - (16 + 1)) := ⟨_, rfl⟩
                        rw [← hC] at HS1
                        have HCL := Lib.hid (show C.length = 17 by rw [hC, List.length_append, List.length_append, HXL.out, length_zerP, List.length_singleton]; try omega)
                        have HCO := Lib.hid (show okB 256 C by rw [hC, zerP]; exact ok_block HXO.out _)
                        have HCN := Lib.hid (show numB 256 C = numB 256 ((bs.drop (16 * k)).take 16 ++ [1]) by rw [hC, zerP, num_zeros, HX16.out])
                        have HCR := Lib.hid (show 0 ≤ numB 256 C ∧ numB 256 C < 680564733841876926926749214863536422912 by rw [hC, zerP, num_zeros]; exact block_range HXO.out (by rw [HXL.out]; omega))
                        clear hC
                        have hnn0 : (0 : Int) ≤ ((16 : Nat) : Int) := by omega
                        have hnn17 : ((16 : Nat) : Int) < 17 := by omega
                        have hnnl : ((16 : Nat) : Int) ≤ (len' : Int) := by omega
                        go_wp2_with (first | (refine wpList_store_cell rfl _ (.tmp 63) (.const (.int .u32 1)) rfl s (16) _ rfl rfl _ _ RC'.out (by rw [size_encK, List.length_append, HXL.out, length_zerP]; omega) (by kernel_rfl) rfl rfl ?_))
                        intro w8 r8 g8
                        have r8' := rowK_set r8
                        rw [HS1.out] at r8'
                        have RC := Lib.hid r8'
                        have R0' := Lib.hid ((g8.block _ (row_lt R0.out) (by intro e; injection e with e; have := HQS.out; have := HPQ.out; omega)).trans R0.out)
                        have R1' := Lib.hid ((g8.block _ (row_lt R1.out) (by intro e; injection e with e; have := HQS.out; have := HPQ.out; omega)).trans R1.out)
                        have RR' := Lib.hid ((g8.block _ (row_lt RR.out) (by intro e; injection e with e; have := HQS.out; have := HPQ.out; omega)).trans RR.out)
                        have RH' := Lib.hid ((g8.block _ (row_lt RH.out) (by intro e; injection e with e; have := HQS.out; omega)).trans RH.out)
                        have HR8 := Lib.hid (rd_other HR.out HR'.out g8 HS.out)
                        have HG8 := Lib.hid (grown_row HG.out g8 (fun j hj => by injection hj with hj; have := HP.out; have := HPQ.out; have := HQS.out; omega))
                        clear r8 r8' g8 RC' R0 R1 RR RH HG HR'
                        go_wp2_with (refine wpList_slice rfl _ _ _ _ rfl _ rfl _ _ rfl rfl _ (run_sub_l Try.underlying24 rfl (16 : Int) (16) (by first | rfl | decide) (by omega)) ?_)
                        refine wp_region_grow [(1, 0), (1, 1), (1, 3), (0, 2), (0, 4), (3, 5)] (by kernel_rfl) (by kernel_rfl) (fun _ _ _ _ _ h => h) (fun _ _ _ _ _ h => h) ?_
                        refine gSeq_name fun w9 hw9 => ?_
                        have g9 : w8.grownBy w9 none := by rw [hw9]; exact grown_drew _ _
                        have RCx := Lib.hid (row_keep RC.out g9)
                        have R0 := Lib.hid (row_keep R0'.out g9)
                        have R1 := Lib.hid (row_keep R1'.out g9)
                        have RR := Lib.hid (row_keep RR'.out g9)
                        have RH := Lib.hid (row_keep RH'.out g9)
                        have HR9 := Lib.hid (HR8.out.kept g9)
                        have HG9 := Lib.hid (grown_trans HG8.out g9)
                        clear hw9 g9 RC R0' R1' RR' RH' HG8 HR8
                        have HRL := Lib.hid (show (clampR key ++ [0]).length = 17 by rw [List.length_append, clampR_len HK.out]; rfl)
                        (repeat (first | (refine gSeq_skip rfl (by rfl) ?_; (try simp only [Act.put, Act.eval, List.setIfInBounds_toArray, List.set_cons_zero, List.set_cons_succ, Array.getD_eq_getD_getElem?, List.getElem?_toArray, List.getElem?_cons_succ, List.getElem?_cons_zero, Option.getD_some])) | (refine gSeq_move _ rfl rfl (by rfl) ?_; (try simp only [Act.put, Act.eval, List.setIfInBounds_toArray, List.set_cons_zero, List.set_cons_succ, Array.getD_eq_getD_getElem?, List.getElem?_toArray, List.getElem?_cons_succ, List.getElem?_cons_zero, Option.getD_some])) | (refine gSeq_assign _ rfl rfl (by rfl) ?_; (try simp only [Act.put, Act.eval, List.setIfInBounds_toArray, List.set_cons_zero, List.set_cons_succ, Array.getD_eq_getD_getElem?, List.getElem?_toArray, List.getElem?_cons_succ, List.getElem?_cons_zero, Option.getD_some])) | ((first | (refine gSeq_row rfl (by rfl) 68 _ rfl _ rfl _ _ _ _ RH.out Try.underlying68 rfl (by rw [size_encK, length_digB]; kernel_rfl) ?_; (try simp only [Act.put, Act.eval, List.setIfInBounds_toArray, List.set_cons_zero, List.set_cons_succ, Array.getD_eq_getD_getElem?, List.getElem?_toArray, List.getElem?_cons_succ, List.getElem?_cons_zero, Option.getD_some])) | (refine gSeq_row rfl (by rfl) 68 _ rfl _ rfl _ _ _ _ RCx.out Try.underlying68 rfl (by rw [size_encK, HCL.out]; kernel_rfl) ?_; (try simp only [Act.put, Act.eval, List.setIfInBounds_toArray, List.set_cons_zero, List.set_cons_succ, Array.getD_eq_getD_getElem?, List.getElem?_toArray, List.getElem?_cons_succ, List.getElem?_cons_zero, Option.getD_some])) | (refine gSeq_row rfl (by rfl) 68 _ rfl _ rfl _ _ _ _ RR.out Try.underlying68 rfl (by rw [size_encK, HRL.out]; kernel_rfl) ?_; (try simp only [Act.put, Act.eval, List.setIfInBounds_toArray, List.set_cons_zero, List.set_cons_succ, Array.getD_eq_getD_getElem?, List.getElem?_toArray, List.getElem?_cons_succ, List.getElem?_cons_zero, Option.getD_some])))) | (refine gSeq_pure rfl (by rfl) ?_ ?_ ?_; (rotate_left; (intro w'; (skip); go_simp; (first | done | with_reducible rfl)); (try simp only [Act.put, Act.eval, List.setIfInBounds_toArray, List.set_cons_zero, List.set_cons_succ, Array.getD_eq_getD_getElem?, List.getElem?_toArray, List.getElem?_cons_succ, List.getElem?_cons_zero, Option.getD_some]))) | (refine gSeq_still rfl (by rfl) ?_ ?_ ?_; (rotate_left; (intro w' hG; (skip); go_simp; (first | done | with_reducible rfl)); (try simp only [Act.put, Act.eval, List.setIfInBounds_toArray, List.set_cons_zero, List.set_cons_succ, Array.getD_eq_getD_getElem?, List.getElem?_toArray, List.getElem?_cons_succ, List.getElem?_cons_zero, Option.getD_some])))))
                        (refine gSeq_do rfl (by rfl) (fun K hK => ?_)); go_simp
                        refine (rplus_any (digB 256 17 v) C _ (length_digB _ _ _) (ok_digB (by decide) _ _) HCL.out HCO.out).mono ?_
                        rintro e w11 ⟨rfl, hg11⟩
                        rw [num17 v HV.out.1 (by have := HV.out.2.1; have : (0 : Int) < P2 := (by decide); omega)]
                        refine hK _ _ hg11 ?_; clear hK K; (try simp only [Act.put, Act.eval, List.setIfInBounds_toArray, List.set_cons_zero, List.set_cons_succ, Array.getD_eq_getD_getElem?, List.getElem?_toArray, List.getElem?_cons_succ, List.getElem?_cons_zero, Option.getD_some])
                        have hu := fold_two (v := v + numB 256 C) (by have := HV.out.1; have := HCR.out.1; omega) (Int.lt_trans (show v + numB 256 C < P2 + 680564733841876926926749214863536422912 by have := HV.out.2.1; have := HCR.out.2; omega) (by decide))
                        obtain ⟨u, huu⟩ : ∃ u, u = foldN (v + numB 256 C) 2 := ⟨_, rfl⟩
                        rw [← huu] at hu ⊢
                        clear huu
                        (refine gSeq_do rfl (by rfl) (fun K hK => ?_)); go_simp
                        refine (rprod_any (digB 256 17 u) (clampR key ++ [0]) _ (length_digB _ _ _) (ok_digB (by decide) _ _) HRL.out (clampR_ok HK.out HKO.out)).mono ?_
                        rintro e w12 ⟨v', rfl, hv0, hv1, hv2, hg12⟩
                        rw [num17 u hu.1 (by have := hu.2.1; have : (0 : Int) < P2 := (by decide); omega), clampR_num0 HK.out HKO.out] at hv2
                        refine hK _ _ hg12 ?_; clear hK K; (try simp only [Act.put, Act.eval, List.setIfInBounds_toArray, List.set_cons_zero, List.set_cons_succ, Array.getD_eq_getD_getElem?, List.getElem?_toArray, List.getElem?_cons_succ, List.getElem?_cons_zero, Option.getD_some])
                        have HV' : Hid (0 ≤ v' ∧ v' < P2 ∧ v' % PP = polyV (keyR key) bs (k + 1)) := by
                          refine ⟨hv0, hv1, ?_⟩
                          rw [hv2, Int.mul_emod, hu.2.2, ← Int.mul_emod]
                          show _ = ((polyV (keyR key) bs k + numB 256 ((bs.drop (16 * k)).take 16 ++ [1])) * keyR key) % PP
                          rw [← HV.out.2.2, ← HCN.out, Int.mul_emod (v % PP + numB 256 C), Int.emod_add_emod, ← Int.mul_emod]
                        have g12 := grown_trans hg11 hg12
                        have R0' := Lib.hid (row_keep R0.out g12)
                        have R1' := Lib.hid (row_keep R1.out g12)
                        have RR' := Lib.hid (row_keep RR.out g12)
                        have RH' := Lib.hid (row_keep RH.out g12)
                        have HR12 := Lib.hid (HR9.out.kept g12)
                        have HG12 := Lib.hid (grown_trans HG9.out g12)
                        clear hu hv0 hv1 hv2 hg11 hg12 g12 R0 R1 RR RH HR9 HG9 RCx
                        (refine gSeq_store_range rfl (by rfl) _ _ _ rfl q 0 (encK .u32 (digB 256 17 v')) rfl rfl _ _ RH'.out (by rw [size_encK, size_encK, length_digB, length_digB]; decide) (by rw [size_encK, length_digB]; kernel_rfl) (one_encK _ _) ?_)
                        intro w13 r13 g13
                        rw [putAt_all _ _ (by rw [Array.length_toList, size_encK, size_encK, length_digB, length_digB])] at r13
                        have RH : Hid (w13.heap[q]? = some (.cells (encK .u32 (digB 256 17 v')) A17 (0, 0))) := r13
                        have R0 := Lib.hid ((g13.block _ (row_lt R0'.out) (by intro e; injection e with e; have := HPQ.out; omega)).trans R0'.out)
                        have R1 := Lib.hid ((g13.block _ (row_lt R1'.out) (by intro e; injection e with e; have := HPQ.out; omega)).trans R1'.out)
                        have RR := Lib.hid ((g13.block _ (row_lt RR'.out) (by intro e; injection e with e; have := HPQ.out; omega)).trans RR'.out)
                        have HR13 := Lib.hid (rd_below HR12.out (HAB.out hpos) (show p ≤ q by have := HPQ.out; omega) g13)
                        have HG13 := Lib.hid (grown_row HG12.out g13 (fun j hj => by injection hj with hj; have := HP.out; have := HPQ.out; omega))
                        clear r13 g13 R0' R1' RR' RH' HR12 HG12
                        (try simp only [Act.put, Act.eval, List.setIfInBounds_toArray, List.set_cons_zero, List.set_cons_succ, Array.getD_eq_getD_getElem?, List.getElem?_toArray, List.getElem?_cons_succ, List.getElem?_cons_zero, Option.getD_some])
                        refine gSeq_nil ?_
                        have hrd := rd_drop' (cap := cap') HR13.out (16) (by omega) hlc
                        rw [HDR.out] at hrd
                        have HRD := Lib.hid hrd
                        have hcap2 := HCM2.out
                        have hlen2 := HLEN.out
                        go_wp2_with fail
                        exact ⟨⟨k + 1, subAt ad' (16) cap', len' - 16, cap' - 16, v', rfl, by omega, by omega, by omega, by omega, HRD, (fun _ => subAt_lt (HAB.out hpos) _ _), HV', R0.out, R1.out, RR.out, RH.out, HG13.out⟩, by simp; omega⟩
                  · have h16' : (len' : Int) ≤ 16 := by omega
                    obtain ⟨s, hs⟩ : ∃ s, wr.heap.size = s := ⟨_, rfl⟩
                    have HS := Lib.hid hs
                    have HQS := Lib.hid (show q < s by rw [← hs]; exact row_lt RH.out)
                    clear hs
                    obtain ⟨xs, hxs⟩ : ∃ xs, xs = (bs.drop (16 * k)).take len' := ⟨_, rfl⟩
                    have hxl : xs.length = len' := by rw [hxs, List.length_take, HR.out.1]; omega
                    have hx16 : xs = (bs.drop (16 * k)).take 16 := by rw [hxs]; rw [List.take_of_length_le (by rw [HR.out.1]; omega), List.take_of_length_le (by rw [HR.out.1]; omega)]
                    have hxo : okB 256 xs := by rw [hxs]; exact fun x hx => HBO.out x (List.mem_of_mem_drop (List.mem_of_mem_take hx))
                    have hdrop : (bs.drop (16 * k)).drop len' = bs.drop (16 * (k + 1)) := by
                      rw [List.drop_of_length_le (by rw [HR.out.1]; omega), List.drop_of_length_le (by have := HLEN.out; omega)]
                    have hxk : ∀ j, j < len' → xs.getD j 0 = (bs.drop (16 * k)).getD j 0 := fun j hj => by
                      rw [hxs, List.getD_eq_getElem?_getD, List.getElem?_take, if_pos hj, ← List.getD_eq_getElem?_getD]
                    have HXL := Lib.hid hxl
                    have HX16 := Lib.hid hx16
                    have HXO := Lib.hid hxo
                    have HDR := Lib.hid hdrop
                    have HXK := Lib.hid hxk
                    clear hxs hxl hx16 hxo hdrop hxk
                    go_wp2_with fail
                    rw [HS.out]
                    go_loopw [12] (fun v_ wr' => ∃ j : Nat, j ≤ len' ∧ v_ = .int .i64 j ∧ wr'.heap[s]? = some (.cells (encK .u32 (xs.take j ++ zerP (17 - j))) A17 (0, 0)) ∧ Hid (Rd .u8 wr' ad' len' (bs.drop (16 * k))) ∧ wr'.heap[p]? = some (.cells (encK .u8 key) A32 (0, 0)) ∧ wr'.heap[p + 1]? = some (.cells (encK .u8 (List.replicate 16 0)) A16 (0, 0)) ∧
                      wr'.heap[p + 1 + 1]? = some (.cells (encK .u32 (clampR key ++ [0])) A17 (0, 0)) ∧ wr'.heap[q]? = some (.cells (encK .u32 (digB 256 17 v)) A17 (0, 0)) ∧ w.grownBy wr' none) (fun v _ => len' - (intOf v).toNat)
                    case atStart =>
                      exact ⟨0, by omega, rfl, alloc_at _ _ HS.out.symm, HR.out.kept (World.grownBy_alloc _ _ _), (alloc_up _ _ (row_lt R0.out)).trans R0.out, (alloc_up _ _ (row_lt R1.out)).trans R1.out, (alloc_up _ _ (row_lt RR.out)).trans RR.out, (alloc_up _ _ (row_lt RH.out)).trans RH.out, grown_alloc HG.out _⟩
                    case round =>
                      clear R0 R1 RR RH HG
                      obtain ⟨j, hj, rfl, r4, HR', r0, r1, r2, r3, hg⟩ := hrel
                      have RC := Lib.hid r4
                      have R0 := Lib.hid r0
                      have R1 := Lib.hid r1
                      have RR := Lib.hid r2
                      have RH := Lib.hid r3
                      have HG := Lib.hid hg
                      clear r0 r1 r2 r3 r4 hg
                      by_cases hlj : j < len'
                      · have hj0 : 0 ≤ (j : Int) := by omega
                        have hj17 : (j : Int) < 17 := by omega
                        have hjN : (j : Int) < (len' : Int) := by omega
                        have hjl : (j : Int) < (len' : Int) := by omega
                        obtain ⟨x, hx, hcell⟩ := HR'.out.2 j (by omega)
                        subst hx
                        rw [← HXK.out j hlj] at hcell
                        obtain ⟨y, hy⟩ : ∃ y, y = xs.getD j 0 := ⟨_, rfl⟩
                        have hy0 := ok_getD (B := 256) (by decide) HXO.out j
                        rw [← hy] at hcell hy0
                        have HST := Lib.hid (show (xs.take j ++ zerP (17 - j)).set j y = xs.take (j + 1) ++ zerP (17 - (j + 1)) by
                          rw [set_one' (xs.take j) j 17 _ (by rw [List.length_take, HXL.out]; omega) (by omega), take_next xs j (by rw [HXL.out]; exact hlj), hy])
                        clear hy
                        go_wp2_with (refine wpList_store_cell rfl _ (.tmp 61) (.tmp 60) rfl s j _ rfl rfl _ _ RC.out (by rw [size_encK, List.length_append, length_zerP, List.length_take, HXL.out]; omega) (by kernel_rfl) rfl rfl ?_)
                        intro w5 r5 g5
                        have r6 := rowK_set r5
                        rw [HST.out] at r6
                        have RC' := Lib.hid r6
                        have R0' := Lib.hid ((g5.block _ (row_lt R0.out) (by intro e; injection e with e; have := HQS.out; have := HPQ.out; omega)).trans R0.out)
                        have R1' := Lib.hid ((g5.block _ (row_lt R1.out) (by intro e; injection e with e; have := HQS.out; have := HPQ.out; omega)).trans R1.out)
                        have RR' := Lib.hid ((g5.block _ (row_lt RR.out) (by intro e; injection e with e; have := HQS.out; have := HPQ.out; omega)).trans RR.out)
                        have RH' := Lib.hid ((g5.block _ (row_lt RH.out) (by intro e; injection e with e; have := HQS.out; omega)).trans RH.out)
                        have HR5 := Lib.hid (rd_other HR.out HR'.out g5 HS.out)
                        have HG' := Lib.hid (grown_row HG.out g5 (fun j hj => by injection hj with hj; have := HP.out; have := HPQ.out; have := HQS.out; omega))
                        clear r5 r6 g5 RC R0 R1 RR RH HG hcell hy0 HR'
                        go_wp2_with fail
                        exact ⟨⟨j + 1, by omega, by go_num, RC'.out, HR5.out, R0'.out, R1'.out, RR'.out, RH'.out, HG'.out⟩, by simp [intOf]; omega⟩
                      · have hjj : j = len' := by omega
                        have rc := RC.out
                        rw [hjj, List.take_of_length_le (by rw [HXL.out]; omega)] at rc
                        have RC' := Lib.hid rc
                        clear rc RC
                        have hjI : (j : Int) = (len' : Int) := by omega
                        rw [hjI]
                        clear hjI hj hlj hjj
                        have HS1 := Lib.hid (set_one' xs (len') 17 1 HXL.out (by omega))
                        obtain ⟨C, hC⟩ : ∃ C, C = xs ++ [1] ++ zerP (17 - (len' + 1)) := ⟨_, rfl⟩
                        rw [← hC] at HS1
                        have HCL := Lib.hid (show C.length = 17 by rw [hC, List.length_append, List.length_append, HXL.out, length_zerP, List.length_singleton]; try omega)
                        have HCO := Lib.hid (show okB 256 C by rw [hC, zerP]; exact ok_block HXO.out _)
                        have HCN := Lib.hid (show numB 256 C = numB 256 ((bs.drop (16 * k)).take 16 ++ [1]) by rw [hC, zerP, num_zeros, HX16.out])
                        have HCR := Lib.hid (show 0 ≤ numB 256 C ∧ numB 256 C < 680564733841876926926749214863536422912 by rw [hC, zerP, num_zeros]; exact block_range HXO.out (by rw [HXL.out]; omega))
                        clear hC
                        have hnn0 : (0 : Int) ≤ ((len' : Nat) : Int) := by omega
                        have hnn17 : ((len' : Nat) : Int) < 17 := by omega
                        have hnnl : ((len' : Nat) : Int) ≤ (len' : Int) := by omega
                        go_wp2_with (first | (refine wpList_store_cell rfl _ (.tmp 63) (.const (.int .u32 1)) rfl s (len') _ rfl rfl _ _ RC'.out (by rw [size_encK, List.length_append, HXL.out, length_zerP]; omega) (by kernel_rfl) rfl rfl ?_))
                        intro w8 r8 g8
                        have r8' := rowK_set r8
                        rw [HS1.out] at r8'
                        have RC := Lib.hid r8'
                        have R0' := Lib.hid ((g8.block _ (row_lt R0.out) (by intro e; injection e with e; have := HQS.out; have := HPQ.out; omega)).trans R0.out)
                        have R1' := Lib.hid ((g8.block _ (row_lt R1.out) (by intro e; injection e with e; have := HQS.out; have := HPQ.out; omega)).trans R1.out)
                        have RR' := Lib.hid ((g8.block _ (row_lt RR.out) (by intro e; injection e with e; have := HQS.out; have := HPQ.out; omega)).trans RR.out)
                        have RH' := Lib.hid ((g8.block _ (row_lt RH.out) (by intro e; injection e with e; have := HQS.out; omega)).trans RH.out)
                        have HR8 := Lib.hid (rd_other HR.out HR'.out g8 HS.out)
                        have HG8 := Lib.hid (grown_row HG.out g8 (fun j hj => by injection hj with hj; have := HP.out; have := HPQ.out; have := HQS.out; omega))
                        clear r8 r8' g8 RC' R0 R1 RR RH HG HR'
                        go_wp2_with (refine wpList_slice rfl _ _ _ _ rfl _ rfl _ _ rfl rfl _ (run_sub_l Try.underlying24 rfl (len' : Int) (len') (by first | rfl | decide) (by omega)) ?_)
                        refine wp_region_grow [(1, 0), (1, 1), (1, 3), (0, 2), (0, 4), (3, 5)] (by kernel_rfl) (by kernel_rfl) (fun _ _ _ _ _ h => h) (fun _ _ _ _ _ h => h) ?_
                        refine gSeq_name fun w9 hw9 => ?_
                        have g9 : w8.grownBy w9 none := by rw [hw9]; exact grown_drew _ _
                        have RCx := Lib.hid (row_keep RC.out g9)
                        have R0 := Lib.hid (row_keep R0'.out g9)
                        have R1 := Lib.hid (row_keep R1'.out g9)
                        have RR := Lib.hid (row_keep RR'.out g9)
                        have RH := Lib.hid (row_keep RH'.out g9)
                        have HR9 := Lib.hid (HR8.out.kept g9)
                        have HG9 := Lib.hid (grown_trans HG8.out g9)
                        clear hw9 g9 RC R0' R1' RR' RH' HG8 HR8
                        have HRL := Lib.hid (show (clampR key ++ [0]).length = 17 by rw [List.length_append, clampR_len HK.out]; rfl)
                        (repeat (first | (refine gSeq_skip rfl (by rfl) ?_; (try simp only [Act.put, Act.eval, List.setIfInBounds_toArray, List.set_cons_zero, List.set_cons_succ, Array.getD_eq_getD_getElem?, List.getElem?_toArray, List.getElem?_cons_succ, List.getElem?_cons_zero, Option.getD_some])) | (refine gSeq_move _ rfl rfl (by rfl) ?_; (try simp only [Act.put, Act.eval, List.setIfInBounds_toArray, List.set_cons_zero, List.set_cons_succ, Array.getD_eq_getD_getElem?, List.getElem?_toArray, List.getElem?_cons_succ, List.getElem?_cons_zero, Option.getD_some])) | (refine gSeq_assign _ rfl rfl (by rfl) ?_; (try simp only [Act.put, Act.eval, List.setIfInBounds_toArray, List.set_cons_zero, List.set_cons_succ, Array.getD_eq_getD_getElem?, List.getElem?_toArray, List.getElem?_cons_succ, List.getElem?_cons_zero, Option.getD_some])) | ((first | (refine gSeq_row rfl (by rfl) 68 _ rfl _ rfl _ _ _ _ RH.out Try.underlying68 rfl (by rw [size_encK, length_digB]; kernel_rfl) ?_; (try simp only [Act.put, Act.eval, List.setIfInBounds_toArray, List.set_cons_zero, List.set_cons_succ, Array.getD_eq_getD_getElem?, List.getElem?_toArray, List.getElem?_cons_succ, List.getElem?_cons_zero, Option.getD_some])) | (refine gSeq_row rfl (by rfl) 68 _ rfl _ rfl _ _ _ _ RCx.out Try.underlying68 rfl (by rw [size_encK, HCL.out]; kernel_rfl) ?_; (try simp only [Act.put, Act.eval, List.setIfInBounds_toArray, List.set_cons_zero, List.set_cons_succ, Array.getD_eq_getD_getElem?, List.getElem?_toArray, List.getElem?_cons_succ, List.getElem?_cons_zero, Option.getD_some])) | (refine gSeq_row rfl (by rfl) 68 _ rfl _ rfl _ _ _ _ RR.out Try.underlying68 rfl (by rw [size_encK, HRL.out]; kernel_rfl) ?_; (try simp only [Act.put, Act.eval, List.setIfInBounds_toArray, List.set_cons_zero, List.set_cons_succ, Array.getD_eq_getD_getElem?, List.getElem?_toArray, List.getElem?_cons_succ, List.getElem?_cons_zero, Option.getD_some])))) | (refine gSeq_pure rfl (by rfl) ?_ ?_ ?_; (rotate_left; (intro w'; (skip); go_simp; (first | done | with_reducible rfl)); (try simp only [Act.put, Act.eval, List.setIfInBounds_toArray, List.set_cons_zero, List.set_cons_succ, Array.getD_eq_getD_getElem?, List.getElem?_toArray, List.getElem?_cons_succ, List.getElem?_cons_zero, Option.getD_some]))) | (refine gSeq_still rfl (by rfl) ?_ ?_ ?_; (rotate_left; (intro w' hG; (skip); go_simp; (first | done | with_reducible rfl)); (try simp only [Act.put, Act.eval, List.setIfInBounds_toArray, List.set_cons_zero, List.set_cons_succ, Array.getD_eq_getD_getElem?, List.getElem?_toArray, List.getElem?_cons_succ, List.getElem?_cons_zero, Option.getD_some])))))
                        (refine gSeq_do rfl (by rfl) (fun K hK => ?_)); go_simp
                        refine (rplus_any (digB 256 17 v) C _ (length_digB _ _ _) (ok_digB (by decide) _ _) HCL.out HCO.out).mono ?_
                        rintro e w11 ⟨rfl, hg11⟩
                        rw [num17 v HV.out.1 (by have := HV.out.2.1; have : (0 : Int) < P2 := (by decide); omega)]
                        refine hK _ _ hg11 ?_; clear hK K; (try simp only [Act.put, Act.eval, List.setIfInBounds_toArray, List.set_cons_zero, List.set_cons_succ, Array.getD_eq_getD_getElem?, List.getElem?_toArray, List.getElem?_cons_succ, List.getElem?_cons_zero, Option.getD_some])
                        have hu := fold_two (v := v + numB 256 C) (by have := HV.out.1; have := HCR.out.1; omega) (Int.lt_trans (show v + numB 256 C < P2 + 680564733841876926926749214863536422912 by have := HV.out.2.1; have := HCR.out.2; omega) (by decide))
                        obtain ⟨u, huu⟩ : ∃ u, u = foldN (v + numB 256 C) 2 := ⟨_, rfl⟩
                        rw [← huu] at hu ⊢
                        clear huu
                        (refine gSeq_do rfl (by rfl) (fun K hK => ?_)); go_simp
                        refine (rprod_any (digB 256 17 u) (clampR key ++ [0]) _ (length_digB _ _ _) (ok_digB (by decide) _ _) HRL.out (clampR_ok HK.out HKO.out)).mono ?_
                        rintro e w12 ⟨v', rfl, hv0, hv1, hv2, hg12⟩
                        rw [num17 u hu.1 (by have := hu.2.1; have : (0 : Int) < P2 := (by decide); omega), clampR_num0 HK.out HKO.out] at hv2
                        refine hK _ _ hg12 ?_; clear hK K; (try simp only [Act.put, Act.eval, List.setIfInBounds_toArray, List.set_cons_zero, List.set_cons_succ, Array.getD_eq_getD_getElem?, List.getElem?_toArray, List.getElem?_cons_succ, List.getElem?_cons_zero, Option.getD_some])
                        have HV' : Hid (0 ≤ v' ∧ v' < P2 ∧ v' % PP = polyV (keyR key) bs (k + 1)) := by
                          refine ⟨hv0, hv1, ?_⟩
                          rw [hv2, Int.mul_emod, hu.2.2, ← Int.mul_emod]
                          show _ = ((polyV (keyR key) bs k + numB 256 ((bs.drop (16 * k)).take 16 ++ [1])) * keyR key) % PP
                          rw [← HV.out.2.2, ← HCN.out, Int.mul_emod (v % PP + numB 256 C), Int.emod_add_emod, ← Int.mul_emod]
                        have g12 := grown_trans hg11 hg12
                        have R0' := Lib.hid (row_keep R0.out g12)
                        have R1' := Lib.hid (row_keep R1.out g12)
                        have RR' := Lib.hid (row_keep RR.out g12)
                        have RH' := Lib.hid (row_keep RH.out g12)
                        have HR12 := Lib.hid (HR9.out.kept g12)
                        have HG12 := Lib.hid (grown_trans HG9.out g12)
                        clear hu hv0 hv1 hv2 hg11 hg12 g12 R0 R1 RR RH HR9 HG9 RCx
                        (refine gSeq_store_range rfl (by rfl) _ _ _ rfl q 0 (encK .u32 (digB 256 17 v')) rfl rfl _ _ RH'.out (by rw [size_encK, size_encK, length_digB, length_digB]; decide) (by rw [size_encK, length_digB]; kernel_rfl) (one_encK _ _) ?_)
                        intro w13 r13 g13
                        rw [putAt_all _ _ (by rw [Array.length_toList, size_encK, size_encK, length_digB, length_digB])] at r13
                        have RH : Hid (w13.heap[q]? = some (.cells (encK .u32 (digB 256 17 v')) A17 (0, 0))) := r13
                        have R0 := Lib.hid ((g13.block _ (row_lt R0'.out) (by intro e; injection e with e; have := HPQ.out; omega)).trans R0'.out)
                        have R1 := Lib.hid ((g13.block _ (row_lt R1'.out) (by intro e; injection e with e; have := HPQ.out; omega)).trans R1'.out)
                        have RR := Lib.hid ((g13.block _ (row_lt RR'.out) (by intro e; injection e with e; have := HPQ.out; omega)).trans RR'.out)
                        have HR13 := Lib.hid (rd_below HR12.out (HAB.out hpos) (show p ≤ q by have := HPQ.out; omega) g13)
                        have HG13 := Lib.hid (grown_row HG12.out g13 (fun j hj => by injection hj with hj; have := HP.out; have := HPQ.out; omega))
                        clear r13 g13 R0' R1' RR' RH' HR12 HG12
                        (try simp only [Act.put, Act.eval, List.setIfInBounds_toArray, List.set_cons_zero, List.set_cons_succ, Array.getD_eq_getD_getElem?, List.getElem?_toArray, List.getElem?_cons_succ, List.getElem?_cons_zero, Option.getD_some])
                        refine gSeq_nil ?_
                        have hrd := rd_drop' (cap := cap') HR13.out (len') (by omega) hlc
                        rw [HDR.out] at hrd
                        rw [Nat.sub_self] at hrd
                        have HRD := Lib.hid hrd
                        have hcap2 := HCM2.out
                        have hlen2 := HLEN.out
                        go_wp2_with fail
                        exact ⟨⟨k + 1, subAt ad' (len') cap', 0, cap' - len', v', rfl, by omega, by omega, by omega, by omega, HRD, (fun _ => subAt_lt (HAB.out hpos) _ _), HV', R0.out, R1.out, RR.out, RH.out, HG13.out⟩, by simp; omega⟩
                have hzero : len' = 0 := by omega
                have hkk : k = (bs.length + 15) / 16 := by have := HLEN.out; omega
                have hlo : v < P2 := HV.out.2.1
                obtain ⟨V, hV⟩ : ∃ V, V = polyV (keyR key) bs k := ⟨_, rfl⟩
                have hVr : 0 ≤ V ∧ V < PP := by rw [hV]; exact polyV_range _ _ _
                have HFV := Lib.hid (show v % PP = V by rw [hV]; exact HV.out.2.2)
                have HT := Lib.hid (show V + numB 256 (key.drop 16) = tagV key bs by rw [tagV, ← hkk, ← hV])
                have HKL := Lib.hid (show (key.drop 16).length = 16 by rw [List.length_drop, HK.out])
                have HKO2 := Lib.hid (ok_drop HKO.out 16)
                have HVR := Lib.hid hVr
                clear hV hVr hkk hpos HLEN HCM2 HAB HR
                subst hzero
                go_wp2_with (refine wpList_load_row rfl A17 (.tmp 9) rfl q rfl _ _ _ _ RH.out Try.underlying68 rfl (by rw [size_encK, length_digB]; kernel_rfl) ?_)
                refine (rfinal_any v _ HV.out.1 HV.out.2.1).mono ?_
                rintro e w6 ⟨rfl, hg6⟩
                rw [HFV.out]
                have R0' := Lib.hid (row_keep R0.out hg6)
                have R1' := Lib.hid (row_keep R1.out hg6)
                have RH' := Lib.hid (row_keep RH.out hg6)
                have HG6 := Lib.hid (grown_trans HG.out hg6)
                clear hg6 R0 R1 RR RH HG
                go_wp2_with (refine wpList_store_range rfl A17 (.tmp 9) (.tmp 73) rfl q 0 (encK .u32 (digB 256 17 V)) rfl rfl _ _ RH'.out (by rw [size_encK, size_encK, length_digB, length_digB]; decide) (by rw [size_encK, length_digB]; kernel_rfl) (one_encK _ _) ?_)
                intro w7 r7 g7
                rw [putAt_all _ _ (by rw [Array.length_toList, size_encK, size_encK, length_digB, length_digB])] at r7
                have RH : Hid (w7.heap[q]? = some (.cells (encK .u32 (digB 256 17 V)) A17 (0, 0))) := r7
                have R0 := Lib.hid ((g7.block _ (row_lt R0'.out) (by intro e; injection e with e; have := HPQ.out; omega)).trans R0'.out)
                have R1 := Lib.hid ((g7.block _ (row_lt R1'.out) (by intro e; injection e with e; have := HPQ.out; omega)).trans R1'.out)
                have HG7 := Lib.hid (grown_row HG6.out g7 (fun j hj => by injection hj with hj; have := HP.out; have := HPQ.out; omega))
                clear r7 g7 R0' R1' RH' HG6
                obtain ⟨u, hu⟩ : ∃ u, w7.heap.size = u := ⟨_, rfl⟩
                have HUS := Lib.hid hu
                have HQU := Lib.hid (show q < u by rw [← hu]; exact row_lt RH.out)
                clear hu
                obtain ⟨A, hA⟩ : ∃ A, A = digB 256 16 V := ⟨_, rfl⟩
                have HAL := Lib.hid (show A.length = 16 by rw [hA, length_digB])
                have HAO := Lib.hid (show okB 256 A by rw [hA]; exact ok_digB (by decide) _ _)
                have HAN := Lib.hid (show digB 256 16 (numB 256 A + numB 256 (key.drop 16)) = digB 256 16 (tagV key bs) by
                  rw [hA, numB_digB (by decide), ← HT.out, ← digB_mod (by decide) 16 (V % _ + _), Int.emod_add_emod, digB_mod (by decide)])
                have HAG := Lib.hid (show ∀ i, i < 16 → (digB 256 17 V).getD i 0 = A.getD i 0 from fun i hi => by rw [hA, digB_at (by decide) 17 V i (by omega), digB_at (by decide) 16 V i hi])
                clear hA
                obtain ⟨B, hB⟩ : ∃ B, B = key.drop 16 := ⟨_, rfl⟩
                rw [← hB] at HKL HKO2 HAN
                have HBG := Lib.hid (show ∀ i, key.getD (16 + i) 0 = B.getD i 0 from fun i => by rw [hB, List.getD_eq_getElem?_getD, List.getD_eq_getElem?_getD, List.getElem?_drop])
                clear hB
                go_wp2_with fail
                rw [HUS.out]
                go_loopw [15, 13] (fun v_ c_ wr' => ∃ j : Nat, j ≤ 16 ∧ v_ = .int .i64 j ∧ c_ = .int .u32 (carry 256 A B j) ∧ wr'.heap[p]? = some (.cells (encK .u8 key) A32 (0, 0)) ∧ wr'.heap[p + 1]? = some (.cells (encK .u8 (List.replicate 16 0)) A16 (0, 0)) ∧ wr'.heap[q]? = some (.cells (encK .u32 (digB 256 17 V)) A17 (0, 0)) ∧
                  wr'.heap[u]? = some (.cells (encK .u8 (sums 256 A B j ++ zerP (16 - j))) A16 (0, 0)) ∧ w.grownBy wr' none) (fun v _ _ => 16 - (intOf v).toNat)
                case atStart =>
                  exact ⟨0, by omega, rfl, rfl, (alloc_up _ _ (row_lt R0.out)).trans R0.out, (alloc_up _ _ (row_lt R1.out)).trans R1.out, (alloc_up _ _ (row_lt RH.out)).trans RH.out, alloc_at _ _ HUS.out.symm, grown_alloc HG7.out _⟩
                case round =>
                  obtain ⟨j, hj, rfl, rfl, r0, r1, r2, r3, hg⟩ := hrel
                  clear R0 R1 RH HG7
                  have R0 := Lib.hid r0
                  have R1 := Lib.hid r1
                  have RH := Lib.hid r2
                  have RO := Lib.hid r3
                  have HG := Lib.hid hg
                  clear r0 r1 r2 r3 hg
                  by_cases hlj : j < 16
                  · have hj0 : 0 ≤ (j : Int) := by omega
                    have hj16 : (j : Int) < 16 := by omega
                    have hj17 : (j : Int) < 17 := by omega
                    have hj32 : 16 + (j : Int) < 32 := by omega
                    have hj32' : 0 ≤ 16 + (j : Int) := by omega
                    have htn : (16 + (j : Int)).toNat = 16 + j := by omega
                    have hwk : IntKind.i64.wrap (16 + (j : Int)) = 16 + (j : Int) := IntWalk.i64_in _ (by omega)
                    have e1 := rowK_at RH.out j (by rw [length_digB]; omega)
                    have e2 := rowK_at R0.out (16 + j) (by rw [HK.out]; omega)
                    rw [HAG.out j hlj] at e1
                    rw [HBG.out j] at e2
                    obtain ⟨x, hx⟩ : ∃ x, x = A.getD j 0 := ⟨_, rfl⟩
                    obtain ⟨y, hy⟩ : ∃ y, y = B.getD j 0 := ⟨_, rfl⟩
                    obtain ⟨c, hc⟩ : ∃ c, c = carry 256 A B j := ⟨_, rfl⟩
                    have hx0 := ok_getD (by decide) HAO.out j
                    have hy0 := ok_getD (by decide) HKO2.out j
                    have hc0 := carry_range (by decide) HAO.out HKO2.out j
                    rw [← hx] at e1 hx0
                    rw [← hy] at e2 hy0
                    rw [← hc] at hc0 ⊢
                    have HSU := Lib.hid (show sumAt 256 A B j = (x + y + c) % 256 by rw [hx, hy, hc]; rfl)
                    have HCA := Lib.hid (show carry 256 A B (j + 1) = (x + y + c) / 256 by rw [hx, hy, hc]; rfl)
                    clear hx hy hc
                    go_wp2_with fail
                    refine wp_region_grow [(2, 0), (2, 1), (2, 2), (1, 3), (2, 4), (2, 5), (2, 6), (1, 7), (2, 8), (2, 9), (2, 10), (2, 11)] (by kernel_rfl) (by kernel_rfl) (fun _ _ _ _ _ h => h) (fun _ _ _ _ _ h => h) ?_
                    refine gSeq_name fun w8 hw8 => ?_
                    have g8 : wr.grownBy w8 none := by rw [hw8]; exact grown_drew _ _
                    have E1 := Lib.hid (g8.cell e1 (by simp))
                    have E2 := Lib.hid (g8.cell e2 (by simp))
                    have R0' := Lib.hid (row_keep R0.out g8)
                    have R1' := Lib.hid (row_keep R1.out g8)
                    have RH' := Lib.hid (row_keep RH.out g8)
                    have RO' := Lib.hid (row_keep RO.out g8)
                    have HG' := Lib.hid (grown_trans HG.out g8)
                    clear g8 hw8 e1 e2 R0 R1 RH RO HG
                    have wy : IntKind.u32.wrap y = y := IntWalk.u32_in _ (by omega)
                    have wxy : IntKind.u32.wrap (x + y) = x + y := IntWalk.u32_in _ (by omega)
                    have wc : IntKind.u32.wrap (c + (x + y)) = c + (x + y) := IntWalk.u32_in _ (by omega)
                    (repeat (first | (refine gSeq_skip rfl (by rfl) ?_; (try simp only [Act.put, Act.eval, List.setIfInBounds_toArray, List.set_cons_zero, List.set_cons_succ, Array.getD_eq_getD_getElem?, List.getElem?_toArray, List.getElem?_cons_succ, List.getElem?_cons_zero, Option.getD_some])) | (refine gSeq_move _ rfl rfl (by rfl) ?_; (try simp only [Act.put, Act.eval, List.setIfInBounds_toArray, List.set_cons_zero, List.set_cons_succ, Array.getD_eq_getD_getElem?, List.getElem?_toArray, List.getElem?_cons_succ, List.getElem?_cons_zero, Option.getD_some])) | (refine gSeq_assign _ rfl rfl (by rfl) ?_; (try simp only [Act.put, Act.eval, List.setIfInBounds_toArray, List.set_cons_zero, List.set_cons_succ, Array.getD_eq_getD_getElem?, List.getElem?_toArray, List.getElem?_cons_succ, List.getElem?_cons_zero, Option.getD_some])) | (fail) | (refine gSeq_pure rfl (by rfl) ?_ ?_ ?_; (rotate_left; (intro w'; (try (have d1 := hG.cell E1.out (by simp); have d2 := hG.cell E2.out (by simp))); go_simp; (first | done | with_reducible rfl)); (try simp only [Act.put, Act.eval, List.setIfInBounds_toArray, List.set_cons_zero, List.set_cons_succ, Array.getD_eq_getD_getElem?, List.getElem?_toArray, List.getElem?_cons_succ, List.getElem?_cons_zero, Option.getD_some]))) | (refine gSeq_still rfl (by rfl) ?_ ?_ ?_; (rotate_left; (intro w' hG; (try (have d1 := hG.cell E1.out (by simp); have d2 := hG.cell E2.out (by simp))); go_simp; (first | done | with_reducible rfl)); (try simp only [Act.put, Act.eval, List.setIfInBounds_toArray, List.set_cons_zero, List.set_cons_succ, Array.getD_eq_getD_getElem?, List.getElem?_toArray, List.getElem?_cons_succ, List.getElem?_cons_zero, Option.getD_some])))))
                    refine gSeq_nil ?_
                    rw [show c + (x + y) = x + y + c by omega]
                    clear wy wxy wc hwk htn hj32 hj32'
                    obtain ⟨z, hz⟩ : ∃ z, z = x + y + c := ⟨_, rfl⟩
                    have hz0 : 0 ≤ z ∧ z < 512 := by omega
                    rw [← hz] at HSU HCA ⊢
                    clear hz hx0 hy0 hc0
                    go_wp2_with (refine wpList_store_cell rfl _ (.tmp 92) (.tmp 91) rfl u j _ rfl rfl _ _ RO'.out (by rw [size_encK, List.length_append, length_sums, length_zerP]; omega) (by kernel_rfl) rfl rfl ?_)
                    intro w9 r9 g9
                    have r10 := rowK_set r9
                    rw [← HSU.out, set_one' (sums 256 A B j) j 16 _ (length_sums _ _ _ _) hlj, ← sums_next] at r10
                    have RO := Lib.hid r10
                    have R0 := Lib.hid ((g9.block _ (row_lt R0'.out) (by intro e; injection e with e; have := HQU.out; have := HPQ.out; omega)).trans R0'.out)
                    have R1 := Lib.hid ((g9.block _ (row_lt R1'.out) (by intro e; injection e with e; have := HQU.out; have := HPQ.out; omega)).trans R1'.out)
                    have RH := Lib.hid ((g9.block _ (row_lt RH'.out) (by intro e; injection e with e; have := HQU.out; omega)).trans RH'.out)
                    have HG := Lib.hid (grown_row HG'.out g9 (fun j hj => by injection hj with hj; have := HP.out; have := HPQ.out; have := HQU.out; omega))
                    clear r9 r10 g9 R0' R1' RH' RO' HG'
                    go_wp2_with fail
                    exact ⟨⟨j + 1, by omega, by go_num, by rw [HCA.out], R0.out, R1.out, RH.out, RO.out, HG.out⟩, by simp [intOf]; omega⟩
                  · have : j = 16 := by omega
                    subst this
                    have ro := RO.out
                    rw [show zerP (16 - 16) = [] from rfl, List.append_nil, (sums_eq (B := 256) (by decide) HAL.out HKL.out).1, HAN.out] at ro
                    have RO' := Lib.hid ro
                    clear ro RO
                    go_wp2_with (first | (refine wpList_load_row rfl A16 (.tmp 14) rfl (u) rfl _ _ _ _ RO'.out Try.underlying40 rfl (by rw [size_encK, length_digB]; kernel_rfl) ?_) | (refine wpList_store_range rfl A16 (.tmp 4) (.tmp 95) rfl (p + 1) 0 (encK .u8 (digB 256 16 (tagV key bs))) rfl rfl _ _ R1.out (by rw [size_encK, size_encK, length_digB]; decide) (by rw [size_encK, length_digB]; kernel_rfl) (one_encK _ _) ?_))
                    intro w8 r8 g8
                    rw [putAt_all _ _ (by rw [Array.length_toList, size_encK, size_encK, length_digB]; rfl)] at r8
                    have R9 : Hid (w8.heap[p + 1]? = some (.cells (encK .u8 (digB 256 16 (tagV key bs))) A16 (0, 0))) := r8
                    have HG9 : Hid (w.grownBy w8 none) := grown_row HG.out g8 (fun k hk => by injection hk with hk; have := HP.out; omega)
                    clear r8 g8
                    go_wp2_with fail
                    exact bodyPost_ret (results_cell_row rfl _ _ (p + 1) _ _ _ _ rfl R9.out Try.underlying40 rfl (by rw [size_encK, length_digB]; kernel_rfl)) rfl ⟨rfl, HG9.out⟩
end Go.Proofs.Ythhijeokeljcjaa
