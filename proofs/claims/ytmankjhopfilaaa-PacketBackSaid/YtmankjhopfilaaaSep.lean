/- A region that draws its order, by what each operation takes and gives: what is owned is parted among the operations; any order comes to the same. One lemma for each operation, in the order of the text. -/
import Derived.Test.YtmankjhopfilaaaOwn
import Derived.Test.YtmankjhopfilaaaGrow
import Derived.Conc.EntryLaws
namespace Go.Proofs.YtmankjhopfilaaaL
set_option linter.unusedVariables false
set_option linter.unusedSimpArgs false
section
variable {P : Program} {ops : Array Oper} {Q : Exit → Act → World → Prop}

/-- An operation yields a value, and R holds of it. -/
def Runs (P : Program) (o : Oper) (ρ : Operand → Value) (w : World) (R : Value → World → Prop) : Prop :=
  match (execOp ρ o).run P w with
  | .ok (.value v) w' => R v w'
  | .ok .skip w' => R undef w'
  | .ok (.enter fn args) w' => Calls P fn args w' (fun e w'' => ∃ v, e = .returned v ∧ R v w'')
  | .ok (.row row args) w' => Rows P row args w' R
  | _ => False
theorem wp_of_runs {o : Oper} {a : Act} {ρ : Operand → Value} {w : World} {R : Value → World → Prop} (he : execOp a.eval o = execOp ρ o) (h : Runs P o ρ w R) : o.wp P a w (fun a' w' => ∃ v, a' = a.put o.dst v ∧ R v w') Q := by
  unfold Oper.wp
  rw [he]
  unfold Runs at h
  generalize (execOp ρ o).run P w = r at *
  cases r with
  | ok n w' =>
    cases n <;> simp only [Oper.upon] at h ⊢
    case value u => exact ⟨u, rfl, h⟩
    case skip => exact ⟨undef, rfl, h⟩
    case enter f args => exact Calls.mono h (fun e w'' ⟨v, he, hr⟩ => by subst he; exact ⟨v, rfl, hr⟩)
    case row row args => exact Rows.mono h fun u w'' hr => ⟨u, rfl, hr⟩
  | halt x w' => cases x <;> simp at h
theorem Runs.mono {o : Oper} {ρ : Operand → Value} {w : World} {R R' : Value → World → Prop} (h : Runs P o ρ w R) (hr : ∀ v w', R v w' → R' v w') : Runs P o ρ w R' := by
  unfold Runs at *
  generalize (execOp ρ o).run P w = r at *
  cases r with
  | ok n w' =>
    cases n <;> simp only at h ⊢
    case value u => exact hr _ _ h
    case skip => exact hr _ _ h
    case enter f args => exact Calls.mono h (fun e w'' ⟨v, he, hr'⟩ => ⟨v, he, hr _ _ hr'⟩)
    case row row args => exact Rows.mono h fun u w'' hr' => hr _ _ hr'
  | halt x w' => cases x <;> simp at h

/-! Which come before which: bit masks. -/
def onsOf (o : Oper) : List Nat := o.after.toList.filterMap fun e => if Region.binds .any e then some e.on else none
def maskOf (acc : List Nat) (l : List Nat) (s : Nat) : Nat := l.foldl (fun s j => s ||| (2 ^ j ||| acc.getD j 0)) s
def ancGo : List Oper → List Nat → List Nat
  | [], acc => acc
  | o :: r, acc => ancGo r (acc ++ [maskOf acc (onsOf o) 0])
def ancs (ops : Array Oper) : List Nat := ancGo ops.toList []
/-- Is j before i? -/
def anc (bs : List Nat) (i j : Nat) : Bool := (bs.getD i 0).testBit j
theorem maskOf_bit {acc : List Nat} {t : Nat} : ∀ {l : List Nat} {s : Nat}, (maskOf acc l s).testBit t = true → s.testBit t = true ∨ ∃ k ∈ l, t = k ∨ (acc.getD k 0).testBit t = true
  | [], s, h => .inl h
  | k :: l, s, h => by
    rcases maskOf_bit (l := l) (s := s ||| (2 ^ k ||| acc.getD k 0)) h with h | ⟨j, hj, h⟩
    · rw [Nat.testBit_or, Nat.testBit_or] at h
      simp only [Bool.or_eq_true] at h
      rcases h with h | h | h
      · exact .inl h
      · rw [Nat.testBit_two_pow] at h
        exact .inr ⟨k, by simp, .inl (of_decide_eq_true h).symm⟩
      · exact .inr ⟨k, by simp, .inr h⟩
    · exact .inr ⟨j, by simp [hj], h⟩

def dstOf (ops : Array Oper) (i : Nat) : Option Tmp := (ops[i]?).bind (·.dst)
def dstL (l : List Oper) (i : Nat) : Option Tmp := (nthO l i).bind (·.dst)
theorem dst_eq (i : Nat) : dstOf ops i = dstL ops.toList i := by
  unfold dstOf dstL
  rw [nthO_eq]
  simp
/-- reads, takes: the numbers of what an operation reads of what others gave, and of what it takes. From ops.size on: what is there at the start. -/
abbrev Rt := List (Nat × List Nat × List Nat)
def readsOf (rt : Rt) (i : Nat) : List Nat := match rt.find? (fun x => x.1 == i) with | some x => x.2.1 | none => []
def takesOf (rt : Rt) (i : Nat) : List Nat := match rt.find? (fun x => x.1 == i) with | some x => x.2.2 | none => []
def usesOf (rt : Rt) (i : Nat) : List Nat := readsOf rt i ++ takesOf rt i
def nodN : List Nat → Bool
  | [] => true
  | x :: l => !l.any (fun y => y == x) && nodN l
theorem nodN_spec : ∀ {l : List Nat}, nodN l = true → l.Nodup
  | [], _ => List.nodup_nil
  | x :: l, h => by
    simp only [nodN, Bool.and_eq_true, Bool.not_eq_true'] at h
    refine List.nodup_cons.2 ⟨fun hm => ?_, nodN_spec h.2⟩
    have : l.any (fun y => y == x) = true := List.any_eq_true.2 ⟨x, hm, by simp⟩
    rw [h.1] at this; cases this
/-- The check of one operation. -/
def chkOne (ops : Array Oper) (bs : List Nat) (ds : List (Option Tmp)) (rt : Rt) (n m : Nat) (i : Nat) (o : Oper) : Bool :=
  (onsOf o).all (fun k => Nat.blt k i) && bs.getD i 0 == maskOf bs (onsOf o) 0 &&
  (match o.op with | .select .. => false | _ => true) &&
  (o.looksAt ops).all (fun t => (List.range n).all fun j => j == i || (ds.getD j none != some t || (anc bs i j || anc bs j i))) &&
  (match o.dst with | none => true | some d => (List.range n).all fun j => j == i || ds.getD j none != some d) &&
  nodN (usesOf rt i) && (usesOf rt i).all (fun k => Nat.blt k (n + m) && (Nat.ble n k || anc bs i k)) &&
  rt.all (fun x => x.1 == i || (takesOf rt x.1).all fun k => !(usesOf rt i).any (fun y => y == k) || anc bs x.1 i)
def chkGo (ops : Array Oper) (bs : List Nat) (ds : List (Option Tmp)) (rt : Rt) (n m : Nat) : List Oper → Nat → Bool
  | [], _ => true
  | o :: r, i => chkOne ops bs ds rt n m i o && chkGo ops bs ds rt n m r (i + 1)
def sepChk (ops : Array Oper) (rt : Rt) (m : Nat) (hk : List Nat) : Bool :=
  let l := ops.toList
  let n := l.length
  chkGo ops (ancGo l []) (l.map (·.dst)) rt n m l 0 && (nodN hk && hk.all fun k => Nat.blt k (n + m) && rt.all fun x => !(takesOf rt x.1).any (fun y => y == k))
theorem chkGo_at {bs : List Nat} {ds : List (Option Tmp)} {rt : Rt} {n m : Nat} (l : List Oper) : ∀ (i0 : Nat), chkGo ops bs ds rt n m l i0 = true → ∀ (i : Nat) (o : Oper), l[i]? = some o → chkOne ops bs ds rt n m (i0 + i) o = true := by
  induction l with
  | nil => intro i0 h i o ho; simp at ho
  | cons o r ih =>
    intro i0 h i o' ho
    unfold chkGo at h
    obtain ⟨h1, h2⟩ := Bool.and_eq_true_iff.1 h
    cases i with
    | zero => simp at ho; subst ho; exact h1
    | succ i =>
      have := ih (i0 + 1) h2 i o' (by simpa using ho)
      rwa [show i0 + 1 + i = i0 + (i + 1) by omega] at this
/-- What the check says. -/
structure SepOk (ops : Array Oper) (bs : List Nat) (rt : Rt) (m : Nat) : Prop where
  ons : ∀ (i : Nat) (o : Oper), ops[i]? = some o → ∀ k ∈ onsOf o, k < i
  bits : ∀ (i : Nat) (o : Oper), ops[i]? = some o → ∀ t, anc bs i t = true → ∃ k ∈ onsOf o, t = k ∨ anc bs k t = true
  sel : ∀ (i : Nat) (o : Oper), ops[i]? = some o → ∀ cs b, o.op ≠ .select cs b
  looks : ∀ (i : Nat) (o : Oper), ops[i]? = some o → ∀ t ∈ o.looksAt ops, ∀ j, j ≠ i → dstOf ops j = some t → anc bs i j = true ∨ anc bs j i = true
  dsts : ∀ (i j : Nat) (d : Tmp), i ≠ j → dstOf ops i = some d → dstOf ops j ≠ some d
  nod : ∀ i, i < ops.size → (usesOf rt i).Nodup
  uses : ∀ i, i < ops.size → ∀ k ∈ usesOf rt i, k < ops.size + m ∧ (k < ops.size → anc bs i k = true)
  lin : ∀ i, i < ops.size → ∀ j, j ≠ i → ∀ k ∈ takesOf rt j, k ∈ usesOf rt i → anc bs j i = true
theorem takes_in {rt : Rt} {j k : Nat} (h : k ∈ takesOf rt j) : ∃ x ∈ rt, x.1 = j := by
  unfold takesOf at h
  split at h
  · rename_i x hx
    exact ⟨x, List.mem_of_find?_eq_some hx, by simpa using List.find?_some hx⟩
  · cases h
theorem sep_ok {rt : Rt} {m : Nat} {hk : List Nat} (h : sepChk ops rt m hk = true) : SepOk ops (ancs ops) rt m := by
  simp only [sepChk, Bool.and_eq_true] at h
  have hall : ∀ (i : Nat) (o : Oper), ops[i]? = some o → chkOne ops (ancs ops) (ops.toList.map (·.dst)) rt ops.size m i o = true := fun i o ho => by
    have := chkGo_at ops.toList 0 h.1 i o (by simpa using ho)
    rwa [Nat.zero_add, Array.length_toList] at this
  have hds : ∀ j, (ops.toList.map (·.dst)).getD j none = dstOf ops j := fun j => by
    unfold dstOf
    rw [List.getD_eq_getElem?_getD, List.getElem?_map, Array.getElem?_toList]
    cases ops[j]? <;> rfl
  have hlt : ∀ (i : Nat) (o : Oper), ops[i]? = some o → i < ops.size := fun i o ho => (Array.getElem?_eq_some_iff.1 ho).1
  have hdlt : ∀ j t, dstOf ops j = some t → j < ops.size := fun j t hj => by
    unfold dstOf at hj
    cases ho : ops[j]? with
    | none => rw [ho] at hj; cases hj
    | some o => exact hlt j o ho
  refine ⟨fun i o ho k hk => ?_, fun i o ho t ht => ?_, fun i o ho cs b e => ?_, fun i o ho t ht j hne hj => ?_, fun i j d hne hi hj => ?_, fun i hi => ?_, fun i hi k hk => ?_, fun i hi j hne k hk hu => ?_⟩
  · have := hall i o ho
    simp only [chkOne, Bool.and_eq_true] at this
    exact Nat.le_of_ble_eq_true (List.all_eq_true.1 this.1.1.1.1.1.1.1 k hk)
  · have := hall i o ho
    simp only [chkOne, Bool.and_eq_true] at this
    have h1 : (ancs ops).getD i 0 = maskOf (ancs ops) (onsOf o) 0 := by simpa using this.1.1.1.1.1.1.2
    unfold anc at ht ⊢
    rw [h1] at ht
    rcases maskOf_bit ht with h2 | h2
    · simp at h2
    · exact h2
  · have := hall i o ho
    simp only [chkOne, Bool.and_eq_true] at this
    have h1 := this.1.1.1.1.1.2
    rw [e] at h1; cases h1
  · have := hall i o ho
    simp only [chkOne, Bool.and_eq_true] at this
    have h1 := List.all_eq_true.1 (List.all_eq_true.1 this.1.1.1.1.2 t ht) j (List.mem_range.2 (hdlt j t hj))
    simp only [hds, hj, Bool.or_eq_true, beq_iff_eq, bne_self_eq_false, Bool.false_eq_true, false_or] at h1
    rcases h1 with h1 | h1
    · exact absurd h1 hne
    · exact h1
  · obtain ⟨o, ho, hd⟩ : ∃ o, ops[i]? = some o ∧ o.dst = some d := by
      unfold dstOf at hi
      cases ho : ops[i]? with
      | none => rw [ho] at hi; cases hi
      | some o => rw [ho] at hi; exact ⟨o, rfl, hi⟩
    have := hall i o ho
    simp only [chkOne, Bool.and_eq_true, hd] at this
    have h1 := List.all_eq_true.1 this.1.1.1.2 j (List.mem_range.2 (hdlt j d hj))
    simp only [hds, hj, Bool.or_eq_true, beq_iff_eq, bne_self_eq_false, Bool.false_eq_true, or_false] at h1
    exact hne h1.symm
  · have := hall i _ (Array.getElem?_eq_getElem hi)
    simp only [chkOne, Bool.and_eq_true] at this
    exact nodN_spec this.1.1.2
  · have := hall i _ (Array.getElem?_eq_getElem hi)
    simp only [chkOne, Bool.and_eq_true] at this
    have h1 := List.all_eq_true.1 this.1.2 k hk
    simp only [Bool.and_eq_true, Bool.or_eq_true] at h1
    refine ⟨Nat.le_of_ble_eq_true h1.1, fun hlt => ?_⟩
    rcases h1.2 with h2 | h2
    · have := Nat.le_of_ble_eq_true h2; omega
    · exact h2
  · have := hall i _ (Array.getElem?_eq_getElem hi)
    simp only [chkOne, Bool.and_eq_true] at this
    obtain ⟨x, hx, rfl⟩ := takes_in hk
    have h1 := List.all_eq_true.1 this.2 x hx
    simp only [Bool.or_eq_true, beq_iff_eq] at h1
    rcases h1 with h1 | h1
    · exact absurd h1 hne
    · have h2 := List.all_eq_true.1 h1 k hk
      simp only [Bool.or_eq_true, Bool.not_eq_true'] at h2
      rcases h2 with h2 | h2
      · have : (usesOf rt i).any (fun y => y == k) = true := List.any_eq_true.2 ⟨k, hu, by simp⟩
        rw [h2] at this; cases this
      · exact h2
theorem hk_ok {rt : Rt} {m : Nat} {hk : List Nat} (h : sepChk ops rt m hk = true) : hk.Nodup ∧ ∀ k ∈ hk, k < ops.size + m ∧ ∀ j, k ∉ takesOf rt j := by
  simp only [sepChk, Bool.and_eq_true] at h
  refine ⟨nodN_spec h.2.1, fun k hk' => ?_⟩
  have h1 := List.all_eq_true.1 h.2.2 k hk'
  simp only [Bool.and_eq_true] at h1
  refine ⟨by have := Nat.le_of_ble_eq_true h1.1; rw [Array.length_toList] at this; exact this, fun j hj => ?_⟩
  obtain ⟨x, hx, rfl⟩ := takes_in hj
  have h2 := List.all_eq_true.1 h1.2 x hx
  simp only [Bool.not_eq_true'] at h2
  have : (takesOf rt x.1).any (fun y => y == k) = true := List.any_eq_true.2 ⟨k, hj, by simp⟩
  rw [h2] at this; cases this

/-! What is known of an operation's value. -/
/-- fn: the value itself, of those before; res: a value and what comes with it. -/
inductive En where
  | fn (g : (Nat → Value) → Value)
  | res (ρ : (Nat → Value) → Value → List It → Prop)
def En.ok : En → (Nat → Value) → Value → List It → Prop
  | .fn g, f, v, l => v = g f ∧ l = []
  | .res ρ, f, v, l => ρ f v l
def En.get : En → (Nat → Value) → Nat → Value
  | .fn g, f, _ => g f
  | .res _, f, i => f i
/-- It looks at those before alone. -/
def En.cong (bs : List Nat) (i : Nat) : En → Prop
  | .fn g => ∀ f f', (∀ k, anc bs i k = true → f k = f' k) → g f = g f'
  | .res ρ => ∀ f f', (∀ k, anc bs i k = true → f k = f' k) → ρ f = ρ f'
def enAt (E : List En) (i : Nat) : En := E.getD i (.fn fun _ => undef)
theorem Own.perm {w0 w : World} {L L' : List It} (h : Own w0 w L) (hp : L.Perm L') : Own w0 w L' :=
  ⟨h.grown, fun x hx => h.has x (hp.mem_iff.2 hx), (hp.pairwise_iff (fun h p hp hq => h p hq hp)).1 h.apart⟩

def putI (ops : Array Oper) (g : Nat → Value) (a : Act) (is : List Nat) : Act := is.foldl (fun a i => a.put (dstOf ops i) (g i)) a
theorem putI_app (g : Nat → Value) (a : Act) (is : List Nat) (i : Nat) : putI ops g a (is ++ [i]) = (putI ops g a is).put (dstOf ops i) (g i) := by simp [putI]
theorem putI_congr {g g' : Nat → Value} : ∀ (is : List Nat) (a : Act), (∀ i ∈ is, g i = g' i) → putI ops g a is = putI ops g' a is
  | [], _, _ => rfl
  | i :: is, a, h => by
    show putI ops g (a.put _ (g i)) is = putI ops g' (a.put _ (g' i)) is
    rw [h i (by simp)]
    exact putI_congr is _ fun j hj => h j (by simp [hj])
theorem put_get_ne (a : Act) {d : Option Tmp} {t : Tmp} (v : Value) (h : d ≠ some t) : (a.put d v).tmps[t]? = a.tmps[t]? := by
  cases d with
  | none => rfl
  | some e =>
    have : e ≠ t := fun h' => h (by rw [h'])
    simp [Act.put, Array.getElem?_setIfInBounds_ne this]
theorem put_get_map (a : Act) {d : Option Tmp} {t : Tmp} (v u : Value) : ((a.put d v).tmps[t]?).map (fun _ => u) = (a.tmps[t]?).map (fun _ => u) := by
  cases d with
  | none => rfl
  | some e =>
    by_cases h : e = t
    · subst h
      by_cases hs : e < a.tmps.size
      · simp [Act.put, hs]
      · simp [Act.put, hs]
    · simp [Act.put, Array.getElem?_setIfInBounds_ne h]
theorem put_get_eq (a : Act) {t : Tmp} (v : Value) : (a.put (some t) v).tmps[t]? = (a.tmps[t]?).map (fun _ => v) := by
  by_cases hs : t < a.tmps.size
  · simp [Act.put, hs]
  · simp [Act.put, hs]
theorem putI_ne {g : Nat → Value} {t : Tmp} : ∀ (is : List Nat) (a : Act), (∀ i ∈ is, dstOf ops i ≠ some t) → (putI ops g a is).tmps[t]? = a.tmps[t]?
  | [], _, _ => rfl
  | i :: is, a, h => by
    show (putI ops g (a.put _ (g i)) is).tmps[t]? = _
    rw [putI_ne is _ fun j hj => h j (by simp [hj]), put_get_ne a _ (h i (by simp))]
theorem putI_at {g : Nat → Value} {t : Tmp} {j : Nat} (hj : dstOf ops j = some t) : ∀ (is : List Nat) (a : Act), j ∈ is → (∀ i ∈ is, dstOf ops i = some t → i = j) → (putI ops g a is).tmps[t]? = (a.tmps[t]?).map (fun _ => g j)
  | i :: is, a, hm, hu => by
    show (putI ops g (a.put _ (g i)) is).tmps[t]? = _
    by_cases hin : j ∈ is
    · rw [putI_at hj is _ hin fun k hk => hu k (by simp [hk]), put_get_map]
    · have hji : j = i := by
        rcases List.mem_cons.1 hm with h | h
        · exact h
        · exact absurd h hin
      subst hji
      rw [putI_ne is _ fun k hk e => hin (by rw [← hu k (by simp [hk]) e]; exact hk), hj, put_get_eq]
/-- Two ways of putting agree at a temporary. -/
theorem putI_agree {bs : List Nat} {rt : Rt} {m : Nat} (S : SepOk ops bs rt m) {g g' : Nat → Value} {a : Act} {is is' : List Nat} {t : Tmp} (h : ∀ j, dstOf ops j = some t → ((j ∈ is ↔ j ∈ is') ∧ (j ∈ is → g j = g' j))) :
    (putI ops g a is).tmps[t]? = (putI ops g' a is').tmps[t]? := by
  by_cases hj : ∃ j, dstOf ops j = some t
  · obtain ⟨j, hj⟩ := hj
    have hu : ∀ i, dstOf ops i = some t → i = j := fun i hi => by
      by_cases e : i = j
      · exact e
      · exact absurd hj (S.dsts i j t e hi)
    obtain ⟨h1, h2⟩ := h j hj
    by_cases hin : j ∈ is
    · rw [putI_at hj is a hin fun i _ => hu i, putI_at hj is' a (h1.1 hin) fun i _ => hu i, h2 hin]
    · rw [putI_ne is a fun i hi e => hin (by rw [← hu i e]; exact hi), putI_ne is' a fun i hi e => hin (h1.2 (by rw [← hu i e]; exact hi))]
  · rw [putI_ne is a fun i _ e => hj ⟨i, e⟩, putI_ne is' a fun i _ e => hj ⟨i, e⟩]
theorem putI_perm {bs : List Nat} {rt : Rt} {m : Nat} (S : SepOk ops bs rt m) {g : Nat → Value} {a : Act} {is is' : List Nat} (h : is.Perm is') : putI ops g a is = putI ops g a is' := by
  unfold putI
  refine h.foldl_eq' (fun i _ j _ z => ?_) a
  by_cases e : i = j
  · subst e; rfl
  · exact Act.put_comm z _ _ fun d hi hj => S.dsts i j d e hi hj

/-! The region's proof. -/
section
variable (P ops) (N : Nat) (w0 : World) (inits : List (List It)) (Lro : List It) (rt : Rt) (a0 : Act)
def itm (lof : Nat → List It) (k : Nat) : List It := if k < N then lof k else inits.getD (k - N) []
def itms (lof : Nat → List It) (ks : List Nat) : List It := ks.flatMap (itm N inits lof)
/-- The act before the operation i, in the text's order. -/
def actE (E : List En) (f : Nat → Value) (i : Nat) : Act := putI ops (fun j => (enAt E j).get f j) a0 (List.range i)
/-- What one operation is asked. -/
def spec (i : Nat) (o : Oper) (e : En) (E : List En) (A : (Nat → Value) → Act) : Prop :=
  ∀ f lof w1 Lf, (∀ k, anc (ancs ops) i k = true → (enAt E k).ok f (f k) (lof k)) → Own w0 w1 (itms N inits lof (usesOf rt i) ++ (Lro ++ Lf)) →
    if Region.wanted o (yielded ops (A f).tmps) = true then Runs P o (A f).eval w1 (fun v w' => ∃ l, e.ok f v l ∧ Own w0 w' (l ++ (itms N inits lof (readsOf rt i) ++ (Lro ++ Lf)))) else e.ok f undef []
/-- All of them, in the text's order; then what is behind. -/
def fs0 (Fin : List En → ((Nat → Value) → Act) → Prop) : Nat → Nat → List En → ((Nat → Value) → Act) → Prop
  | 0, _, E, A => Fin E A
  | n + 1, i, E, A => ∃ e : En, e.cong (ancs ops) i ∧ (∀ o, nthO ops.toList i = some o → spec P ops N w0 inits Lro rt i o e E A) ∧ fs0 Fin n (i + 1) (E ++ [e]) (fun f => (A f).put (dstL ops.toList i) (e.get f i))
end
variable {w0 : World} {inits : List (List It)} {Lro : List It} {rt : Rt} {a0 : Act}
/-- What the region's end may use. -/
def Fin (P : Program) (ops : Array Oper) (N : Nat) (Q : Exit → Act → World → Prop) (w0 : World) (inits : List (List It)) (Lro : List It) (hk : List Nat) (E : List En) (A : (Nat → Value) → Act) : Prop :=
  ∀ f lof w1, (∀ k, k < N → (enAt E k).ok f (f k) (lof k)) → Own w0 w1 (itms N inits lof hk ++ Lro) → Q .normal (A f) w1

theorem getD_app_lt {α : Type} {l r : List α} {k : Nat} (d : α) (h : k < l.length) : (l ++ r).getD k d = l.getD k d := by
  rw [List.getD_eq_getElem?_getD, List.getD_eq_getElem?_getD, List.getElem?_append_left h]
theorem ancGo_length : ∀ (l : List Oper) (acc : List Nat), (ancGo l acc).length = acc.length + l.length
  | [], acc => by simp [ancGo]
  | o :: r, acc => by rw [ancGo, ancGo_length r]; simp; omega
theorem anc_lt {rt : Rt} {m : Nat} (S : SepOk ops (ancs ops) rt m) : ∀ (i k : Nat), anc (ancs ops) i k = true → k < i := by
  intro i
  induction i using Nat.strongRecOn with
  | _ i ih =>
    intro k hk
    cases ho : ops[i]? with
    | none =>
      have h1 : (ancs ops).length ≤ i := by
        unfold ancs
        rw [ancGo_length]
        have : ops.size ≤ i := by simpa using ho
        simpa using this
      unfold anc at hk
      rw [List.getD_eq_getElem?_getD, List.getElem?_eq_none h1] at hk
      simp at hk
    | some o =>
      obtain ⟨j, hj, h⟩ := S.bits i o ho k hk
      have hji := S.ons i o ho j hj
      rcases h with rfl | h
      · exact hji
      · have := ih j hji k h; omega
/-- Those listed hold all that is before them. -/
theorem closed_anc {rt : Rt} {m : Nat} (S : SepOk ops (ancs ops) rt m) {D : List Nat} (hD : ∀ i ∈ D, ∃ o, ops[i]? = some o ∧ ∀ k ∈ onsOf o, k ∈ D) : ∀ (i : Nat), i ∈ D → ∀ k, anc (ancs ops) i k = true → k ∈ D := by
  intro i
  induction i using Nat.strongRecOn with
  | _ i ih =>
    intro hi k hk
    obtain ⟨o, ho, hc⟩ := hD i hi
    obtain ⟨j, hj, h⟩ := S.bits i o ho k hk
    rcases h with rfl | h
    · exact hc _ hj
    · exact ih j (S.ons i o ho j hj) (hc j hj) k h
/-- Laying out: there is a list of all of them. -/
theorem fs0_list {m : Nat} (S : SepOk ops (ancs ops) rt m) {F : List En → ((Nat → Value) → Act) → Prop} : ∀ (n i : Nat) (E : List En) (A : (Nat → Value) → Act), E.length = i → (∀ f, A f = actE ops a0 E f i) → fs0 P ops ops.size w0 inits Lro rt F n i E A →
    ∃ E' A', E'.length = i + n ∧ (∀ j, j < i → enAt E' j = enAt E j) ∧ (∀ f, A' f = actE ops a0 E' f (i + n)) ∧ F E' A' ∧
      ∀ j, i ≤ j → j < i + n → (enAt E' j).cong (ancs ops) j ∧ ∀ o, ops[j]? = some o → spec P ops ops.size w0 inits Lro rt j o (enAt E' j) E' (fun f => actE ops a0 E' f j)
  | 0, i, E, A, hE, hA, h => ⟨E, A, hE, fun _ _ => rfl, hA, h, fun j h1 h2 => by omega⟩
  | n + 1, i, E, A, hE, hA, h => by
    obtain ⟨e, hc, hs, hr⟩ := h
    have hact : ∀ (E1 E2 : List En) f k, (∀ j, j < k → enAt E1 j = enAt E2 j) → actE ops a0 E1 f k = actE ops a0 E2 f k := fun E1 E2 f k hh => by
      unfold actE
      exact putI_congr _ _ fun j hj => by rw [hh j (List.mem_range.1 hj)]
    have hold : ∀ j, j < i → enAt (E ++ [e]) j = enAt E j := fun j hj => getD_app_lt _ (by omega)
    have hnew : enAt (E ++ [e]) i = e := by
      unfold enAt
      rw [List.getD_eq_getElem?_getD, List.getElem?_append_right (by omega)]
      simp [hE]
    obtain ⟨E', A', h1, h2, h3, h4, h5⟩ := fs0_list S n (i + 1) (E ++ [e]) _ (by simp [hE]) (fun f => by
      show ((A f).put (dstL ops.toList i) (e.get f i)) = _
      unfold actE
      rw [List.range_succ, putI_app]
      have : putI ops (fun j => (enAt (E ++ [e]) j).get f j) a0 (List.range i) = A f := by
        rw [hA f]
        exact hact (E ++ [e]) E f i hold
      rw [this]
      show _ = (A f).put (dstOf ops i) ((enAt (E ++ [e]) i).get f i)
      rw [hnew, dst_eq]) hr
    refine ⟨E', A', by omega, fun j hj => (h2 j (by omega)).trans (hold j hj), fun f => by rw [show i + (n + 1) = i + 1 + n by omega]; exact h3 f, h4, fun j hj1 hj2 => ?_⟩
    by_cases hji : j = i
    · subst hji
      have he : enAt E' j = e := (h2 j (by omega)).trans hnew
      rw [he]
      refine ⟨hc, fun o ho => ?_⟩
      have hs' := hs o (by rw [nthO_eq]; simpa using ho)
      intro f lof w1 Lf hf hk
      have hact' : (fun f => actE ops a0 E' f j) f = A f := by
        show actE ops a0 E' f j = A f
        rw [hA f]
        exact hact E' E f j fun k hk => (h2 k (by omega)).trans (hold k hk)
      have := hs' f lof w1 Lf (fun k hk' => by
        have h := hf k hk'
        have hkj := anc_lt S j k hk'
        rwa [(h2 k (by omega)).trans (hold k hkj)] at h) hk
      rw [hact']
      exact this
    · exact h5 j (by omega) (by omega)

/-- The state between two operations: which were, in which order; what they gave; what is held. -/
structure Inv (ops : Array Oper) (w0 : World) (inits : List (List It)) (Lro : List It) (rt : Rt) (E : List En) (D : List Nat) (f : Nat → Value) (lof : Nat → List It) (H : List Nat) (w : World) : Prop where
  nod : D.Nodup
  cl : ∀ i ∈ D, ∃ o, ops[i]? = some o ∧ ∀ k ∈ onsOf o, k ∈ D
  ok : ∀ i ∈ D, (enAt E i).ok f (f i) (lof i)
  hnod : H.Nodup
  held : ∀ k, k ∈ H ↔ (((ops.size ≤ k ∧ k < ops.size + inits.length) ∨ k ∈ D) ∧ ∀ i ∈ D, k ∉ takesOf rt i)
  own : Own w0 w (itms ops.size inits lof H ++ Lro)
theorem listed_iff {D : List Nat} {n j : Nat} (hD : ∀ i ∈ D, i < n) : (setAll (Array.replicate n false) D).getD j true = false ↔ j < n ∧ j ∉ D := by
  constructor
  · intro h
    refine ⟨?_, fun hm => by rw [setAll_mem _ _ hm] at h; cases h⟩
    by_cases hj : j < n
    · exact hj
    · have hjD : j ∉ D := fun hm => hj (hD j hm)
      rw [setAll_getD j _ _ hjD] at h
      simp [hj] at h
  · rintro ⟨h1, h2⟩
    rw [setAll_getD j _ _ h2]
    simp [h1]
theorem listed_true {D : List Nat} {n j : Nat} (h : (setAll (Array.replicate n false) D).getD j false = true) : j ∈ D := by
  by_cases hm : j ∈ D
  · exact hm
  · rw [setAll_getD j _ _ hm] at h
    by_cases hj : j < n <;> simp [hj] at h
theorem itms_app (lof : Nat → List It) (a b : List Nat) : itms ops.size inits lof (a ++ b) = itms ops.size inits lof a ++ itms ops.size inits lof b := by simp [itms]
theorem itms_congr {lof lof' : Nat → List It} {l : List Nat} (h : ∀ k ∈ l, k < ops.size → lof k = lof' k) : itms ops.size inits lof l = itms ops.size inits lof' l := by
  induction l with
  | nil => rfl
  | cons x l ih =>
    have h1 : itm ops.size inits lof x = itm ops.size inits lof' x := by
      unfold itm
      split
      · rename_i hx; exact h x (by simp) hx
      · rfl
    show itm ops.size inits lof x ++ itms ops.size inits lof l = itm ops.size inits lof' x ++ itms ops.size inits lof' l
    rw [h1, ih fun k hk => h k (by simp [hk])]
theorem itms_perm {lof : Nat → List It} {a b : List Nat} (h : a.Perm b) : (itms ops.size inits lof a).Perm (itms ops.size inits lof b) := h.flatMap_right _

theorem wpAny_sep {E : List En} {hk : List Nat} (hc : sepChk ops rt inits.length hk = true) (hsp : ∀ j, j < ops.size → (enAt E j).cong (ancs ops) j ∧ ∀ o, ops[j]? = some o → spec P ops ops.size w0 inits Lro rt j o (enAt E j) E (fun f => actE ops a0 E f j))
    (hfin : ∀ f lof w1, (∀ k, k < ops.size → (enAt E k).ok f (f k) (lof k)) → Own w0 w1 (itms ops.size inits lof hk ++ Lro) → Q .normal (actE ops a0 E f ops.size) w1) :
    ∀ (n : Nat) (D : List Nat) (f : Nat → Value) (lof : Nat → List It) (H : List Nat) (w : World), n + D.length = ops.size → Inv ops w0 inits Lro rt E D f lof H w →
      wpAny P .any ops Q n (setAll (Array.replicate ops.size false) D) (putI ops f a0 D) w := by
  have S := sep_ok hc
  have hDlt : ∀ {D : List Nat}, (∀ i ∈ D, ∃ o, ops[i]? = some o ∧ ∀ k ∈ onsOf o, k ∈ D) → ∀ i ∈ D, i < ops.size := fun hD i hi => by
    obtain ⟨o, ho, -⟩ := hD i hi
    exact (Array.getElem?_eq_some_iff.1 ho).1
  intro n
  induction n with
  | zero =>
    intro D f lof H w hl I
    have hlt := hDlt I.cl
    have hall : ∀ j, j < ops.size → j ∈ D := fun j hj => by
      by_cases h : j ∈ D
      · exact h
      · exfalso
        have := len_le (j :: D) (List.range ops.size) (List.nodup_cons.2 ⟨h, I.nod⟩) fun x hx => by
          rcases List.mem_cons.1 hx with rfl | hx
          · exact List.mem_range.2 hj
          · exact List.mem_range.2 (hlt x hx)
        simp at this
        omega
    refine ⟨?_, ?_⟩
    · cases hr : Region.ready .any ops (setAll (Array.replicate ops.size false) D) with
      | nil => rfl
      | cons j r =>
        have hj : j ∈ Region.ready .any ops (setAll (Array.replicate ops.size false) D) := by rw [hr]; simp
        have h1 := (listed_iff hlt).1 (mem_ready.1 hj).1
        exact absurd (hall j h1.1) h1.2
    · have hp : D.Perm (List.range ops.size) := (List.perm_ext_iff_of_nodup I.nod List.nodup_range).2 fun j => ⟨fun h => List.mem_range.2 (hlt j h), fun h => hall j (List.mem_range.1 h)⟩
      have hok : ∀ k, k < ops.size → (enAt E k).ok f (f k) (lof k) := fun k hk => I.ok k (hall k hk)
      have hact : putI ops f a0 D = actE ops a0 E f ops.size := by
        rw [putI_perm S hp]
        unfold actE
        refine putI_congr _ _ fun j hj => ?_
        have h1 := hok j (List.mem_range.1 hj)
        cases he : enAt E j with
        | fn g => rw [he] at h1; exact h1.1
        | res ρ => rfl
      rw [hact]
      refine hfin f lof w hok ?_
      have hk' := hk_ok hc
      have hsub : ∀ k ∈ hk, k ∈ H := fun k hk1 => by
        obtain ⟨h1, h2⟩ := hk'.2 k hk1
        refine (I.held k).2 ⟨?_, fun i _ => h2 i⟩
        by_cases h : k < ops.size
        · exact .inr (hall k h)
        · exact .inl ⟨by omega, h1⟩
      have hp2 : H.Perm (hk ++ H.filter fun k => !hk.contains k) := by
        refine (List.perm_ext_iff_of_nodup I.hnod ?_).2 fun k => ?_
        · refine List.nodup_append.2 ⟨hk'.1, I.hnod.filter _, fun a ha b hb e => ?_⟩
          have := (List.mem_filter.1 hb).2
          subst e
          simp [ha] at this
        · simp only [List.mem_append, List.mem_filter, Bool.not_eq_true', List.contains_eq_mem, decide_eq_false_iff_not]
          constructor
          · intro h
            by_cases hh : k ∈ hk
            · exact .inl hh
            · exact .inr ⟨h, hh⟩
          · rintro (h | h)
            · exact hsub k h
            · exact h.1
      have hown := I.own.perm ((itms_perm (inits := inits) (lof := lof) hp2).append_right Lro)
      rw [itms_app, List.append_assoc] at hown
      exact hown.sub ((List.Sublist.refl _).append (List.sublist_append_right ..))
  | succ n ih =>
    intro D f lof H w hl I
    have hlt := hDlt I.cl
    refine ⟨fun h => ?_, fun i hi => ?_⟩
    · -- some operation is ready
      exfalso
      have hex : ∃ j, j < ops.size ∧ j ∉ D := by
        by_cases h : ∃ j, j < ops.size ∧ j ∉ D
        · exact h
        · exfalso
          have := len_le (List.range ops.size) D List.nodup_range fun x hx => by
            by_cases hx' : x ∈ D
            · exact hx'
            · exact absurd ⟨x, List.mem_range.1 hx, hx'⟩ h
          simp at this
          omega
      obtain ⟨j, hj1, hj2⟩ := hex
      have hmin : ∃ j, (j < ops.size ∧ j ∉ D) ∧ ∀ k, k < j → k ∈ D := by
        induction j using Nat.strongRecOn with
        | _ j ihj =>
          by_cases hh : ∃ k, k < j ∧ k ∉ D
          · obtain ⟨k, hk1, hk2⟩ := hh
            exact ihj k hk1 (by omega) hk2
          · refine ⟨j, ⟨hj1, hj2⟩, fun k hk => ?_⟩
            by_cases hkd : k ∈ D
            · exact hkd
            · exact absurd ⟨k, hk, hkd⟩ hh
      obtain ⟨j, ⟨hj1, hj2⟩, hj3⟩ := hmin
      have hjo : ops[j]? = some ops[j] := Array.getElem?_eq_getElem hj1
      have hrd : j ∈ Region.ready .any ops (setAll (Array.replicate ops.size false) D) := by
        refine mem_ready.2 ⟨(listed_iff hlt).2 ⟨hj1, hj2⟩, _, hjo, fun e he hb => ?_⟩
        have hon : e.on ∈ onsOf ops[j] := List.mem_filterMap.2 ⟨e, by simpa using he, by simp [hb]⟩
        have hlt2 := S.ons j _ hjo _ hon
        have hin := hj3 _ hlt2
        have h1 := setAll_mem D (Array.replicate ops.size false) hin
        have hsz : ∀ (ks : List Nat) (M : Array Bool), (setAll M ks).size = M.size := by
          intro ks
          induction ks with
          | nil => intro M; rfl
          | cons k ks ihk => intro M; show (setAll (M.setIfInBounds k true) ks).size = _; rw [ihk]; simp
        have hb2 : e.on < (setAll (Array.replicate ops.size false) D).size := by rw [hsz]; simp; omega
        rw [Array.getD_eq_getD_getElem?, Array.getElem?_eq_getElem hb2] at h1 ⊢
        exact h1
      rw [h] at hrd
      cases hrd
    · obtain ⟨hun, o, ho, hall⟩ := mem_ready.1 hi
      obtain ⟨hin, hiD⟩ := (listed_iff hlt).1 hun
      have hdir : ∀ k ∈ onsOf o, k ∈ D := fun k hk => by
        obtain ⟨e, he, h1⟩ := List.mem_filterMap.1 hk
        split at h1
        · rename_i hb
          injection h1 with h1
          have := hall e (by simpa using he) hb
          rw [h1] at this
          exact listed_true this
        · cases h1
      have hancD : ∀ k, anc (ancs ops) i k = true → k ∈ D := fun k hk => by
        obtain ⟨j, hj, h⟩ := S.bits i o ho k hk
        rcases h with rfl | h
        · exact hdir _ hj
        · exact closed_anc S I.cl j (hdir j hj) k h
      have hnot : ∀ j ∈ D, anc (ancs ops) j i = false := fun j hj => by
        cases h : anc (ancs ops) j i with
        | false => rfl
        | true => exact absurd (closed_anc S I.cl j hj i h) hiD
      have husH : ∀ k ∈ usesOf rt i, k ∈ H := fun k hk => by
        obtain ⟨h1, h2⟩ := S.uses i hin k hk
        refine (I.held k).2 ⟨?_, fun j hj hm => ?_⟩
        · by_cases h : k < ops.size
          · exact .inr (hancD k (h2 h))
          · exact .inl ⟨by omega, h1⟩
        · have hji : j ≠ i := fun e => hiD (by rw [← e]; exact hj)
          have := S.lin i hin j hji k hm hk
          rw [hnot j hj] at this; cases this
      -- the parts
      have hun' := S.nod i hin
      obtain ⟨Hr, hHr⟩ : ∃ Hr, Hr = H.filter fun k => !(usesOf rt i).contains k := ⟨_, rfl⟩
      have hp : H.Perm (usesOf rt i ++ Hr) := by
        rw [hHr]
        refine (List.perm_ext_iff_of_nodup I.hnod ?_).2 fun k => ?_
        · refine List.nodup_append.2 ⟨hun', I.hnod.filter _, fun a ha b hb e => ?_⟩
          have := (List.mem_filter.1 hb).2
          subst e
          simp [ha] at this
        · simp only [List.mem_append, List.mem_filter, Bool.not_eq_true', List.contains_eq_mem, decide_eq_false_iff_not]
          constructor
          · intro h
            by_cases hh : k ∈ usesOf rt i
            · exact .inl hh
            · exact .inr ⟨h, hh⟩
          · rintro (h | h)
            · exact husH k h
            · exact h.1
      have hown : Own w0 w (itms ops.size inits lof (usesOf rt i) ++ (Lro ++ itms ops.size inits lof Hr)) := by
        refine I.own.perm ?_
        refine ((itms_perm (inits := inits) (lof := lof) hp).append_right Lro).trans ?_
        rw [itms_app, List.append_assoc]
        exact List.Perm.append_left _ List.perm_append_comm
      obtain ⟨hcg, hs⟩ := hsp i hin
      have hs := hs o ho f lof w (itms ops.size inits lof Hr) (fun k hk => I.ok k (hancD k hk)) hown
      -- the acts agree
      have hgt : ∀ t ∈ o.looksAt ops, (putI ops f a0 D).tmps[t]? = (actE ops a0 E f i).tmps[t]? := fun t ht => by
        unfold actE
        refine putI_agree S fun j hj => ?_
        by_cases hji : j = i
        · subst hji
          exact ⟨⟨fun h => absurd h hiD, fun h => absurd (List.mem_range.1 h) (Nat.lt_irrefl _)⟩, fun h => absurd h hiD⟩
        · rcases S.looks i o ho t ht j hji hj with h | h
          · have h1 := hancD j h
            refine ⟨⟨fun _ => List.mem_range.2 (anc_lt S i j h), fun _ => h1⟩, fun _ => ?_⟩
            have h2 := I.ok j h1
            cases he : enAt E j with
            | fn g => rw [he] at h2; exact h2.1
            | res ρ => rfl
          · have h1 : j ∉ D := fun hm => by have := hnot j hm; rw [h] at this; cases this
            have h2 := anc_lt S j i h
            exact ⟨⟨fun hm => absurd hm h1, fun hm => by have := List.mem_range.1 hm; omega⟩, fun hm => absurd hm h1⟩
      have hexec : execOp (putI ops f a0 D).eval o = execOp (actE ops a0 E f i).eval o := by
        refine execOp_congr o (S.sel i o ho) fun x hx => ?_
        cases x with
        | tmp t =>
          have := hgt t (List.mem_append_left _ (List.mem_filterMap.2 ⟨.tmp t, by simpa using hx, rfl⟩))
          simp only [Act.eval, Array.getD_eq_getD_getElem?, this]
        | const v => rfl
        | global g => rfl
        | func g => rfl
      have hwant : Region.wanted o (yielded ops (putI ops f a0 D).tmps) = Region.wanted o (yielded ops (actE ops a0 E f i).tmps) := by
        unfold Region.wanted
        cases hg : o.guard with
        | none => rfl
        | some gw =>
          obtain ⟨g, want⟩ := gw
          have hy : yielded ops (putI ops f a0 D).tmps g = yielded ops (actE ops a0 E f i).tmps g := by
            unfold yielded
            cases ht : (ops[g]?).bind (·.dst) with
            | none => rfl
            | some t =>
              have := hgt t (by unfold Oper.looksAt; rw [hg]; simp [ht])
              simp only [Option.bind_some, this]
          simp only [hy]
      -- the next state
      have next : ∀ (v : Value) (l : List It) (w2 : World) (hown2 : Own w0 w2 (l ++ (itms ops.size inits lof (readsOf rt i) ++ (Lro ++ itms ops.size inits lof Hr)))), (enAt E i).ok f v l →
          wpAny P .any ops Q n ((setAll (Array.replicate ops.size false) D).setIfInBounds i true) ((putI ops f a0 D).put o.dst v) w2 := by
        intro v l w2 hown2 hok2
        have hfe : ∀ j, j ∈ D → (fun j => if j = i then v else f j) j = f j := fun j hj => by
          have : j ≠ i := fun e => hiD (by rw [← e]; exact hj)
          simp [this]
        have hle : ∀ j, j ∈ D → (fun j => if j = i then l else lof j) j = lof j := fun j hj => by
          have : j ≠ i := fun e => hiD (by rw [← e]; exact hj)
          simp [this]
        have hdst : dstOf ops i = o.dst := by unfold dstOf; rw [ho]; rfl
        have e1 : putI ops (fun j => if j = i then v else f j) a0 (D ++ [i]) = (putI ops f a0 D).put o.dst v := by
          rw [putI_app, putI_congr D a0 hfe, hdst]; simp
        have e2 : setAll (Array.replicate ops.size false) (D ++ [i]) = (setAll (Array.replicate ops.size false) D).setIfInBounds i true := by simp [setAll]
        rw [← e1, ← e2]
        have hcgE : ∀ j, j ∈ D → ∀ u l', (enAt E j).ok f u l' → (enAt E j).ok (fun j => if j = i then v else f j) u l' := fun j hj u l' h => by
          cases he : enAt E j with
          | res ρ =>
            rw [he] at h
            have hcj := (hsp j (hlt j hj)).1
            rw [he] at hcj
            have h3 : ρ f = ρ (fun j => if j = i then v else f j) := hcj _ _ fun k hk => (hfe k (closed_anc S I.cl j hj k hk)).symm
            show ρ (fun j => if j = i then v else f j) u l'
            rw [← h3]
            exact h
          | fn g =>
            rw [he] at h
            have hcj := (hsp j (hlt j hj)).1
            rw [he] at hcj
            refine ⟨h.1.trans (hcj _ _ fun k hk => ?_), h.2⟩
            have hkD := closed_anc S I.cl j hj k hk
            exact (hfe k hkD).symm
        refine ih (D ++ [i]) _ (fun j => if j = i then l else lof j) (i :: (readsOf rt i ++ Hr)) w2 (by simp; omega) ⟨?_, fun j hj => ?_, fun j hj => ?_, ?_, fun k => ?_, ?_⟩
        · exact List.nodup_append.2 ⟨I.nod, by simp, fun p hp q hq e => hiD (by rw [List.mem_singleton] at hq; rw [← hq, ← e]; exact hp)⟩
        · rcases List.mem_append.1 hj with hj | hj
          · obtain ⟨o', h1, h2⟩ := I.cl j hj
            exact ⟨o', h1, fun k hk => List.mem_append.2 (.inl (h2 k hk))⟩
          · rw [List.mem_singleton] at hj
            subst hj
            exact ⟨o, ho, fun k hk => List.mem_append.2 (.inl (hdir k hk))⟩
        · rcases List.mem_append.1 hj with hj | hj
          · have h1 := hcgE j hj _ _ (I.ok j hj)
            have h2 := hfe j hj
            have h3 := hle j hj
            simp only at h2 h3
            rw [h2, h3]
            exact h1
          · rw [List.mem_singleton] at hj
            subst hj
            simp only [if_true]
            cases he : enAt E j with
            | res ρ =>
              rw [he] at hok2 hcg
              have h3 : ρ f = ρ (fun k => if k = j then v else f k) := hcg _ _ fun k hk => (hfe k (hancD k hk)).symm
              show ρ (fun k => if k = j then v else f k) v l
              rw [← h3]
              exact hok2
            | fn g =>
              rw [he] at hok2 hcg
              refine ⟨hok2.1.trans (hcg _ _ fun k hk => ?_), hok2.2⟩
              exact (hfe k (hancD k hk)).symm
        · have hrs : (readsOf rt i ++ Hr).Nodup := by
            have h1 := hp.nodup_iff.1 I.hnod
            unfold usesOf at h1
            refine h1.sublist ?_
            exact (List.sublist_append_left _ _).append (List.Sublist.refl _)
          refine List.nodup_cons.2 ⟨fun hm => ?_, hrs⟩
          have hiH : i ∈ H := by
            rcases List.mem_append.1 hm with hm | hm
            · exact husH i (List.mem_append.2 (.inl hm))
            · rw [hHr] at hm; exact (List.mem_filter.1 hm).1
          rcases ((I.held i).1 hiH).1 with h | h
          · omega
          · exact hiD h
        · -- what is held
          have hkH : k ∈ H ↔ k ∈ usesOf rt i ∨ k ∈ Hr := by rw [hp.mem_iff, List.mem_append]
          have hdis : k ∈ usesOf rt i → k ∉ Hr := fun h1 h2 => by
            rw [hHr] at h2
            have := (List.mem_filter.1 h2).2
            simp [h1] at this
          have hrt : k ∈ readsOf rt i → k ∉ takesOf rt i := fun h1 h2 => by
            unfold usesOf at hun'
            exact (List.nodup_append.1 hun').2.2 k h1 k h2 rfl
          constructor
          · intro hm
            rcases List.mem_cons.1 hm with rfl | hm
            · refine ⟨.inr (by simp), fun j hj hm => ?_⟩
              rcases List.mem_append.1 hj with hj | hj
              · have h1 := (S.uses j (hlt j hj) k (List.mem_append.2 (.inr hm))).2 hin
                rw [hnot j hj] at h1; cases h1
              · rw [List.mem_singleton] at hj
                subst hj
                have h1 := anc_lt S _ _ ((S.uses j hin j (List.mem_append.2 (.inr hm))).2 hin)
                exact Nat.lt_irrefl _ h1
            · have hkH' : k ∈ H := by
                rcases List.mem_append.1 hm with hm | hm
                · exact hkH.2 (.inl (List.mem_append.2 (.inl hm)))
                · exact hkH.2 (.inr hm)
              obtain ⟨h1, h2⟩ := (I.held k).1 hkH'
              refine ⟨h1.imp id fun h => List.mem_append.2 (.inl h), fun j hj => ?_⟩
              rcases List.mem_append.1 hj with hj | hj
              · exact h2 j hj
              · rw [List.mem_singleton] at hj
                subst hj
                rcases List.mem_append.1 hm with hm | hm
                · exact hrt hm
                · exact fun h3 => hdis (List.mem_append.2 (.inr h3)) hm
          · rintro ⟨h1, h2⟩
            by_cases hki : k = i
            · subst hki; simp
            · have hkH' : k ∈ H := (I.held k).2 ⟨h1.imp id fun h => by
                rcases List.mem_append.1 h with h | h
                · exact h
                · exact absurd (by simpa using h) hki, fun j hj => h2 j (List.mem_append.2 (.inl hj))⟩
              refine List.mem_cons.2 (.inr (List.mem_append.2 ?_))
              rcases hkH.1 hkH' with h | h
              · rcases List.mem_append.1 h with h | h
                · exact .inl h
                · exact absurd h (h2 i (by simp))
              · exact .inr h
        · have h1 : itms ops.size inits (fun j => if j = i then l else lof j) (i :: (readsOf rt i ++ Hr)) = l ++ (itms ops.size inits lof (readsOf rt i) ++ itms ops.size inits lof Hr) := by
            show itm ops.size inits (fun j => if j = i then l else lof j) i ++ itms ops.size inits (fun j => if j = i then l else lof j) (readsOf rt i ++ Hr) = _
            have h2 : itm ops.size inits (fun j => if j = i then l else lof j) i = l := by unfold itm; simp [hin]
            have h3 : itms ops.size inits (fun j => if j = i then l else lof j) (readsOf rt i ++ Hr) = itms ops.size inits lof (readsOf rt i ++ Hr) := itms_congr fun k hk hks => by
              have hkH' : k ∈ H := by
                rcases List.mem_append.1 hk with hk | hk
                · exact husH k (List.mem_append.2 (.inl hk))
                · rw [hHr] at hk; exact (List.mem_filter.1 hk).1
              have : k ≠ i := fun e => by
                subst e
                rcases ((I.held k).1 hkH').1 with h | h
                · omega
                · exact hiD h
              simp [this]
            rw [h2, h3, itms_app]
          rw [h1, List.append_assoc, List.append_assoc]
          refine hown2.perm ?_
          refine List.Perm.append_left _ (List.Perm.append_left _ ?_)
          exact List.perm_append_comm
      unfold wpOp
      simp only [ho, hwant]
      split
      · rename_i hw
        simp only at hs
        rw [if_pos hw] at hs
        refine .inl (Oper.wp_mono ?_ (wp_of_runs hexec hs))
        rintro a' w' ⟨v, rfl, l, h1, h2⟩
        exact next v l w' h2 h1
      · rename_i hw
        simp only at hs
        rw [if_neg hw] at hs
        refine next undef [] w ?_ hs
        rw [List.nil_append]
        unfold usesOf at hown
        rw [itms_app, List.append_assoc] at hown
        exact hown.sub ((List.Sublist.refl _).append (List.sublist_append_right ..))

structure fs (P : Program) (ops : Array Oper) (N : Nat) (Q : Exit → Act → World → Prop) (w0 : World) (inits : List (List It)) (Lro : List It) (rt : Rt) (hk : List Nat) (n i : Nat) (E : List En) (A : (Nat → Value) → Act) : Prop where
  out : fs0 P ops N w0 inits Lro rt (Fin P ops N Q w0 inits Lro hk) n i E A
theorem wp_region_sep {id : Nat} {a : Act} {w : World} (inits : List (List It)) (Lro : List It) (rt : Rt) (hk : List Nat) (N : Nat) (hm : P.follows .mixedOrders = true) (hc0 : (Nat.beq ops.size N && sepChk ops rt inits.length hk) = true)
    (HK : Own w0 w (inits.flatten ++ Lro)) (h : fs P ops N Q w0 inits Lro rt hk N 0 [] (fun _ => a)) : (Code.region id ops true).wp P Q a w := by
  obtain ⟨hn0, hc⟩ := Bool.and_eq_true_iff.1 hc0
  have hn := Nat.eq_of_beq_eq_true hn0
  clear hc0 hn0
  subst hn
  have S := sep_ok hc
  obtain ⟨E', A', h1, h2, h3, h4, h5⟩ := fs0_list (a0 := a) (m := inits.length) S ops.size 0 [] _ rfl (fun f => rfl) h.out
  refine wp_region_any hm ?_
  have := wpAny_sep (P := P) (Q := Q) (w0 := w0) (Lro := Lro) (a0 := a) (E := E') hc (fun j hj => h5 j (by omega) (by omega)) (fun f lof w1 hf hk => by
    have := h4 f lof w1 hf hk
    rw [h3 f, Nat.zero_add] at this
    exact this) ops.size [] (fun _ => undef) (fun _ => []) ((List.range inits.length).map (fun k => ops.size + k)) w.drew (by simp) ⟨List.nodup_nil, fun i hi => (by cases hi), fun i hi => (by cases hi), ?_, fun k => ?_, ?_⟩
  · exact this
  · exact List.pairwise_map.2 (List.nodup_range.imp fun h => by omega)
  · simp only [List.mem_map, List.mem_range, List.not_mem_nil, or_false, false_implies, implies_true, and_true]
    constructor
    · rintro ⟨j, hj, rfl⟩; omega
    · rintro ⟨h1, h2⟩; exact ⟨k - ops.size, by omega, by omega⟩
  · have : itms ops.size inits (fun _ => []) ((List.range inits.length).map (fun k => ops.size + k)) = inits.flatten := by
      unfold itms
      rw [List.flatMap_map]
      have h6 : ∀ k, itm ops.size inits (fun _ => []) (ops.size + k) = inits.getD k [] := fun k => by
        unfold itm
        rw [if_neg (by omega), Nat.add_sub_cancel_left]
      simp only [h6]
      rw [List.flatMap_def]
      congr 1
      refine List.ext_getElem (by simp) fun k hk1 hk2 => ?_
      simp at hk1
      simp [hk1]
    rw [this]
    exact HK.grow (grown_drew w none)

/-! One operation after another. -/
variable {N : Nat} {hk : List Nat} {n i : Nat} {E : List En} {A : (Nat → Value) → Act} {o : Oper}
theorem fs_end (h : ∀ f lof w1, (∀ k, k < N → (enAt E k).ok f (f k) (lof k)) → Own w0 w1 (itms N inits lof hk ++ Lro) → Q .normal (A f) w1) : fs P ops N Q w0 inits Lro rt hk 0 i E A := ⟨h⟩
theorem fs_step (ho : nthO ops.toList i = some o) (e : En) (hs : spec P ops N w0 inits Lro rt i o e E A) (hc : e.cong (ancs ops) i) (h : fs P ops N Q w0 inits Lro rt hk n (i + 1) (E ++ [e]) (fun f => (A f).put o.dst (e.get f i))) : fs P ops N Q w0 inits Lro rt hk (n + 1) i E A :=
  ⟨e, hc, fun o' ho' => by rw [ho] at ho'; injection ho' with ho'; subst ho'; exact hs, by
    have : dstL ops.toList i = o.dst := by unfold dstL; rw [ho]; rfl
    rw [this]; exact h.out⟩
theorem fs_skip (ho : nthO ops.toList i = some o) (hw : ∀ f, Region.wanted o (yielded ops (A f).tmps) = false) (h : fs P ops N Q w0 inits Lro rt hk n (i + 1) (E ++ [.fn fun _ => undef]) (fun f => (A f).put o.dst undef)) : fs P ops N Q w0 inits Lro rt hk (n + 1) i E A :=
  fs_step ho (.fn fun _ => undef) (fun f lof w1 Lf _ _ => by rw [if_neg (by rw [hw]; decide)]; exact ⟨rfl, rfl⟩) (fun _ _ _ => rfl) h
theorem fs_do (ho : nthO ops.toList i = some o) (hw : ∀ f, Region.wanted o (yielded ops (A f).tmps) = true) (e : En)
    (hs : ∀ f lof w1 Lf, (∀ k, anc (ancs ops) i k = true → (enAt E k).ok f (f k) (lof k)) → Own w0 w1 (itms N inits lof (usesOf rt i) ++ (Lro ++ Lf)) → Runs P o (A f).eval w1 (fun v w' => ∃ l, e.ok f v l ∧ Own w0 w' (l ++ (itms N inits lof (readsOf rt i) ++ (Lro ++ Lf)))))
    (hc : e.cong (ancs ops) i) (h : fs P ops N Q w0 inits Lro rt hk n (i + 1) (E ++ [e]) (fun f => (A f).put o.dst (e.get f i))) : fs P ops N Q w0 inits Lro rt hk (n + 1) i E A :=
  fs_step ho e (fun f lof w1 Lf hf hk => by rw [if_pos (hw f)]; exact hs f lof w1 Lf hf hk) hc h
/-- It only reads. -/
theorem fs_read (ho : nthO ops.toList i = some o) (hw : ∀ f, Region.wanted o (yielded ops (A f).tmps) = true) (ht : takesOf rt i = []) (g : (Nat → Value) → Value)
    (hv : ∀ f lof w1 Lf, (∀ k, anc (ancs ops) i k = true → (enAt E k).ok f (f k) (lof k)) → Own w0 w1 (itms N inits lof (readsOf rt i) ++ (Lro ++ Lf)) → (execOp (A f).eval o).run P w1 = .ok (.value (g f)) w1)
    (hc : (En.fn g).cong (ancs ops) i) (h : fs P ops N Q w0 inits Lro rt hk n (i + 1) (E ++ [.fn g]) (fun f => (A f).put o.dst (g f))) : fs P ops N Q w0 inits Lro rt hk (n + 1) i E A :=
  fs_do ho hw (.fn g) (fun f lof w1 Lf hf hk => by
    unfold usesOf at hk
    rw [ht, List.append_nil] at hk
    unfold Runs
    rw [hv f lof w1 Lf hf hk]
    exact ⟨[], ⟨rfl, rfl⟩, hk⟩) hc h
theorem fs_pure (ho : nthO ops.toList i = some o) (hw : ∀ f, Region.wanted o (yielded ops (A f).tmps) = true) (ht : takesOf rt i = []) (g : (Nat → Value) → Value)
    (hv : ∀ f w1, (execOp (A f).eval o).run P w1 = .ok (.value (g f)) w1)
    (hc : (En.fn g).cong (ancs ops) i) (h : fs P ops N Q w0 inits Lro rt hk n (i + 1) (E ++ [.fn g]) (fun f => (A f).put o.dst (g f))) : fs P ops N Q w0 inits Lro rt hk (n + 1) i E A :=
  fs_read ho hw ht g (fun f lof w1 Lf _ _ => hv f w1) hc h
theorem fs_move (x : Operand) (ho : nthO ops.toList i = some o) (hx : o.op = .move x) (hw : ∀ f, Region.wanted o (yielded ops (A f).tmps) = true) (ht : takesOf rt i = [])
    (hc : (En.fn fun f => (A f).eval x).cong (ancs ops) i) (h : fs P ops N Q w0 inits Lro rt hk n (i + 1) (E ++ [.fn fun f => (A f).eval x]) (fun f => (A f).put o.dst ((A f).eval x))) : fs P ops N Q w0 inits Lro rt hk (n + 1) i E A :=
  fs_pure ho hw ht _ (fun f w1 => BigFrame.run_move x hx _) hc h
theorem fs_assign (x : Operand) (ho : nthO ops.toList i = some o) (hx : o.op = .assign x) (hw : ∀ f, Region.wanted o (yielded ops (A f).tmps) = true) (ht : takesOf rt i = [])
    (hc : (En.fn fun f => (A f).eval x).cong (ancs ops) i) (h : fs P ops N Q w0 inits Lro rt hk n (i + 1) (E ++ [.fn fun f => (A f).eval x]) (fun f => (A f).put o.dst ((A f).eval x))) : fs P ops N Q w0 inits Lro rt hk (n + 1) i E A :=
  fs_pure ho hw ht _ (fun f w1 => BigFrame.run_assign x hx _) hc h
/-- A function's call. -/
theorem fs_call (ho : nthO ops.toList i = some o) (hw : ∀ f, Region.wanted o (yielded ops (A f).tmps) = true) (fn : FuncId) (args : Array Operand) (ats : Array TypeId) (hop : o.op = .call { callee := .value (.func fn), args := args, argTypes := ats })
    (hrun : ∀ args w, (callFunc fn args).run P w = .ok (.enter fn args) w) (e : En)
    (hs : ∀ f lof w1 Lf, (∀ k, anc (ancs ops) i k = true → (enAt E k).ok f (f k) (lof k)) → Own w0 w1 (itms N inits lof (usesOf rt i) ++ (Lro ++ Lf)) →
      Calls P fn (args.map (A f).eval) w1 (fun en w' => ∃ v l, en = .returned v ∧ e.ok f v l ∧ Own w0 w' (l ++ (itms N inits lof (readsOf rt i) ++ (Lro ++ Lf)))))
    (hc : e.cong (ancs ops) i) (h : fs P ops N Q w0 inits Lro rt hk n (i + 1) (E ++ [e]) (fun f => (A f).put o.dst (e.get f i))) : fs P ops N Q w0 inits Lro rt hk (n + 1) i E A :=
  fs_do ho hw e (fun f lof w1 Lf hf hk => by
    unfold Runs
    rw [Go.Conc.execOp_call_func hop, hrun]
    refine Calls.mono (hs f lof w1 Lf hf hk) ?_
    rintro en w' ⟨v, l, h1, h2, h3⟩
    exact ⟨v, h1, l, h2, h3⟩) hc h
/-- A call that yields a known value, and makes memory at most. -/
theorem fs_callv (ho : nthO ops.toList i = some o) (hw : ∀ f, Region.wanted o (yielded ops (A f).tmps) = true) (ht : takesOf rt i = []) (fn : FuncId) (args : Array Operand) (ats : Array TypeId) (hop : o.op = .call { callee := .value (.func fn), args := args, argTypes := ats })
    (hrun : ∀ args w, (callFunc fn args).run P w = .ok (.enter fn args) w) (g : (Nat → Value) → Value)
    (hs : ∀ f lof w1 Lf, (∀ k, anc (ancs ops) i k = true → (enAt E k).ok f (f k) (lof k)) → Own w0 w1 (itms N inits lof (readsOf rt i) ++ (Lro ++ Lf)) →
      Calls P fn (args.map (A f).eval) w1 (fun en w' => en = .returned (g f) ∧ w1.grownBy w' none))
    (hc : (En.fn g).cong (ancs ops) i) (h : fs P ops N Q w0 inits Lro rt hk n (i + 1) (E ++ [.fn g]) (fun f => (A f).put o.dst (g f))) : fs P ops N Q w0 inits Lro rt hk (n + 1) i E A :=
  fs_call ho hw fn args ats hop hrun (.fn g) (fun f lof w1 Lf hf hk => by
    unfold usesOf at hk
    rw [ht, List.append_nil] at hk
    refine Calls.mono (hs f lof w1 Lf hf hk) ?_
    rintro en w' ⟨rfl, hg⟩
    exact ⟨_, [], rfl, ⟨rfl, rfl⟩, hk.grow hg⟩) hc h
/-- It only reads; what it yields is known in part. -/
theorem fs_resv (ho : nthO ops.toList i = some o) (hw : ∀ f, Region.wanted o (yielded ops (A f).tmps) = true) (ht : takesOf rt i = []) (ρ : (Nat → Value) → Value → Prop)
    (hv : ∀ f lof w1 Lf, (∀ k, anc (ancs ops) i k = true → (enAt E k).ok f (f k) (lof k)) → Own w0 w1 (itms N inits lof (readsOf rt i) ++ (Lro ++ Lf)) → ∃ v, (execOp (A f).eval o).run P w1 = .ok (.value v) w1 ∧ ρ f v)
    (hc : ∀ f f', (∀ k, anc (ancs ops) i k = true → f k = f' k) → ρ f = ρ f') (h : fs P ops N Q w0 inits Lro rt hk n (i + 1) (E ++ [.res fun f v l => ρ f v ∧ l = []]) (fun f => (A f).put o.dst (f i))) : fs P ops N Q w0 inits Lro rt hk (n + 1) i E A :=
  fs_do ho hw (.res fun f v l => ρ f v ∧ l = []) (fun f lof w1 Lf hf hk => by
    unfold usesOf at hk
    rw [ht, List.append_nil] at hk
    obtain ⟨v, h1, h2⟩ := hv f lof w1 Lf hf hk
    unfold Runs
    rw [h1]
    exact ⟨[], ⟨h2, rfl⟩, hk⟩) (fun f f' h => by show (fun v l => ρ f v ∧ l = []) = (fun v l => ρ f' v ∧ l = []); rw [hc f f' h]) h
/-- A block just made, and the value that points to it. -/
def rNew (mk : Nat → Value) (it : Nat → It) : Value → List It → Prop := fun v l => ∃ p, v = mk p ∧ l = [it p]
/-- '[]byte("..")': the row; it is marked. -/
theorem fs_lit (ho : nthO ops.toList i = some o) (hw : ∀ f, Region.wanted o (yielded ops (A f).tmps) = true) (hu : usesOf rt i = []) (k : Nat) (C : Array Value) (e : TypeId)
    (hr : ∀ f w1, (execOp (A f).eval o).run P w1 = .ok (.value (.slice (some ⟨w1.heap.size, 0, none⟩) k k)) (w1.alloc (.cells C e (0, 0))))
    (h : fs P ops N Q w0 inits Lro rt hk n (i + 1) (E ++ [.res (fun _ v l => ∃ p, v = .slice (some ⟨p, 0, none⟩) k k ∧ l = [.blk p (.cells C e (0, 0))])]) (fun f => (A f).put o.dst (f i))) : fs P ops N Q w0 inits Lro rt hk (n + 1) i E A :=
  fs_do ho hw (.res _) (fun f lof w1 Lf hf hk => by
    have hu2 : readsOf rt i = [] := by unfold usesOf at hu; exact (List.append_eq_nil_iff.1 hu).1
    rw [hu] at hk
    rw [hu2]
    unfold Runs
    rw [hr]
    exact ⟨_, ⟨w1.heap.size, rfl, rfl⟩, hk.blk _ rfl⟩) (fun _ _ _ => rfl) h
/-- A row made of values of those before. -/
theorem fs_build (ho : nthO ops.toList i = some o) (hw : ∀ f, Region.wanted o (yielded ops (A f).tmps) = true) (k : Nat) (T : TypeId) (e : En)
    (hs : ∀ f lof w1 Lf, (∀ k, anc (ancs ops) i k = true → (enAt E k).ok f (f k) (lof k)) → Own w0 w1 (itms N inits lof (usesOf rt i) ++ (Lro ++ Lf)) →
      ∃ C, (execOp (A f).eval o).run P w1 = .ok (.value (.slice (some ⟨w1.heap.size, 0, none⟩) k k)) (w1.alloc (.cells C T (0, 0))) ∧
        ∀ p w', Own w0 w' (.blk p (.cells C T (0, 0)) :: (itms N inits lof (usesOf rt i) ++ (Lro ++ Lf))) → ∃ l, e.ok f (.slice (some ⟨p, 0, none⟩) k k) l ∧ Own w0 w' (l ++ (itms N inits lof (readsOf rt i) ++ (Lro ++ Lf))))
    (hc : e.cong (ancs ops) i) (h : fs P ops N Q w0 inits Lro rt hk n (i + 1) (E ++ [e]) (fun f => (A f).put o.dst (e.get f i))) : fs P ops N Q w0 inits Lro rt hk (n + 1) i E A :=
  fs_do ho hw e (fun f lof w1 Lf hf hk => by
    obtain ⟨C, hr, hx⟩ := hs f lof w1 Lf hf hk
    unfold Runs
    rw [hr]
    exact hx _ _ (hk.blk _ rfl)) hc h
def rLit (k : Nat) (C : Array Value) (e : TypeId) : (Nat → Value) → Value → List It → Prop := fun _ v l => ∃ p fr, v = .slice (some ⟨p, 0, none⟩) k k ∧ l = [.blk p (.cells C e fr)]
theorem run_mark' {w : World} {t e : TypeId} {s : Nat} {C : Array Value} {fr : Nat × Nat} (n c : Nat) (ht : P.underlying t = some (.slice e)) (he : P.underlying e = some (.int .u8)) (h : w.heap[s]? = some (.cells C e fr)) :
    ∃ w' fr', (convert t t (.slice (some ⟨s, 0, none⟩) n c)).run P w = .ok (.slice (some ⟨s, 0, none⟩) n c) w' ∧ w.grownBy w' (some s) ∧ w'.heap[s]? = some (.cells C e fr') := by
  have hsh : w.shape? s = some (e, C.size) := by unfold World.shape?; rw [h]
  have hlt : s < w.heap.size := row_lt h
  refine ⟨w.freeze ⟨s, C.size, none⟩ 1, (if fr.1 == fr.2 then (C.size, C.size + 1) else (min fr.1 C.size, max fr.2 (C.size + 1))), ?_, ?_, ?_⟩
  · simp [convert, run_underlying ht, run_underlying he, markStringish, hsh]
  · unfold World.freeze
    rw [if_neg (by decide)]
    refine ⟨rfl, rfl, rfl, by simp, fun k hk hne => ?_⟩
    have : k ≠ s := fun e => hne (by rw [e])
    simp [Array.getElem?_modify, Ne.symm this]
  · unfold World.freeze
    rw [if_neg (by decide)]
    obtain ⟨lo, hi⟩ := fr
    simp [Array.getElem?_modify, h]
theorem fs_mark (ho : nthO ops.toList i = some o) (hw : ∀ f, Region.wanted o (yielded ops (A f).tmps) = true) (j : Nat) (hj : (readsOf rt i = [] ∧ takesOf rt i = [j])) (hjN : j < N) (ha : anc (ancs ops) i j = true) (k : Nat) (C : Array Value) (e : TypeId) (hE : enAt E j = .res (fun _ v l => ∃ p, v = .slice (some ⟨p, 0, none⟩) k k ∧ l = [.blk p (.cells C e (0, 0))]))
    (t : TypeId) (x : Operand) (hop : o.op = .convert t t x) (hx : ∀ f, (A f).eval x = f j) (ht : P.underlying t = some (.slice e)) (he : P.underlying e = some (.int .u8))
    (h : fs P ops N Q w0 inits Lro rt hk n (i + 1) (E ++ [.res (rLit k C e)]) (fun f => (A f).put o.dst (f i))) : fs P ops N Q w0 inits Lro rt hk (n + 1) i E A :=
  fs_do ho hw (.res (rLit k C e)) (fun f lof w1 Lf hf hk => by
    have h1 := hf j ha
    rw [hE] at h1
    obtain ⟨p, hv, hl⟩ := h1
    have h2 : usesOf rt i = [j] := by unfold usesOf; rw [hj.1, hj.2]; rfl
    rw [h2] at hk
    rw [hj.1]
    have h3 : itms N inits lof [j] = [.blk p (.cells C e (0, 0))] := by simp [itms, itm, hjN, hl]
    rw [h3] at hk
    obtain ⟨w2, fr', hr, hg2, h5⟩ := run_mark' (P := P) (w := w1) (t := t) k k ht he (hk.at (.here _))
    have hrun : (execOp (A f).eval o).run P w1 = .ok (.value (.slice (some ⟨p, 0, none⟩) k k)) w2 := by
      unfold execOp
      simp only [hop, Sem.run_bind, hx, hv, hr, Result.andThen_ok, Sem.run_pure]
    unfold Runs
    rw [hrun]
    refine ⟨_, ⟨p, fr', rfl, rfl⟩, ?_⟩
    exact hk.upd (.here _) hg2 ⟨(hk.get (.here _)).1, h5⟩ (.inl rfl)) (fun _ _ _ => rfl) h
/-- string(b) of bytes. -/
theorem run_str {w : World} {src dst e : TypeId} {ρ : Operand → Value} {x : Operand} (hop : o.op = .convert src dst x) (hs : P.underlying src = some (.slice e)) (he : P.underlying e = some (.int .u8)) (hd : P.underlying dst = some .string)
    {ad : Option Addr} {len cap : Nat} (hx : ρ x = .slice ad len cap) {xs : List Int} (hr : Rd .u8 w ad len xs) : (execOp ρ o).run P w = .ok (.value (.string (str8 xs))) w := by
  have hr' := run_string_src w src dst e hs he hd ad len cap xs hr.1 hr.2
  unfold execOp
  simp only [hop, hx, Sem.run_bind, Sem.run_pure, hr', Result.andThen_ok]
theorem run_rowl {w : World} {ty : TypeId} {ρ : Operand → Value} {x : Operand} (hop : o.op = .load ty x) {g : Nat} (hx : ρ x = .pointer (some ⟨g, 0, none⟩)) {t : TypeId} {cs : Array Value} {fr : Nat × Nat} {d : TypeDesc} (hg : w.heap[g]? = some (.cells cs t fr))
    (hu : P.underlying ty = some d) (hd : (match (generalizing := false) d with | .struct _ | .array _ _ => true | _ => false) = true) (hi : (P.info? ty).map (·.size) = some cs.size) : (execOp ρ o).run P w = .ok (.value (.agg cs)) w := by
  unfold execOp
  simp only [hop, hx, Instr.loadAt, Instr.sureAddr, Sem.run_bind, Sem.run_pure, Result.andThen_ok, run_loadVar_row w g t ty cs fr d hg hu (by cases d <;> first | rfl | exact hd) hi]
theorem run_eqa {w : World} {t t' : TypeId} {ρ : Operand → Value} {x y : Operand} (hop : o.op = .binOp .eql t x y t') {n : Nat} {e : TypeId} {k : IntKind} (hu : P.underlying t = some (.array n e)) (he : P.underlying e = some (.int k)) (hs : (P.info? e).map (·.size) = some 1) (hg : P.eqGuardType P.depth t = false)
    {xs ys : List Int} (hx : ρ x = .agg (encK k xs)) (hy : ρ y = .agg (encK k ys)) (hlx : xs.length = n) (hly : ys.length = n) {b : Bool} (hb : (xs == ys) = b) : (execOp ρ o).run P w = .ok (.value (.bool b)) w := by
  unfold execOp
  simp only [hop, hx, hy, Sem.run_bind, Sem.run_pure, run_eqGuard_agg w _ t x y _ _ hg, Result.andThen_ok, run_eql_ints hu he hs xs ys hlx hly, hb]
theorem run_nea {w : World} {t t' : TypeId} {ρ : Operand → Value} {x y : Operand} (hop : o.op = .binOp .neq t x y t') {n : Nat} {e : TypeId} {k : IntKind} (hu : P.underlying t = some (.array n e)) (he : P.underlying e = some (.int k)) (hs : (P.info? e).map (·.size) = some 1) (hg : P.eqGuardType P.depth t = false)
    {xs ys : List Int} (hx : ρ x = .agg (encK k xs)) (hy : ρ y = .agg (encK k ys)) (hlx : xs.length = n) (hly : ys.length = n) {b : Bool} (hb : (xs == ys) = !b) : (execOp ρ o).run P w = .ok (.value (.bool b)) w := by
  unfold execOp
  simp only [hop, hx, hy, Sem.run_bind, Sem.run_pure, run_eqGuard_agg w _ t x y _ _ hg, Result.andThen_ok, run_neq_ints hu he hs xs ys hlx hly, hb, Bool.not_not]
/-! An operation walked as a list of one: all laws on lists serve. -/
theorem put_inj {a : Act} {d : Tmp} {v u : Value} (h : d < a.tmps.size) (e : a.put (some d) v = a.put (some d) u) : v = u := by
  have h1 := congrArg (fun b : Act => b.tmps[d]?) e
  simp only [put_get_eq] at h1
  rw [Array.getElem?_eq_getElem h] at h1
  simpa using h1
theorem runs_of_wp {a : Act} {w : World} {R : Value → World → Prop} (hd : (∃ d, o.dst = some d ∧ d < a.tmps.size) ∨ ∀ u v w', R v w' → R u w') {Q' : Exit → Act → World → Prop} (hQ : ∀ ex a' w', ex ≠ .normal → ¬ Q' ex a' w')
    (h : o.wp P a w (fun a' w' => ∃ v, a' = a.put o.dst v ∧ R v w') Q') : Runs P o a.eval w R := by
  have key : ∀ u w', (∃ v, a.put o.dst u = a.put o.dst v ∧ R v w') → R u w' := fun u w' ⟨v, h1, h2⟩ => by
    rcases hd with ⟨d, hd, hs⟩ | hd
    · rw [hd] at h1; rw [put_inj hs h1]; exact h2
    · exact hd _ _ _ h2
  unfold Oper.wp at h
  unfold Runs
  generalize hr : (execOp a.eval o).run P w = r at *
  cases r with
  | ok n w' =>
    cases n <;> simp only [Oper.upon] at h ⊢
    case value u => exact key _ _ h
    case skip => exact key _ _ h
    case defer d =>
      obtain ⟨v, h1, -⟩ := h
      have h2 := congrArg (fun b : Act => b.defers.length) h1
      have h3 : ∀ (b : Act) (d : Option Tmp) (v : Value), (b.put d v).defers = b.defers := fun b d v => by cases d <;> rfl
      simp [h3] at h2
    case enter f args =>
      refine Calls.mono h fun e w'' he => ?_
      cases e with
      | returned v => exact ⟨v, rfl, key _ _ he⟩
      | panicked c => exact absurd he (hQ _ _ _ (fun h => by cases h))
      | outgrown => obtain ⟨a1, w1, h1⟩ := he; exact absurd h1 (hQ _ _ _ (fun h => by cases h))
    case row row args => exact Rows.mono h fun u w'' he => key _ _ he
  | halt x w' =>
    cases x <;> simp only [Oper.upon] at h
    case panic v => exact absurd h (hQ _ _ _ (fun h => by cases h))
def fsQ (R : Value → World → Prop) (a : Act) (d : Option Tmp) : Exit → Act → World → Prop := fun ex a' w' => ex = .normal ∧ ∃ v, a' = a.put d v ∧ R v w'
theorem fs_list (ho : nthO ops.toList i = some o) (hw : ∀ f, Region.wanted o (yielded ops (A f).tmps) = true) (e : En) (hd : ∀ f, ∃ d, o.dst = some d ∧ d < (A f).tmps.size)
    (hs : ∀ f lof w1 Lf, (∀ k, anc (ancs ops) i k = true → (enAt E k).ok f (f k) (lof k)) → Own w0 w1 (itms N inits lof (usesOf rt i) ++ (Lro ++ Lf)) →
      ∀ Q', (∀ v w', (∃ l, e.ok f v l ∧ Own w0 w' (l ++ (itms N inits lof (readsOf rt i) ++ (Lro ++ Lf)))) → Q' .normal ((A f).put o.dst v) w') → wpList P ops Q' [o] (A f) w1)
    (hc : e.cong (ancs ops) i) (h : fs P ops N Q w0 inits Lro rt hk n (i + 1) (E ++ [e]) (fun f => (A f).put o.dst (e.get f i))) : fs P ops N Q w0 inits Lro rt hk (n + 1) i E A :=
  fs_do ho hw e (fun f lof w1 Lf hf hk => by
    refine runs_of_wp (.inl (hd f)) (Q' := fsQ (fun v w' => ∃ l, e.ok f v l ∧ Own w0 w' (l ++ (itms N inits lof (readsOf rt i) ++ (Lro ++ Lf)))) (A f) o.dst) (fun ex a' w' h h' => h h'.1) ?_
    have h1 := hs f lof w1 Lf hf hk (fsQ (fun v w' => ∃ l, e.ok f v l ∧ Own w0 w' (l ++ (itms N inits lof (readsOf rt i) ++ (Lro ++ Lf)))) (A f) o.dst) (fun v w' h => ⟨rfl, v, rfl, h⟩)
    unfold wpList at h1
    rw [if_pos (hw f)] at h1
    rcases h1 with h1 | ⟨-, a1, w1, h1⟩
    · exact Oper.wp_mono (fun a' w' h => h.2) h1
    · cases h1.1) hc h
/-- The same, of what yields nothing (a store). -/
theorem fs_store (ho : nthO ops.toList i = some o) (hw : ∀ f, Region.wanted o (yielded ops (A f).tmps) = true) (ρ : (Nat → Value) → List It → Prop) (hd : o.dst = none)
    (hs : ∀ f lof w1 Lf, (∀ k, anc (ancs ops) i k = true → (enAt E k).ok f (f k) (lof k)) → Own w0 w1 (itms N inits lof (usesOf rt i) ++ (Lro ++ Lf)) →
      ∀ Q', (∀ w', (∃ l, ρ f l ∧ Own w0 w' (l ++ (itms N inits lof (readsOf rt i) ++ (Lro ++ Lf)))) → Q' .normal (A f) w') → wpList P ops Q' [o] (A f) w1)
    (hc : ∀ f f', (∀ k, anc (ancs ops) i k = true → f k = f' k) → ρ f = ρ f') (h : fs P ops N Q w0 inits Lro rt hk n (i + 1) (E ++ [.res fun f _ l => ρ f l]) A) : fs P ops N Q w0 inits Lro rt hk (n + 1) i E A :=
  fs_do ho hw (.res fun f _ l => ρ f l) (fun f lof w1 Lf hf hk => by
    refine runs_of_wp (.inr fun u v w' h => h) (Q' := fsQ (fun v w' => ∃ l, ρ f l ∧ Own w0 w' (l ++ (itms N inits lof (readsOf rt i) ++ (Lro ++ Lf)))) (A f) o.dst) (fun ex a' w' h h' => h h'.1) ?_
    have h1 := hs f lof w1 Lf hf hk (fsQ (fun v w' => ∃ l, ρ f l ∧ Own w0 w' (l ++ (itms N inits lof (readsOf rt i) ++ (Lro ++ Lf)))) (A f) o.dst) (fun w' h => ⟨rfl, undef, by rw [hd]; rfl, h⟩)
    unfold wpList at h1
    rw [if_pos (hw f)] at h1
    rcases h1 with h1 | ⟨-, a1, w1, h1⟩
    · exact Oper.wp_mono (fun a' w' h => h.2) h1
    · cases h1.1) (fun f f' h => by show (fun _ l => ρ f l) = (fun _ l => ρ f' l); rw [hc f f' h]) (by rw [hd]; exact h)
end
end Go.Proofs.YtmankjhopfilaaaL
