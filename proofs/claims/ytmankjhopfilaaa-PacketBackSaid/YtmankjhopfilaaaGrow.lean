/- A region that draws its order and whose calls only make memory (nothing that was there is written): ONE walk serves every order: all that only reads is taken as soon as it may come up, a call when nothing else may. (The library's law on regions with held conditions, turned to worlds that have grown.) -/
import Derived.OrdersHeld
import Derived.StillTail
import Derived.BigRegion
import Derived.WalkKit
import Derived.Test.YtmankjhopfilaaaArr
namespace Go.Proofs.YtmankjhopfilaaaL
set_option linter.unusedVariables false
set_option linter.unusedSimpArgs false
section
variable {P : Program} {ops : Array Oper} {Q : Exit → Act → World → Prop} {md : Region.Mode}

/-- Kinds: 0 may make memory; 1 only reads, alike in all worlds that have grown; 2 yields its value in every world; 3 may write. -/
def relG (W : Nat → Bool) (i : Nat) (w w' : World) : Prop := W i = true ∨ w.grownBy w' none
theorem relG_refl (W : Nat → Bool) (i : Nat) (w : World) : relG W i w w := .inr (grown_refl w none)

def wpAnyG (P : Program) (md : Region.Mode) (ops : Array Oper) (Q : Exit → Act → World → Prop) (W : Nat → Bool) : Nat → Array Bool → Act → World → Prop
  | 0, listed, a, w => Region.ready md ops listed = [] ∧ Q .normal a w
  | fuel + 1, listed, a, w =>
    (Region.ready md ops listed = [] → Q .normal a w) ∧
    ∀ i ∈ Region.ready md ops listed, wpOp P ops Q i (fun a' w' => relG W i w w' ∧ wpAnyG P md ops Q W fuel (listed.setIfInBounds i true) a' w') a w

variable {W : Nat → Bool}
theorem wpAny_of_grow : ∀ (fuel : Nat) (listed : Array Bool) (a : Act) (w : World), wpAnyG P md ops Q W fuel listed a w → wpAny P md ops Q fuel listed a w
  | 0, _, _, _, h => h
  | fuel + 1, _, _, _, h => ⟨h.1, fun i hi => wpOp_mono (fun a' w' h' => wpAny_of_grow fuel _ a' w' h'.2) (h.2 i hi)⟩

/-- The worlds in which an operation must yield alike: those that have grown, or all. -/
def sureIn (all : Bool) (w u : World) : Prop := all = true ∨ w.grownBy u none
theorem yieldsIf_grown {all : Bool} {o : Oper} {v : Value} {a : Act} {w w' : World} (h : YieldsIf P ops (sureIn all w) o v a) (g : all = true ∨ w.grownBy w' none) : YieldsIf P ops (sureIn all w') o v a := by
  rcases h with ⟨hw, h⟩ | h
  · refine .inl ⟨hw, fun u hu => h u ?_⟩
    rcases hu with hu | hu
    · exact .inl hu
    · exact g.imp id fun g => grown_trans g hu
  · exact .inr h

theorem wpAnyG_first {i : Nat} {oi : Oper} {v : Value} {all : Bool} (hi : ops[i]? = some oi) (hsel : ∀ (j : Nat) (o : Oper) cs b, ops[j]? = some o → o.op ≠ .select cs b)
    (hQ : ∀ c a w, Q (.panic c) (a.put oi.dst v) w → Q (.panic c) a w) (hW : all = true ∨ ∀ j, W j = true → Region.waitsFor md ops j i = true) :
    ∀ (fuel : Nat) (listed : Array Bool) (a : Act) (w : World),
      (∀ j oj, ops[j]? = some oj → j ≠ i → listed.getD j true = false → (∀ e ∈ oj.after, Region.binds md e = true → e.on ≠ i) → oi.apart ops oj = true) →
      i ∈ Region.ready md ops listed → YieldsIf P ops (sureIn all w) oi v a →
      wpAnyG P md ops Q W fuel (listed.setIfInBounds i true) (a.put oi.dst v) w → wpAnyG P md ops Q W (fuel + 1) listed a w := by
  intro fuel
  induction fuel with
  | zero =>
    intro listed a w _ hr hy H
    refine ⟨fun h => (by rw [h] at hr; cases hr), fun j hj => ?_⟩
    by_cases hji : j = i
    · subst hji; exact hy.wpOp hi (.inr (grown_refl w none)) ⟨relG_refl W _ w, H⟩
    · have := ready_mono hj hji
      rw [H.1] at this
      cases this
  | succ fuel ih =>
    intro listed a w hfree hr hy H
    refine ⟨fun h => (by rw [h] at hr; cases hr), fun j hj => ?_⟩
    by_cases hji : j = i
    · subst hji; exact hy.wpOp hi (.inr (grown_refl w none)) ⟨relG_refl W _ w, H⟩
    · have h1 := H.2 j (ready_mono hj hji)
      obtain ⟨hjun, oj, hoj, hall⟩ := mem_ready.1 hj
      have hnot : ∀ e ∈ oj.after, Region.binds md e = true → e.on ≠ i := fun e he hb heq => by
        have h1 := hall e he hb
        have h0 := (mem_ready.1 hr).1
        rw [heq] at h1
        rcases Nat.lt_or_ge i listed.size with h' | h'
        · simp [h'] at h0 h1; rw [h0] at h1; cases h1
        · simp [Array.getElem?_eq_none h'] at h1
      have hrel : ∀ w', relG W j w w' → all = true ∨ w.grownBy w' none := fun w' hr' => by
        rcases hW with hW | hW
        · exact .inl hW
        · rcases hr' with hr' | hr'
          · obtain ⟨oj', hoj', e, he, hb, hon⟩ := Region.waitsFor_spec (hW j hr')
            have : oj' = oj := Option.some.inj (hoj'.symm.trans hoj)
            subst this
            exact absurd hon (hnot e he hb)
          · exact .inr hr'
      have h2 := wpOp_putIf hoj (hfree j oj hoj hji hjun hnot) (fun cs b => hsel i oi cs b hi) (fun cs b => hsel j oj cs b hoj) hQ hy h1
      have hfree' : ∀ k ok, ops[k]? = some ok → k ≠ i → (listed.setIfInBounds j true).getD k true = false →
          (∀ e ∈ ok.after, Region.binds md e = true → e.on ≠ i) → oi.apart ops ok = true := fun k ok hk hki hun hno => by
        refine hfree k ok hk hki ?_ hno
        by_cases hjk : j = k
        · subst hjk; exact hjun
        · rw [getD_set_ne true hjk] at hun; exact hun
      refine wpOp_mono (fun a' w' h3 => ⟨h3.2.1, ih (listed.setIfInBounds j true) a' w' hfree' (ready_mono hr (Ne.symm hji)) (yieldsIf_grown h3.1 (hrel w' h3.2.1)) ?_⟩) h2
      rw [Array.setIfInBounds_comm _ _ hji]
      exact h3.2.2

/-- An operation that makes a block whose place among the calls is left open: number, temporary, what it lays. -/
abbrev Fl := Nat × Tmp × Obj
def ptrTo (b : Nat) : Value := .pointer (some ⟨b, 0, none⟩)
def lookF (fs : List Fl) (i : Nat) : Option (Tmp × Obj) := (fs.find? (fun x => x.1 == i)).map (fun x => x.2)
/-- What is asked of such an operation. -/
def floatOk (P : Program) (ops : Array Oper) (x : Fl) : Prop :=
  ∃ o, ops[x.1]? = some o ∧ o.dst = some x.2.1 ∧ o.guard = none ∧ ∀ ρ w, (execOp ρ o).run P w = .ok (.value (ptrTo w.heap.size)) (w.alloc x.2.2)
def pend (l : List (Nat × Nat)) : List Nat := l.filterMap fun p => if p.1 = 4 then some p.2 else none

/-- One order. (4: a block whose making may have come before; 5: a call before that.) -/
def gSeq0 (P : Program) (ops : Array Oper) (Q : Exit → Act → World → Prop) (fs : List Fl) (n0 : Nat) : List (Nat × Nat) → Act → World → Prop
  | [], a, w => Q .normal a w
  | (k, i) :: r, a, w => match ops[i]? with
    | none => False
    | some o => if k = 4 then match lookF fs i with
          | none => False
          | some x => ∀ w' b, w.grownBy w' none → n0 ≤ b → w'.heap[b]? = some x.2 → gSeq0 P ops Q fs n0 r (a.put (some x.1) (ptrTo b)) w'
        else if Region.wanted o (yielded ops a.tmps) = true then
        (if k = 1 then ∃ v, (∀ w', w.grownBy w' none → (execOp a.eval o).run P w' = .ok (.value v) w') ∧ gSeq0 P ops Q fs n0 r (a.put o.dst v) w
         else if k = 2 then ∃ v, (∀ w', (execOp a.eval o).run P w' = .ok (.value v) w') ∧ gSeq0 P ops Q fs n0 r (a.put o.dst v) w
         else if k = 5 then ∀ w1, w.grownBy w1 none → o.wp P a w1 (fun a' w' => w1.grownBy w' none ∧ gSeq0 P ops Q fs n0 r a' w') Q
         else o.wp P a w (fun a' w' => (k = 3 ∨ w.grownBy w' none) ∧ gSeq0 P ops Q fs n0 r a' w') Q)
      else gSeq0 P ops Q fs n0 r (a.put o.dst undef) w
def setAll (L : Array Bool) (ns : List Nat) : Array Bool := ns.foldl (fun L i => L.setIfInBounds i true) L
def apartAt (ops : Array Oper) (f i : Nat) : Bool := match ops[f]?, ops[i]? with
  | some x, some y => x.apart ops y
  | _, _ => false
/-- Is it an order that serves all? -/
def gCheck (md : Region.Mode) (ops : Array Oper) (fs : List Fl) (W : Nat → Bool) (ws : List Nat) : List (Nat × Nat) → Array Bool → Bool
  | [], listed => Region.ready md ops listed == []
  | (k, i) :: r, listed =>
    ((pend r).all (fun f => !listed.getD f true && (f != i && (apartAt ops f i && (lookF fs f).isSome))) && (Region.ready md ops listed).contains i) &&
    ((if k = 1 || k = 2 then (Region.free md ops listed i && (k == 2 || ws.all fun j => Region.waitsFor md ops j i))
     else if k = 4 || k = 5 then Region.ready md ops (setAll listed (pend r)) == [i] && (k == 5 || (!listed.getD i true && (lookF fs i).isSome))
     else Region.ready md ops listed == [i] && ((k != 3 || W i) && (pend r).isEmpty)) && gCheck md ops fs W ws r (listed.setIfInBounds i true))

theorem putQ (hQ : ∀ c a (d : Tmp) v w, Q (.panic c) (a.put (some d) v) w → Q (.panic c) a w) : ∀ c a (d : Option Tmp) v w, Q (.panic c) (a.put d v) w → Q (.panic c) a w
  | c, a, none, v, w, h => h
  | c, a, some d, v, w, h => hQ c a d v w h
theorem putQ' (hQ : ∀ c a (d : Tmp) v w, Q (.panic c) a w → Q (.panic c) (a.put (some d) v) w) : ∀ c a (d : Option Tmp) v w, Q (.panic c) a w → Q (.panic c) (a.put d v) w
  | c, a, none, v, w, h => h
  | c, a, some d, v, w, h => hQ c a d v w h

/-! The floats that came early: their operations, and blocks. -/
def putD (a : Act) (D : List (Fl × Nat)) : Act := D.foldl (fun a x => a.put (some x.1.2.1) (ptrTo x.2)) a
def numsD (D : List (Fl × Nat)) : List Nat := D.map fun x => x.1.1
theorem setAll_set (i : Nat) : ∀ (ns : List Nat) (L : Array Bool), setAll (L.setIfInBounds i true) ns = (setAll L ns).setIfInBounds i true
  | [], L => rfl
  | n :: ns, L => by
    have h : (L.setIfInBounds i true).setIfInBounds n true = (L.setIfInBounds n true).setIfInBounds i true := by
      by_cases h : i = n
      · subst h; rfl
      · exact Array.setIfInBounds_comm _ _ h
    show setAll ((L.setIfInBounds i true).setIfInBounds n true) ns = _
    rw [h, setAll_set i ns]
    rfl
theorem putD_put {d : Option Tmp} {v : Value} : ∀ (D : List (Fl × Nat)) (a : Act), (∀ x ∈ D, d ≠ some x.1.2.1) → putD (a.put d v) D = (putD a D).put d v
  | [], a, _ => rfl
  | x :: D, a, h => by
    show putD ((a.put d v).put (some x.1.2.1) (ptrTo x.2)) D = _
    rw [Act.put_comm a (x := d) (y := some x.1.2.1) v (ptrTo x.2) (fun e he => by rw [← he]; exact fun h' => h x (by simp) h'.symm), putD_put D _ (fun y hy => h y (by simp [hy]))]
    rfl
theorem setAll_mid (i : Nat) (L : Array Bool) (n1 n2 : List Nat) : setAll L (n1 ++ i :: n2) = setAll (L.setIfInBounds i true) (n1 ++ n2) := by
  unfold setAll
  rw [List.foldl_append, List.foldl_cons, List.foldl_append]
  have := setAll_set i n1 L
  unfold setAll at this
  rw [this]
theorem putD_mid (x : Fl × Nat) (a : Act) (D1 D2 : List (Fl × Nat)) (h : ∀ y ∈ D1, some x.1.2.1 ≠ some y.1.2.1) : putD a (D1 ++ x :: D2) = putD (a.put (some x.1.2.1) (ptrTo x.2)) (D1 ++ D2) := by
  have := putD_put (d := some x.1.2.1) (v := ptrTo x.2) D1 a h
  unfold putD at this ⊢
  rw [List.foldl_append, List.foldl_cons, List.foldl_append, this]
theorem setAll_getD (j : Nat) : ∀ (ns : List Nat) (L : Array Bool), j ∉ ns → ∀ d, (setAll L ns).getD j d = L.getD j d
  | [], L, _, d => rfl
  | n :: ns, L, h, d => by
    have hn : n ≠ j := fun e => h (by simp [e])
    show (setAll (L.setIfInBounds n true) ns).getD j d = _
    rw [setAll_getD j ns _ (fun h' => h (by simp [h'])) d, getD_set_ne d hn]
theorem setAll_true {e : Nat} : ∀ (ns : List Nat) (L : Array Bool), L.getD e false = true → (setAll L ns).getD e false = true
  | [], L, h => h
  | n :: ns, L, h => setAll_true ns _ (getD_set_true h)
theorem setAll_mem {j : Nat} : ∀ (ns : List Nat) (L : Array Bool), j ∈ ns → (setAll L ns).getD j true = true
  | n :: ns, L, h => by
    rcases List.mem_cons.1 h with rfl | h
    · show (setAll (L.setIfInBounds j true) ns).getD j true = true
      rw [setAll_set]
      by_cases hj : j < (setAll L ns).size <;> simp [hj]
    · exact setAll_mem ns _ h
theorem setAll_only {e : Nat} {ns ms : List Nat} {L : Array Bool} (hs : ∀ x ∈ ns, x ∈ ms) (h : (setAll L ns).getD e false = true) : (setAll L ms).getD e false = true := by
  by_cases hm : e ∈ ns
  · have h1 := setAll_mem ms L (hs e hm)
    by_cases hsz : e < (setAll L ms).size
    · simpa [hsz] using h1
    · have size_eq : ∀ (ks : List Nat) (M : Array Bool), (setAll M ks).size = M.size := by
        intro ks
        induction ks with
        | nil => intro M; rfl
        | cons k ks ih => intro M; show (setAll (M.setIfInBounds k true) ks).size = _; rw [ih]; simp
      have h2 : ¬ e < (setAll L ns).size := by rw [size_eq] at hsz ⊢; exact hsz
      simp [h2] at h
  · rw [setAll_getD e ns L hm] at h
    exact setAll_true ms L h
theorem ready_setAll {j : Nat} {listed : Array Bool} {ns ms : List Nat} (hj : j ∈ Region.ready md ops (setAll listed ns)) (hs : ∀ x ∈ ns, x ∈ ms) (hn : j ∉ ms) : j ∈ Region.ready md ops (setAll listed ms) := by
  obtain ⟨h0, o, ho, hall⟩ := mem_ready.1 hj
  have hn' : j ∉ ns := fun h => hn (hs j h)
  refine mem_ready.2 ⟨?_, o, ho, fun e he hb => setAll_only hs (hall e he hb)⟩
  rw [setAll_getD j _ _ hn' true] at h0
  rw [setAll_getD j _ _ hn true]
  exact h0
theorem len_le : ∀ (D Z : List Nat), D.Nodup → (∀ x ∈ D, x ∈ Z) → D.length ≤ Z.length
  | [], _, _, _ => Nat.zero_le _
  | x :: D, Z, hn, hs => by
    have hx := List.nodup_cons.1 hn
    have h1 := len_le D (Z.erase x) hx.2 (fun y hy => (List.mem_erase_of_ne (fun e => hx.1 (by rw [← e]; exact hy))).2 (hs y (by simp [hy])))
    have h2 := List.length_erase_of_mem (hs x (by simp))
    have h3 : 0 < Z.length := List.length_pos_of_mem (hs x (by simp))
    rw [List.length_cons]; omega
theorem length_pend (l : List (Nat × Nat)) : (pend l).length ≤ l.length := List.length_filterMap_le ..
theorem wp_put {o : Oper} {a : Act} {w : World} {d : Option Tmp} {v : Value} {K : Act → World → Prop} (hs : ∀ cs b, o.op ≠ .select cs b) (h1 : ∀ t, d = some t → t ∉ o.looksAt ops) (h2 : ∀ t, d = some t → o.dst ≠ some t)
    (hQ : ∀ c a w, Q (.panic c) a w → Q (.panic c) (a.put d v) w) (h : o.wp P a w K Q) : o.wp P (a.put d v) w (fun a' w' => ∃ a1, a' = a1.put d v ∧ K a1 w') Q := by
  unfold Oper.wp at *
  rw [execOp_put (ops := ops) o hs a d v h1]
  generalize (execOp a.eval o).run P w = r at *
  cases r with
  | ok n w' =>
    cases n <;> simp only [Oper.upon] at h ⊢
    case value u => exact ⟨_, Act.put_comm a v u h2, h⟩
    case skip => exact ⟨_, Act.put_comm a v undef h2, h⟩
    case defer x =>
      refine ⟨_, ?_, h⟩
      rw [Act.put_defers, Act.put_comm _ v undef h2]
    case enter f args =>
      refine Calls.mono h fun e w'' he => ?_
      cases e with
      | returned u => exact ⟨_, Act.put_comm a v u h2, he⟩
      | panicked c => exact hQ _ _ _ he
      | outgrown => exact he
    case row row args => exact Rows.mono h fun u w'' he => ⟨_, Act.put_comm a v u h2, he⟩
  | halt x w' =>
    cases x <;> simp only [Oper.upon] at h ⊢
    case panic u => exact hQ _ _ _ h
theorem wp_putD {o : Oper} {w : World} (hs : ∀ cs b, o.op ≠ .select cs b) (hQ : ∀ c a (d : Tmp) v w, Q (.panic c) a w → Q (.panic c) (a.put (some d) v) w) : ∀ (D : List (Fl × Nat)) (a : Act) (K : Act → World → Prop),
    (∀ x ∈ D, x.1.2.1 ∉ o.looksAt ops ∧ o.dst ≠ some x.1.2.1) → o.wp P a w K Q → o.wp P (putD a D) w (fun a' w' => ∃ a1, a' = putD a1 D ∧ K a1 w') Q
  | [], a, K, _, h => Oper.wp_mono (fun a' w' h' => ⟨a', rfl, h'⟩) h
  | x :: D, a, K, hx, h => by
    have h0 := hx x (by simp)
    have h1 := wp_put (ops := ops) (d := some x.1.2.1) (v := ptrTo x.2) hs (fun t ht => by injection ht with ht; rw [← ht]; exact h0.1) (fun t ht => by injection ht with ht; rw [← ht]; exact h0.2) (fun c a w h => hQ c a _ _ w h) h
    refine Oper.wp_mono ?_ (wp_putD hs hQ D (a.put (some x.1.2.1) (ptrTo x.2)) _ (fun y hy => hx y (by simp [hy])) h1)
    rintro a' w' ⟨a1, rfl, a2, rfl, h⟩
    exact ⟨a2, rfl, h⟩
theorem wanted_putD {o : Oper} : ∀ (D : List (Fl × Nat)) (a : Act), (∀ x ∈ D, x.1.2.1 ∉ o.looksAt ops) → Region.wanted o (yielded ops (putD a D).tmps) = Region.wanted o (yielded ops a.tmps)
  | [], a, _ => rfl
  | x :: D, a, h => by
    show Region.wanted o (yielded ops (putD (a.put (some x.1.2.1) (ptrTo x.2)) D).tmps) = _
    rw [wanted_putD D _ (fun y hy => h y (by simp [hy])), wanted_put o a _ _ (fun d hd => by injection hd with hd; rw [← hd]; exact h x (by simp))]
theorem exec_putD {o : Oper} (hs : ∀ cs b, o.op ≠ .select cs b) : ∀ (D : List (Fl × Nat)) (a : Act), (∀ x ∈ D, x.1.2.1 ∉ o.looksAt ops) → execOp (putD a D).eval o = execOp a.eval o
  | [], a, _ => rfl
  | x :: D, a, h => by
    show execOp (putD (a.put (some x.1.2.1) (ptrTo x.2)) D).eval o = _
    rw [exec_putD hs D _ (fun y hy => h y (by simp [hy])), execOp_put (ops := ops) o hs a _ _ (fun d hd => by injection hd with hd; rw [← hd]; exact h x (by simp))]

/-- The floats that came early fit. -/
structure Early (P : Program) (ops : Array Oper) (fs : List Fl) (n0 : Nat) (l : List (Nat × Nat)) (D : List (Fl × Nat)) (w w' : World) : Prop where
  grown : w.grownBy w' none
  same : D = [] → w' = w
  ok : ∀ x ∈ D, lookF fs x.1.1 = some x.1.2 ∧ x.1.1 ∈ pend l ∧ n0 ≤ x.2 ∧ w'.heap[x.2]? = some x.1.2.2
  nodup : (numsD D).Nodup
  size : pend l ≠ [] → n0 ≤ w'.heap.size
theorem grown_size {w w' : World} (h : w.grownBy w' none) : w.heap.size ≤ w'.heap.size := h.size
theorem lookF_ok {fs : List Fl} (hfs : ∀ x ∈ fs, floatOk P ops x) {i : Nat} {x : Tmp × Obj} (h : lookF fs i = some x) : floatOk P ops (i, x) := by
  unfold lookF at h
  cases hf : fs.find? (fun x => x.1 == i) with
  | none => simp [hf] at h
  | some y =>
    simp only [hf, Option.map_some, Option.some.injEq] at h
    have h1 := List.mem_of_find?_eq_some hf
    have h2 := List.find?_some hf
    have h3 : y.1 = i := by simpa using h2
    have : y = (i, x) := by rw [← h3, ← h]
    rw [← this]; exact hfs y h1
theorem pend_cons_ne {k i : Nat} {r : List (Nat × Nat)} (h : k ≠ 4) : pend ((k, i) :: r) = pend r := by simp [pend, h]
theorem pend_cons_4 {i : Nat} {r : List (Nat × Nat)} : pend ((4, i) :: r) = i :: pend r := by simp [pend]
theorem early_step {fs : List Fl} {n0 : Nat} (hfs : ∀ x ∈ fs, floatOk P ops x) {fuel : Nat} {l : List (Nat × Nat)} {listed : Array Bool} {a : Act} {w w' : World} {D : List (Fl × Nat)}
    (hE : Early P ops fs n0 l D w w') {j : Nat} (hj : j ∈ pend l) (hn : j ∉ numsD D) (hl : (lookF fs j).isSome = true)
    (ih : ∀ (D' : List (Fl × Nat)) (w'' : World), D'.length = D.length + 1 → Early P ops fs n0 l D' w w'' → wpAnyG P md ops Q W fuel (setAll listed (numsD D')) (putD a D') w'') :
    wpOp P ops Q j (fun a'' w'' => relG W j w' w'' ∧ wpAnyG P md ops Q W fuel ((setAll listed (numsD D)).setIfInBounds j true) a'' w'') (putD a D) w' := by
  obtain ⟨x, hx⟩ := Option.isSome_iff_exists.1 hl
  obtain ⟨o, ho, hd, hg, hrun⟩ := lookF_ok hfs hx
  have hwant : ∀ y, Region.wanted o y = true := fun y => by unfold Region.wanted; rw [hg]
  have ho' : ops[j]? = some o := ho
  unfold wpOp
  simp only [ho', hwant, if_true]
  refine .inl ?_
  unfold Oper.wp
  rw [hrun]
  simp only [Oper.upon]
  have h := ih (D ++ [((j, x), w'.heap.size)]) (w'.alloc x.2) (by simp) ⟨grown_alloc hE.grown _, by simp, ?_, ?_, ?_⟩
  · refine ⟨.inr (World.grownBy_alloc _ _ _), ?_⟩
    have e1 : setAll listed (numsD (D ++ [((j, x), w'.heap.size)])) = (setAll listed (numsD D)).setIfInBounds j true := by simp [setAll, numsD]
    have e2 : putD a (D ++ [((j, x), w'.heap.size)]) = (putD a D).put o.dst (ptrTo w'.heap.size) := by rw [hd]; simp [putD]
    rw [e1, e2] at h
    exact h
  · intro y hy
    rcases List.mem_append.1 hy with hy | hy
    · obtain ⟨h1, h2, h3, h4⟩ := hE.ok y hy
      exact ⟨h1, h2, h3, by rw [alloc_up _ _ (row_lt h4)]; exact h4⟩
    · have : y = ((j, x), w'.heap.size) := by simpa using hy
      subst this
      exact ⟨hx, hj, hE.size (List.ne_nil_of_mem hj), alloc_at _ _ rfl⟩
  · have : numsD (D ++ [((j, x), w'.heap.size)]) = numsD D ++ [j] := by simp [numsD]
    rw [this, List.nodup_append]
    exact ⟨hE.nodup, by simp, fun a ha b hb => by
      have : b = j := by simpa using hb
      subst this
      exact fun e => hn (by rw [← e]; exact ha)⟩
  · intro hp
    have := hE.size hp
    rw [alloc_size]; omega
theorem ready_up {j : Nat} {listed : Array Bool} {ns : List Nat} (h : j ∈ Region.ready md ops listed) (hn : j ∉ ns) : j ∈ Region.ready md ops (setAll listed ns) :=
  ready_setAll (ns := []) h (fun x hx => by cases hx) hn
theorem apart_float {fs : List Fl} (hfs : ∀ x ∈ fs, floatOk P ops x) {x : Fl} {i : Nat} {o : Oper} (ho : ops[i]? = some o) (hl : lookF fs x.1 = some x.2) (h : apartAt ops x.1 i = true) : x.2.1 ∉ o.looksAt ops ∧ o.dst ≠ some x.2.1 := by
  obtain ⟨of, hof, hd, -, -⟩ := lookF_ok hfs hl
  have hof' : ops[x.1]? = some of := hof
  unfold apartAt at h
  rw [hof', ho] at h
  obtain ⟨h1, h2, h3⟩ := Oper.apart_spec h
  exact ⟨h1 _ hd, h2 _ hd⟩
theorem wpAnyG_of_seq0 {fs : List Fl} {n0 : Nat} {ws : List Nat} (hfs : ∀ x ∈ fs, floatOk P ops x) (hws : ∀ j, W j = true → j ∈ ws) (hs : Region.noSelect ops = true)
    (hQ : ∀ c a (d : Tmp) v w, Q (.panic c) (a.put (some d) v) w → Q (.panic c) a w) (hQ' : ∀ c a (d : Tmp) v w, Q (.panic c) a w → Q (.panic c) (a.put (some d) v) w) :
    ∀ (n fuel : Nat) (l : List (Nat × Nat)) (listed : Array Bool) (a : Act) (w w' : World) (D : List (Fl × Nat)), fuel + l.length ≤ n → l.length = fuel + D.length → Early P ops fs n0 l D w w' →
      gCheck md ops fs W ws l listed = true → gSeq0 P ops Q fs n0 l a w → wpAnyG P md ops Q W fuel (setAll listed (numsD D)) (putD a D) w' := by
  intro n
  induction n with
  | zero =>
    intro fuel l listed a w w' D hn hl hE hc h
    have : l = [] := List.length_eq_zero_iff.1 (by omega)
    subst this
    have h0 : fuel = 0 := by omega
    subst h0
    have hD : D = [] := List.length_eq_zero_iff.1 (by simp at hl; omega)
    subst hD
    rw [hE.same rfl]
    refine ⟨?_, h⟩
    show Region.ready md ops listed = []
    simpa [gCheck] using hc
  | succ n ih =>
    intro fuel l listed a w w' D hn hl hE hc h
    cases l with
    | nil =>
      simp only [List.length_nil] at hl hn
      have h0 : fuel = 0 := by omega
      subst h0
      have hD : D = [] := List.length_eq_zero_iff.1 (by omega)
      subst hD
      rw [hE.same rfl]
      refine ⟨?_, h⟩
      show Region.ready md ops listed = []
      simpa [gCheck] using hc
    | cons p r =>
      obtain ⟨k, i⟩ := p
      rw [List.length_cons] at hl hn
      simp only [gCheck] at hc
      rw [Bool.and_eq_true, Bool.and_eq_true, Bool.and_eq_true] at hc
      obtain ⟨⟨hp, hrd⟩, hck, hcr⟩ := hc
      have hp' : ∀ f ∈ pend r, listed.getD f true = false ∧ f ≠ i ∧ apartAt ops f i = true ∧ (lookF fs f).isSome = true := fun f hf => by
        have := List.all_eq_true.1 hp f hf
        simpa [Bool.and_eq_true] using this
      have hrd' : i ∈ Region.ready md ops listed := by simpa using hrd
      have hpq := fun (o : Oper) (v : Value) c a w => putQ hQ c a o.dst v w
      cases hi : ops[i]? with
      | none => simp [gSeq0, hi] at h
      | some o =>
        simp only [gSeq0, hi] at h
        have hsel : ∀ cs b, o.op ≠ .select cs b := fun cs b => Region.noSelect_spec hs i o cs b hi
        by_cases h4 : k = 4
        · subst h4
          simp only [Nat.reduceEqDiff, decide_false, decide_true, Bool.or_false, Bool.false_or, Bool.true_or, Bool.or_true, if_true, if_false, Bool.false_eq_true, Bool.and_eq_true, beq_iff_eq, Bool.not_eq_true'] at hck h
          obtain ⟨hr1, h5⟩ := hck
          have h5' : listed.getD i true = false ∧ (lookF fs i).isSome = true := by simpa using h5
          obtain ⟨hun, hlk⟩ := h5'
          by_cases hin : i ∈ numsD D
          · obtain ⟨x, hx, hxi⟩ := List.mem_map.1 hin
            obtain ⟨D1, D2, rfl⟩ := List.append_of_mem hx
            obtain ⟨k1, k2, k3, k4⟩ := hE.ok x (by simp)
            have hnd := hE.nodup
            have hxi' : x.1.1 = i := hxi
            rw [hxi'] at k1
            rw [k1] at h
            have h2 := h w' x.2 hE.grown k3 k4
            have hne : ∀ y ∈ D1 ++ D2, y.1.1 ≠ i := by
              intro y hy e
              unfold numsD at hnd
              rw [List.map_append, List.map_cons, List.nodup_append, List.nodup_cons] at hnd
              rcases List.mem_append.1 hy with hy | hy
              · exact hnd.2.2 y.1.1 (List.mem_map.2 ⟨y, hy, rfl⟩) x.1.1 (by simp) (by rw [e, hxi'])
              · exact hnd.2.1.1 (List.mem_map.2 ⟨y, hy, by rw [e, hxi']⟩)
            have hin2 : ∀ y ∈ D1 ++ D2, y.1.1 ∈ pend r := fun y hy => by
              have h1 := (hE.ok y (by rcases List.mem_append.1 hy with hy | hy <;> simp [hy])).2.1
              rw [pend_cons_4] at h1
              rcases List.mem_cons.1 h1 with h1 | h1
              · exact absurd h1 (hne y hy)
              · exact h1
            have hput : ∀ y ∈ D1, some x.1.2.1 ≠ some y.1.2.1 := fun y hy => by
              have hy' : y ∈ D1 ++ D2 := by simp [hy]
              have q1 := (hE.ok y (by simp [hy])).1
              obtain ⟨ox, hox, hdx, -, -⟩ := lookF_ok hfs k1
              have hox' : ops[i]? = some ox := hox
              have : ox = o := Option.some.inj (hox'.symm.trans hi)
              subst this
              have := (apart_float hfs hi q1 (hp' _ (hin2 y hy')).2.2.1).2
              intro e
              exact this (hdx.trans e)
            have e1 : setAll listed (numsD (D1 ++ x :: D2)) = setAll (listed.setIfInBounds i true) (numsD (D1 ++ D2)) := by
              have := setAll_mid i listed (numsD D1) (numsD D2)
              simpa [numsD, hxi'] using this
            rw [e1, putD_mid x a D1 D2 hput]
            refine ih fuel r _ _ w' w' (D1 ++ D2) (by omega) (by simp at hl ⊢; omega) ⟨grown_refl _ _, fun _ => rfl, fun y hy => ?_, ?_, ?_⟩ hcr h2
            · have q := hE.ok y (by rcases List.mem_append.1 hy with hy | hy <;> simp [hy])
              exact ⟨q.1, hin2 y hy, q.2.2.1, q.2.2.2⟩
            · unfold numsD at hnd ⊢
              rw [List.map_append, List.map_cons] at hnd
              rw [List.map_append]
              exact hnd.sublist (by simp)
            · intro _
              exact hE.size (by rw [pend_cons_4]; simp)
          · have hsub : ∀ y ∈ numsD D, y ∈ pend r := fun y hy => by
              obtain ⟨x, hx, rfl⟩ := List.mem_map.1 hy
              have h1 := (hE.ok x hx).2.1
              rw [pend_cons_4] at h1
              rcases List.mem_cons.1 h1 with h1 | h1
              · exact absurd (List.mem_map.2 ⟨x, hx, h1⟩) hin
              · exact h1
            have hlen : D.length ≤ r.length := by
              have h1 := len_le (numsD D) (pend r) hE.nodup hsub
              have h2 := length_pend r
              have h3 : (numsD D).length = D.length := by simp [numsD]
              omega
            cases fuel with
            | zero => omega
            | succ fuel =>
              refine ⟨fun h0 => ?_, fun j hj => ?_⟩
              · have := ready_up (md := md) (ops := ops) hrd' hin
                rw [h0] at this; cases this
              · have hjun : j ∉ numsD D := fun hm => by
                  have h1 := (mem_ready.1 hj).1
                  rw [setAll_mem _ _ hm] at h1; cases h1
                have hjp : j ∈ pend ((4, i) :: r) := by
                  rw [pend_cons_4]
                  by_cases hm : j ∈ pend r
                  · simp [hm]
                  · have := ready_setAll hj hsub hm
                    rw [hr1] at this
                    exact List.mem_cons.2 (.inl (by simpa using this))
                refine early_step hfs hE hjp hjun ?_ fun D' w'' hD' hE' => ih fuel _ _ _ w _ D' (by simp only [List.length_cons]; omega) (by simp only [List.length_cons]; omega) hE' ?_ ?_
                · rw [pend_cons_4] at hjp
                  rcases List.mem_cons.1 hjp with rfl | hm
                  · exact hlk
                  · exact (hp' j hm).2.2.2
                · simp only [gCheck]
                  rw [Bool.and_eq_true, Bool.and_eq_true, Bool.and_eq_true]
                  refine ⟨⟨hp, hrd⟩, ?_, hcr⟩
                  simp [hr1, hun, hlk]
                · simp only [gSeq0, hi, if_true]; exact h
        · have hpe : pend ((k, i) :: r) = pend r := pend_cons_ne h4
          have hsub : ∀ y ∈ numsD D, y ∈ pend r := fun y hy => by
            obtain ⟨x, hx, rfl⟩ := List.mem_map.1 hy
            have h1 := (hE.ok x hx).2.1
            rw [hpe] at h1; exact h1
          have hin : i ∉ numsD D := fun hm => (hp' i (hsub i hm)).2.1 rfl
          have hap : ∀ x ∈ D, x.1.2.1 ∉ o.looksAt ops ∧ o.dst ≠ some x.1.2.1 := fun x hx =>
            apart_float hfs hi (hE.ok x hx).1 (hp' _ (hsub _ (List.mem_map.2 ⟨x, hx, rfl⟩))).2.2.1
          have hlen : D.length ≤ r.length := by
            have h1 := len_le (numsD D) (pend r) hE.nodup hsub
            have h2 := length_pend r
            have h3 : (numsD D).length = D.length := by simp [numsD]
            omega
          have hE' : ∀ u, w.grownBy u none → (D = [] → w' = u) → u.grownBy w' none → Early P ops fs n0 r D u w' := fun u _ h2 h3 =>
            ⟨h3, h2, fun x hx => let q := hE.ok x hx; ⟨q.1, hpe ▸ q.2.1, q.2.2⟩, hE.nodup, fun h => hE.size (by rw [hpe]; exact h)⟩
          have hEr : Early P ops fs n0 r D w w' := hE' w (grown_refl _ _) hE.same hE.grown
          have hput : ∀ v, putD (a.put o.dst v) D = (putD a D).put o.dst v := fun v => putD_put D a (fun x hx => (hap x hx).2)
          have hset : setAll (listed.setIfInBounds i true) (numsD D) = (setAll listed (numsD D)).setIfInBounds i true := setAll_set i _ _
          have hready := ready_up (md := md) (ops := ops) hrd' hin
          have hwant := wanted_putD (ops := ops) D a (fun x hx => (hap x hx).1)
          have hexec := exec_putD (ops := ops) hsel D a (fun x hx => (hap x hx).1)
          cases fuel with
          | zero => omega
          | succ fuel =>
            by_cases h12 : k = 1 ∨ k = 2
            · have hck' : Region.free md ops listed i = true ∧ ((k == 2) = true ∨ ∀ j ∈ ws, Region.waitsFor md ops j i = true) := by
                rcases h12 with rfl | rfl <;> simpa [Bool.and_eq_true] using hck
              obtain ⟨hb, hd⟩ := hck'
              have hfree : ∀ j oj, ops[j]? = some oj → j ≠ i → (setAll listed (numsD D)).getD j true = false → (∀ e ∈ oj.after, Region.binds md e = true → e.on ≠ i) → o.apart ops oj = true := fun j oj hj hne hun hno => by
                have hjn : j ∉ numsD D := fun hm => by rw [setAll_mem _ _ hm] at hun; cases hun
                rw [setAll_getD j _ _ hjn] at hun
                exact Region.free_spec hi hb j oj hj hne hun hno
              have hlast : ∀ v, gSeq0 P ops Q fs n0 r (a.put o.dst v) w → wpAnyG P md ops Q W fuel ((setAll listed (numsD D)).setIfInBounds i true) ((putD a D).put o.dst v) w' := fun v hv => by
                rw [← hset, ← hput v]
                exact ih fuel r _ _ w w' D (by omega) (by omega) hEr hcr hv
              by_cases hw : Region.wanted o (yielded ops a.tmps) = true
              · simp only [hw, if_true, h4, if_false] at h
                by_cases h1 : k = 1
                · subst h1
                  simp only [if_true] at h
                  obtain ⟨v, hv, hk⟩ := h
                  have hd' : ∀ j, W j = true → Region.waitsFor md ops j i = true := fun j hj => by
                    rcases hd with hd | hd
                    · simp at hd
                    · exact hd j (hws j hj)
                  refine wpAnyG_first (all := false) hi (Region.noSelect_spec hs) (hpq o v) (.inr hd') _ _ _ _ hfree hready (.inl ⟨(by rw [hwant]; exact hw), fun u hu => ?_⟩) (hlast v hk)
                  rw [hexec]
                  exact hv u (grown_trans hE.grown (by rcases hu with hu | hu; cases hu; exact hu))
                · have h2 : k = 2 := h12.resolve_left h1
                  subst h2
                  simp only [Nat.reduceEqDiff, if_false, if_true] at h
                  obtain ⟨v, hv, hk⟩ := h
                  refine wpAnyG_first (all := true) hi (Region.noSelect_spec hs) (hpq o v) (.inl rfl) _ _ _ _ hfree hready (.inl ⟨(by rw [hwant]; exact hw), fun u _ => ?_⟩) (hlast v hk)
                  rw [hexec]
                  exact hv u
              · simp only [hw, h4, if_false] at h
                have hk : gSeq0 P ops Q fs n0 r (a.put o.dst undef) w := by simpa using h
                have hw' : Region.wanted o (yielded ops (putD a D).tmps) = false := by rw [hwant]; simpa using hw
                rcases h12 with rfl | rfl
                · have hd' : ∀ j, W j = true → Region.waitsFor md ops j i = true := fun j hj => by
                    rcases hd with hd | hd
                    · simp at hd
                    · exact hd j (hws j hj)
                  exact wpAnyG_first (all := false) hi (Region.noSelect_spec hs) (hpq o undef) (.inr hd') _ _ _ _ hfree hready (.inr ⟨hw', rfl⟩) (hlast undef hk)
                · exact wpAnyG_first (all := true) hi (Region.noSelect_spec hs) (hpq o undef) (.inl rfl) _ _ _ _ hfree hready (.inr ⟨hw', rfl⟩) (hlast undef hk)
            · have hk1 : k ≠ 1 := fun e => h12 (.inl e)
              have hk2 : k ≠ 2 := fun e => h12 (.inr e)
              simp only [hk1, hk2, h4, decide_false, Bool.or_self, Bool.false_or, Bool.false_eq_true, if_false] at hck h
              have hskip : Region.wanted o (yielded ops a.tmps) ≠ true → gSeq0 P ops Q fs n0 r (a.put o.dst undef) w → wpOp P ops Q i (fun a'' w'' => relG W i w' w'' ∧ wpAnyG P md ops Q W fuel ((setAll listed (numsD D)).setIfInBounds i true) a'' w'') (putD a D) w' := fun hw hk => by
                unfold wpOp
                simp only [hi, hwant, hw]
                refine ⟨relG_refl W _ w', ?_⟩
                rw [← hset, ← hput undef]
                exact ih fuel r _ _ w w' D (by omega) (by omega) hEr hcr hk
              by_cases h5 : k = 5
              · subst h5
                simp only [decide_true, if_true, Bool.and_eq_true, beq_iff_eq] at hck h
                have hr1 := hck.1
                refine ⟨fun h0 => (by rw [h0] at hready; cases hready), fun j hj => ?_⟩
                have hjun : j ∉ numsD D := fun hm => by
                  have h1 := (mem_ready.1 hj).1
                  rw [setAll_mem _ _ hm] at h1; cases h1
                by_cases hm : j ∈ pend r
                · refine early_step hfs hE (by rw [hpe]; exact hm) hjun (hp' j hm).2.2.2 fun D' w'' hD' hE' => ih fuel _ _ _ w _ D' (by simp only [List.length_cons]; omega) (by simp only [List.length_cons]; omega) hE' ?_ ?_
                  · simp only [gCheck]
                    rw [Bool.and_eq_true, Bool.and_eq_true, Bool.and_eq_true]
                    refine ⟨⟨hp, hrd⟩, ?_, hcr⟩
                    simp [hr1]
                  · simp only [gSeq0, hi, Nat.reduceEqDiff, if_false, if_true]; exact h
                · have hj2 := ready_setAll hj hsub hm
                  rw [hr1] at hj2
                  have : j = i := by simpa using hj2
                  subst this
                  by_cases hw : Region.wanted o (yielded ops a.tmps) = true
                  · simp only [hw, if_true] at h
                    unfold wpOp
                    simp only [hi, hwant, hw, if_true]
                    refine .inl (Oper.wp_mono ?_ (wp_putD (ops := ops) hsel hQ' D a _ hap (h w' hE.grown)))
                    rintro a'' w'' ⟨a1, rfl, hg, hk⟩
                    refine ⟨.inr hg, ?_⟩
                    rw [← hset]
                    refine ih fuel r _ _ w'' w'' D (by omega) (by omega) ⟨grown_refl _ _, fun _ => rfl, fun x hx => ?_, hE.nodup, fun hq => ?_⟩ hcr hk
                    · obtain ⟨q1, q2, q3, q4⟩ := hEr.ok x hx
                      exact ⟨q1, q2, q3, (hg.block _ (row_lt q4) (by simp)).trans q4⟩
                    · have := hEr.size hq
                      have := grown_size hg
                      omega
                  · exact hskip hw (by simpa [hw] using h)
              · simp only [h5, decide_false, Bool.false_eq_true, if_false, Bool.and_eq_true, beq_iff_eq, List.isEmpty_iff] at hck h
                obtain ⟨hr1, hkW, hpn⟩ := hck
                have hD : D = [] := by
                  cases D with
                  | nil => rfl
                  | cons x D => have := hsub x.1.1 (by simp [numsD]); rw [hpn] at this; cases this
                subst hD
                have hww := hE.same rfl
                subst hww
                refine ⟨fun h0 => (by rw [h0] at hready; cases hready), fun j hj => ?_⟩
                have hj' : j ∈ Region.ready md ops listed := hj
                rw [hr1] at hj'
                have : j = i := by simpa using hj'
                subst this
                by_cases hw : Region.wanted o (yielded ops a.tmps) = true
                · simp only [hw, if_true] at h
                  unfold wpOp
                  show match ops[j]? with | none => _ | some o => _
                  simp only [hi]
                  rw [if_pos (show Region.wanted o (yielded ops (putD a []).tmps) = true from hw)]
                  refine .inl (Oper.wp_mono (fun a'' w'' hk => ⟨?_, ?_⟩) h)
                  · rcases hk.1 with h5 | h5
                    · subst h5
                      exact .inl (by simpa using hkW)
                    · exact .inr h5
                  · have := ih fuel r (listed.setIfInBounds j true) a'' w'' w'' [] (by omega) (by omega) ⟨grown_refl _ _, fun _ => rfl, fun x hx => (by cases hx), List.nodup_nil, fun hq => absurd hpn hq⟩ hcr hk.2
                    exact this
                · exact hskip hw (by simpa [hw] using h)

/-- The order, closed: no tactic looks into it. -/
structure gSeq (P : Program) (ops : Array Oper) (Q : Exit → Act → World → Prop) (fs : List Fl) (n0 : Nat) (l : List (Nat × Nat)) (a : Act) (w : World) : Prop where
  out : gSeq0 P ops Q fs n0 l a w

def writesOf (l : List (Nat × Nat)) : List Nat := l.filterMap fun p => if p.1 = 3 then some p.2 else none
theorem wp_region_float {id : Nat} {a : Act} {w : World} (fs : List Fl) (hfs : ∀ x ∈ fs, floatOk P ops x) (l : List (Nat × Nat)) (hm : P.follows .mixedOrders = true)
    (hB : (Region.noSelect ops && (l.length == ops.size && gCheck .any ops fs (fun j => (writesOf l).contains j) (writesOf l) l (Array.replicate ops.size false))) = true) (hQ : ∀ c a (d : Tmp) v w, Q (.panic c) (a.put (some d) v) w → Q (.panic c) a w)
    (hQ' : ∀ c a (d : Tmp) v w, Q (.panic c) a w → Q (.panic c) (a.put (some d) v) w)
    (h : gSeq P ops Q fs w.heap.size l a w.drew) : (Code.region id ops true).wp P Q a w := by
  simp only [Bool.and_eq_true, beq_iff_eq] at hB
  obtain ⟨h1, h2, h3⟩ := hB
  refine wp_region_any hm (wpAny_of_grow (W := fun j => (writesOf l).contains j) _ _ _ _ ?_)
  rw [← h2]
  exact wpAnyG_of_seq0 (n0 := w.heap.size) (ws := writesOf l) hfs (fun j hj => by simpa using hj) h1 hQ hQ' _ l.length l _ a _ _ [] (Nat.le_refl _) (by simp) ⟨grown_refl _ _, fun _ => rfl, fun x hx => (by cases hx), List.nodup_nil, fun _ => Nat.le_refl _⟩ (by rw [h2]; exact h3) h.out
theorem wp_region_grow {id : Nat} {a : Act} {w : World} (l : List (Nat × Nat)) (hm : P.follows .mixedOrders = true)
    (hB : (Region.noSelect ops && (l.length == ops.size && gCheck .any ops [] (fun j => (writesOf l).contains j) (writesOf l) l (Array.replicate ops.size false))) = true) (hQ : ∀ c a (d : Tmp) v w, Q (.panic c) (a.put (some d) v) w → Q (.panic c) a w)
    (hQ' : ∀ c a (d : Tmp) v w, Q (.panic c) a w → Q (.panic c) (a.put (some d) v) w) (h : gSeq P ops Q [] w.heap.size l a w.drew) : (Code.region id ops true).wp P Q a w :=
  wp_region_float [] (fun x hx => by cases hx) l hm hB hQ hQ' h

/-! The steps. -/
/-- Operation number i, by looking. -/
def nthO : List Oper → Nat → Option Oper
  | [], _ => none
  | o :: _, 0 => some o
  | _ :: l, n + 1 => nthO l n
theorem nthO_eq : ∀ (l : List Oper) (i : Nat), nthO l i = l[i]?
  | [], _ => by simp [nthO]
  | o :: l, 0 => by simp [nthO]
  | o :: l, n + 1 => by simp [nthO, nthO_eq l n]
theorem nthO_get {i : Nat} {o : Oper} (h : nthO ops.toList i = some o) : ops[i]? = some o := by
  rw [nthO_eq] at h; simpa using h
section
variable {fs : List Fl} {n0 : Nat} {i : Nat} {r : List (Nat × Nat)} {a : Act} {w : World} {o : Oper} {k : Nat}
theorem gSeq_nil (h : Q .normal a w) : gSeq P ops Q fs n0 [] a w := ⟨h⟩
theorem gSeq_skip (ho : nthO ops.toList i = some o) (hw0 : (Region.wanted o (yielded ops a.tmps) || Nat.beq k 4) = false) (h : gSeq P ops Q fs n0 r (a.put o.dst undef) w) : gSeq P ops Q fs n0 ((k, i) :: r) a w := by
  rw [Bool.or_eq_false_iff] at hw0
  obtain ⟨hw, hk⟩ := hw0
  have hk' : k ≠ 4 := fun e => by rw [e] at hk; cases hk
  refine ⟨?_⟩
  simp only [gSeq0, nthO_get ho, hw, hk', if_false, Bool.false_eq_true]; exact h.out
theorem gSeq_still (ho : nthO ops.toList i = some o) (hw : Region.wanted o (yielded ops a.tmps) = true) (v : Value) (hv : ∀ w', w.grownBy w' none → (execOp a.eval o).run P w' = .ok (.value v) w')
    (h : gSeq P ops Q fs n0 r (a.put o.dst v) w) : gSeq P ops Q fs n0 ((1, i) :: r) a w := by
  refine ⟨?_⟩
  simp only [gSeq0, nthO_get ho, hw, if_true, Nat.reduceEqDiff, if_false]; exact ⟨v, hv, h.out⟩
theorem gSeq_pure (ho : nthO ops.toList i = some o) (hw : Region.wanted o (yielded ops a.tmps) = true) (v : Value) (hv : ∀ w', (execOp a.eval o).run P w' = .ok (.value v) w')
    (h : gSeq P ops Q fs n0 r (a.put o.dst v) w) : gSeq P ops Q fs n0 ((2, i) :: r) a w := by
  refine ⟨?_⟩
  simp only [gSeq0, nthO_get ho, hw, if_true, Nat.reduceEqDiff, if_false]; exact ⟨v, hv, h.out⟩
theorem gSeq_move (x : Operand) (ho : nthO ops.toList i = some o) (hx : o.op = .move x) (hw : Region.wanted o (yielded ops a.tmps) = true)
    (h : gSeq P ops Q fs n0 r (a.put o.dst (a.eval x)) w) : gSeq P ops Q fs n0 ((2, i) :: r) a w :=
  gSeq_pure ho hw _ (fun w' => BigFrame.run_move x hx _) h
theorem gSeq_assign (x : Operand) (ho : nthO ops.toList i = some o) (hx : o.op = .assign x) (hw : Region.wanted o (yielded ops a.tmps) = true)
    (h : gSeq P ops Q fs n0 r (a.put o.dst (a.eval x)) w) : gSeq P ops Q fs n0 ((2, i) :: r) a w :=
  gSeq_pure ho hw _ (fun w' => BigFrame.run_assign x hx _) h
theorem gSeq_do (ho : nthO ops.toList i = some o) (hw : Region.wanted o (yielded ops a.tmps) = true)
    (h : ∀ K : Act → World → Prop, (∀ a' w', w.grownBy w' none → gSeq P ops Q fs n0 r a' w' → K a' w') → o.wp P a w K Q) : gSeq P ops Q fs n0 ((0, i) :: r) a w := by
  refine ⟨?_⟩
  simp only [gSeq0, nthO_get ho, hw, if_true, Nat.reduceEqDiff, if_false]
  exact h _ fun a' w' h1 h2 => ⟨.inr h1, h2.out⟩
/-- A call ahead of a float. -/
theorem gSeq_do5 (ho : nthO ops.toList i = some o) (hw : Region.wanted o (yielded ops a.tmps) = true)
    (h : ∀ w1, w.grownBy w1 none → ∀ K : Act → World → Prop, (∀ a' w', w1.grownBy w' none → gSeq P ops Q fs n0 r a' w' → K a' w') → o.wp P a w1 K Q) : gSeq P ops Q fs n0 ((5, i) :: r) a w := by
  refine ⟨?_⟩
  simp only [gSeq0, nthO_get ho, hw, if_true, Nat.reduceEqDiff, if_false]
  exact fun w1 hg => h w1 hg _ fun a' w' h1 h2 => ⟨h1, h2.out⟩
theorem float_of {d : Tmp} {row : Obj} {i : Nat} {o : Oper} (ho : nthO ops.toList i = some o) (hd : o.dst = some d) (hg : o.guard = none) (hr : ∀ ρ w, (execOp ρ o).run P w = .ok (.value (ptrTo w.heap.size)) (w.alloc row)) :
    floatOk P ops (i, d, row) := ⟨o, nthO_get ho, hd, hg, hr⟩
theorem floats_1 {x : Fl} (h : floatOk P ops x) : ∀ y ∈ [x], floatOk P ops y := fun y hy => by
  rw [List.mem_singleton] at hy; subst hy; exact h
theorem floats_2 {x y : Fl} (h : floatOk P ops x) (k : floatOk P ops y) : ∀ z ∈ [x, y], floatOk P ops z := fun z hz => by
  rcases List.mem_cons.1 hz with rfl | hz
  · exact h
  · rw [List.mem_singleton] at hz; subst hz; exact k
/-- The float, wherever it came. -/
theorem gSeq_float (ho : nthO ops.toList i = some o) (x : Tmp × Obj) (hl : lookF fs i = some x)
    (h : ∀ w' b, w.grownBy w' none → n0 ≤ b → w'.heap[b]? = some x.2 → gSeq P ops Q fs n0 r (a.put (some x.1) (ptrTo b)) w') : gSeq P ops Q fs n0 ((4, i) :: r) a w := by
  refine ⟨?_⟩
  simp only [gSeq0, nthO_get ho, if_true, hl]
  exact fun w' b h1 h2 h3 => (h w' b h1 h2 h3).out
/-- A write. -/
theorem gSeq_write (ho : nthO ops.toList i = some o) (hw : Region.wanted o (yielded ops a.tmps) = true)
    (h : ∀ K : Act → World → Prop, (∀ a' w', gSeq P ops Q fs n0 r a' w' → K a' w') → o.wp P a w K Q) : gSeq P ops Q fs n0 ((3, i) :: r) a w := by
  refine ⟨?_⟩
  simp only [gSeq0, nthO_get ho, hw, if_true, Nat.reduceEqDiff, if_false]
  exact h _ fun a' w' h2 => ⟨by simp, h2.out⟩
/-- A load of an array or a struct from a block known whole. -/
theorem gSeq_row (ho : nthO ops.toList i = some o) (hw : Region.wanted o (yielded ops a.tmps) = true) (ty : TypeId) (x : Operand) (hop : o.op = .load ty x)
    (g : Nat) (hx : a.eval x = .pointer (some ⟨g, 0, none⟩)) (t : TypeId) (cs : Array Value) (fr : Nat × Nat) (d : TypeDesc) (hg : w.heap[g]? = some (.cells cs t fr))
    (hu : P.underlying ty = some d) (hd : (match d with | .struct _ | .array _ _ => true | _ => false) = true) (hi : (P.info? ty).map (·.size) = some cs.size)
    (h : gSeq P ops Q fs n0 r (a.put o.dst (.agg cs)) w) : gSeq P ops Q fs n0 ((1, i) :: r) a w :=
  gSeq_still ho hw _ (fun w' hG => by
    have hg' : w'.heap[g]? = some (.cells cs t fr) := (hG.block _ (row_lt hg) (by simp)).trans hg
    unfold execOp
    simp only [hop, hx, Instr.loadAt, Instr.sureAddr, Sem.run_bind, Sem.run_pure, Result.andThen_ok, run_loadVar_row w' g t ty cs fr d hg' hu hd hi]) h
/-- 'string(b)' of bytes. -/
theorem gSeq_string (ho : nthO ops.toList i = some o) (hw : Region.wanted o (yielded ops a.tmps) = true) (src dst : TypeId) (x : Operand) (hop : o.op = .convert src dst x)
    (e : TypeId) (hs : P.underlying src = some (.slice e)) (he : P.underlying e = some (.int .u8)) (hd : P.underlying dst = some .string)
    (ad : Option Addr) (len cap : Nat) (hx : a.eval x = .slice ad len cap) (xs : List Int) (hl : xs.length = len)
    (hc : ∀ i, i < len → ∃ x, ad = some x ∧ w.cell? (x.add i) = some (.int .u8 (xs.getD i 0)))
    (h : gSeq P ops Q fs n0 r (a.put o.dst (.string (str8 xs))) w) : gSeq P ops Q fs n0 ((1, i) :: r) a w :=
  gSeq_still ho hw _ (fun w' hG => by
    have hr := run_string_src w' src dst e hs he hd ad len cap xs hl (fun j hj => let ⟨x, h1, h2⟩ := hc j hj; ⟨x, h1, hG.cell h2 (by simp)⟩)
    unfold execOp
    simp only [hop, hx, Sem.run_bind, Sem.run_pure, Result.andThen_ok, hr]) h
/-- Arrays of numbers held against one another. -/
theorem gSeq_eql (ho : nthO ops.toList i = some o) (hw : Region.wanted o (yielded ops a.tmps) = true) (t : TypeId) (x y : Operand) (t' : TypeId) (hop : o.op = .binOp .eql t x y t')
    (n : Nat) (e : TypeId) (k : IntKind) (hu : P.underlying t = some (.array n e)) (he : P.underlying e = some (.int k)) (hs : (P.info? e).map (·.size) = some 1) (hg : P.eqGuardType P.depth t = false)
    (xs ys : List Int) (hx : a.eval x = .agg (encK k xs)) (hy : a.eval y = .agg (encK k ys)) (hlx : xs.length = n) (hly : ys.length = n) (b : Bool) (hb : (xs == ys) = b)
    (h : gSeq P ops Q fs n0 r (a.put o.dst (.bool b)) w) : gSeq P ops Q fs n0 ((2, i) :: r) a w :=
  gSeq_pure ho hw _ (fun w' => by
    unfold execOp
    simp only [hop, hx, hy, Sem.run_bind, Sem.run_pure, run_eqGuard_agg w' _ t x y _ _ hg, Result.andThen_ok, run_eql_ints hu he hs xs ys hlx hly, hb]) h
end
end
end Go.Proofs.YtmankjhopfilaaaL
