/- A region whose order is open and which ends in operations that can only come last, in their order: all that stands before them by any order, then those one by one. -/
import Derived.Test.YtdopillligfdiaaDoorCore
namespace Go.Proofs.YtdopillligfdiaaDoor
set_option linter.unusedSimpArgs false
set_option linter.unusedVariables false
open Go.RowKit

def reachB (l : Array Oper) : Nat → Nat → Nat → Bool
  | 0, _, _ => false
  | f + 1, i, j => match l[i]? with
    | some o => o.after.any fun e => Region.binds .any e && (e.on == j || reachB l f e.on j)
    | none => false
/-- Each operation from m on can only run behind all that stand before it. -/
def tailOk (l : Array Oper) (m : Nat) : Bool := (List.range l.size).all fun i => decide (i < m) || (List.range i).all fun j => reachB l l.size i j
theorem reach_listed {l : Array Oper} {listed : Array Bool} (hcl : ∀ j o, l[j]? = some o → listed.getD j false = true → ∀ e ∈ o.after, Region.binds .any e = true → listed.getD e.on false = true) :
    ∀ (f i : Nat) (o : Oper) (j : Nat), l[i]? = some o → (∀ e ∈ o.after, Region.binds .any e = true → listed.getD e.on false = true) → reachB l f i j = true → listed.getD j false = true
  | 0, _, _, _, _, _, h => by cases h
  | f + 1, i, o, j, ho, hd, h => by
    simp only [reachB, ho] at h
    obtain ⟨e, he, hb⟩ := Array.any_eq_true'.1 h
    simp only [Bool.and_eq_true, Bool.or_eq_true, beq_iff_eq] at hb
    have hl := hd e he hb.1
    rcases hb.2 with h1 | h1
    · rw [← h1]; exact hl
    · cases f with
      | zero => cases h1
      | succ f =>
        cases hq : l[e.on]? with
        | none => simp [reachB, hq] at h1
        | some p => exact reach_listed hcl (f + 1) e.on p j hq (hcl e.on p hq hl) h1
theorem count_lt : ∀ (listed : Array Bool) (k : Nat), k ≤ listed.size → (∀ j, listed.getD j false = decide (j < k)) → listed.toList.countP (fun x => x) = k := by
  intro ⟨l⟩ k hk h
  simp only [List.size_toArray] at hk
  have e : l = List.replicate k true ++ List.replicate (l.length - k) false := by
    apply List.ext_getElem?
    intro i
    have hi := h i
    by_cases hil : i < l.length
    · have : l[i] = decide (i < k) := by simpa [hil] using hi
      rw [List.getElem?_eq_getElem hil, this]
      by_cases hik : i < k
      · rw [List.getElem?_append_left (by simpa using hik)]
        simp [List.getElem?_replicate, hik]
      · rw [List.getElem?_append_right (by simp; omega)]
        simp [List.getElem?_replicate, hik]
        omega
    · rw [List.getElem?_eq_none (by omega), List.getElem?_eq_none (by simp; omega)]
  show l.countP (fun x => x) = k
  rw [e, List.countP_append, List.countP_replicate, List.countP_replicate]
  simp
section
variable {P : Program} {Q : Exit → Act → World → Prop}
def tailQ (P : Program) (l : List Oper) (m : Nat) (Q : Exit → Act → World → Prop) : Exit → Act → World → Prop
  | .normal, a, w => wpList P l.toArray (NoPanic Q) (l.drop m) a w
  | e, a, w => Q e a w
theorem wp_otherQ {o : Oper} {a : Act} {w : World} {K : Act → World → Prop} {Q1 Q2 : Exit → Act → World → Prop} (hp : ∀ c a w, Q1 (.panic c) a w → Q2 (.panic c) a w) (ho : LetsOut Q1 → LetsOut Q2)
    (h : o.wp P a w K Q1) : o.wp P a w K Q2 := by
  unfold Oper.wp at *
  generalize (execOp a.eval o).run P w = r at *
  cases r with
  | ok n w' =>
    cases n <;> simp only [Oper.upon] at h ⊢ <;> first
      | exact h
      | (refine Calls.mono h fun e w'' hh => ?_
         cases e <;> first | exact hh | exact hp _ _ _ hh | exact ho hh)
  | halt x w' =>
    cases x <;> simp only [Oper.upon] at h ⊢ <;> first | exact h | exact hp _ _ _ h
theorem stepAt_tail {ops : Array Oper} {l : List Oper} {m : Nat} {o : Oper} {s : Spec} {a : Act} {w : World} (h : StepAt P ops (tailQ P l m Q) o s a w) : StepAt P ops Q o s a w := by
  have hp : ∀ c a w, NoPanic (tailQ P l m Q) (.panic c) a w → NoPanic Q (.panic c) a w := fun _ _ _ h => h
  have ho : LetsOut (NoPanic (tailQ P l m Q)) → LetsOut (NoPanic Q) := fun ⟨a, w, h⟩ => ⟨a, w, h⟩
  unfold StepAt at *
  split
  · rename_i hw
    rw [if_pos hw] at h
    intro K hK
    rcases h K hK with h1 | h1
    · exact .inl (wp_otherQ hp ho h1)
    · exact .inr ⟨h1.1, ho h1.2⟩
  · rename_i hw
    rw [if_neg hw] at h
    exact h
theorem any_of_list {l : List Oper} {m : Nat} (hok : parOk l.toArray = true) (htl : tailOk l.toArray m = true) : ∀ (k fuel : Nat) (listed : Array Bool) (b : Act) (w : World), m ≤ k → k ≤ l.length → listed.size = l.length →
    (∀ j, listed.getD j false = decide (j < k)) → l.length ≤ fuel + k → wpList P l.toArray Q (l.drop k) b w → wpAny P .any l.toArray Q fuel listed b w := by
  have hops : ∀ i : Nat, l.toArray[i]? = l[i]? := fun i => by simp
  have only : ∀ (k : Nat) (listed : Array Bool), m ≤ k → listed.size = l.length → (∀ j, listed.getD j false = decide (j < k)) → ∀ i ∈ Region.ready .any l.toArray listed, i = k ∧ k < l.length := by
    intro k listed hmk hsz hl i hi
    obtain ⟨h0, o, ho', hall⟩ := mem_ready.1 hi
    have hil : i < l.length := by have := (Array.getElem?_eq_some_iff.1 ho').1; simpa using this
    have his : i < listed.size := by omega
    have hun : listed.getD i false = false := by
      simp [his] at h0 ⊢
      exact h0
    have hik : k ≤ i := by
      rw [hl i] at hun
      simpa using hun
    rcases Nat.lt_or_ge k i with h1 | h1
    · exfalso
      have h2 := List.all_eq_true.1 htl i (by simpa using hil)
      simp only [Bool.or_eq_true, decide_eq_true_eq, List.all_eq_true, List.mem_range] at h2
      rcases h2 with h2 | h2
      · omega
      · have h3 := reach_listed (l := l.toArray) (listed := listed) (fun j p hp hj e he hbd => by
          have h4 := parOk_before hok hp he hbd
          rw [hl j] at hj
          rw [hl e.on]
          simp only [decide_eq_true_eq] at hj ⊢
          omega) _ i o k ho' hall (h2 k h1)
        rw [hl k] at h3
        simp at h3
    · exact ⟨by omega, by omega⟩
  have none : ∀ (k : Nat) (listed : Array Bool), k ≤ l.length → listed.size = l.length → (∀ j, listed.getD j false = decide (j < k)) → Region.ready .any l.toArray listed = [] → l.length ≤ k := by
    intro k listed hk hsz hl hr
    rcases Nat.lt_or_ge k l.length with h1 | h1
    · exfalso
      have hm : k ∈ Region.ready .any l.toArray listed := by
        rw [mem_ready]
        refine ⟨?_, l[k], by simp [h1], fun e he hbd => ?_⟩
        · have hks : k < listed.size := by omega
          have h2 := hl k
          simp [hks] at h2 ⊢
          exact h2
        · have h4 := parOk_before hok (i := k) (o := l[k]) (by simp [h1]) he hbd
          rw [hl e.on]
          simpa using h4
      rw [hr] at hm
      cases hm
    · exact h1
  intro k fuel
  induction fuel generalizing k with
  | zero =>
    intro listed b w hmk hk hsz hl hfu h
    have hlk : l.length ≤ k := by omega
    refine ⟨?_, ?_⟩
    · rw [List.eq_nil_iff_forall_not_mem]
      intro i hi
      have := only k listed hmk hsz hl i hi
      omega
    · rw [List.drop_of_length_le hlk] at h
      exact h
  | succ fuel ih =>
    intro listed b w hmk hk hsz hl hfu h
    refine ⟨fun hr => ?_, fun i hi => ?_⟩
    · rw [List.drop_of_length_le (none k listed hk hsz hl hr)] at h
      exact h
    · obtain ⟨hik, hkl⟩ := only k listed hmk hsz hl i hi
      subst hik
      have hd : l.drop i = l[i] :: l.drop (i + 1) := List.drop_eq_getElem_cons hkl
      rw [hd] at h
      have hset : ∀ j, (listed.setIfInBounds i true).getD j false = decide (j < i + 1) := by
        intro j
        by_cases hji : j = i
        · subst hji
          have hjs : j < listed.size := by omega
          simp [hjs]
        · rw [getD_set_ne false (Ne.symm hji), hl j]
          simp only [decide_eq_decide]
          omega
      have next : ∀ b w, wpList P l.toArray Q (l.drop (i + 1)) b w → wpAny P .any l.toArray Q fuel (listed.setIfInBounds i true) b w := fun b w hh =>
        ih (i + 1) _ b w (by omega) (by omega) (by simpa using hsz) hset (by omega) hh
      unfold wpOp
      have hoi : l.toArray[i]? = some l[i] := by simp [hkl]
      rw [hoi]
      simp only
      unfold wpList at h
      split
      · rename_i hw
        rw [if_pos hw] at h
        rcases h with h | h
        · exact .inl (Oper.wp_mono next h)
        · exact .inr h
      · rename_i hw
        rw [if_neg hw] at h
        exact next _ _ h
/-- THE RULE. -/
theorem wp_region_tail {id : Nat} (m : Nat) {l : List Oper} {a : Act} {w : World} (hm : P.follows .mixedOrders = true) (hok : parOk l.toArray = true) (htl : tailOk l.toArray m = true) (hml : m ≤ l.length)
    (hin : (l.all fun o => match o.dst with | some d => decide (d < a.tmps.size) | none => true) = true) {ss : List Spec}
    (h : ParSteps P l.toArray (tailQ P l m Q) w (l.take m) ss [] a) : (Code.region id l.toArray true).wp P Q a w := by
  refine wp_region_noPanic (wp_region_any hm ?_)
  have hops : ∀ i : Nat, l.toArray[i]? = l[i]? := fun i => by simp
  obtain ⟨L, hL⟩ : ∃ L, L = l.take m := ⟨_, rfl⟩
  rw [← hL] at h
  have hLl : L.length = m := by rw [hL, List.length_take]; omega
  have hLi : ∀ i o, L[i]? = some o → l[i]? = some o ∧ i < m := fun i o ho => by
    have hi : i < L.length := (List.getElem?_eq_some_iff.1 ho).1
    rw [hL, List.getElem?_take] at ho
    split at ho
    · exact ⟨ho, by omega⟩
    · cases ho
  have hLo : ∀ i o, i < m → l[i]? = some o → L[i]? = some o := fun i o hi ho => by rw [hL, List.getElem?_take, if_pos hi]; exact ho
  have hlen : ∀ (i : Nat) (o : Oper), L[i]? = some o → ∃ s, ss[i]? = some s := fun i o ho => by
    obtain ⟨s, hs, _⟩ := par_at (env := fun _ => default) L ss [] 0 a h rfl i o ho
    exact ⟨s, hs⟩
  have inb : ∀ (i : Nat) (o : Oper), l[i]? = some o → ∀ d, o.dst = some d → d < a.tmps.size := fun i o ho d hd => by
    have := List.all_eq_true.1 hin o (List.mem_of_getElem? ho)
    simpa [hd] using this
  have key : ∀ (fuel : Nat) (listed : Array Bool) (b : Act) (w1 : World) (env : Nat → Unk), listed.size = l.length → l.length ≤ fuel + listed.toList.countP (fun x => x) → Ext w w1 →
      b = fillD env (fun j => listed.getD j false) L ss 0 a → (∀ j (s : Spec), listed.getD j false = true → ss[j]? = some s → s.fact (env j) w1) →
      (∀ j o, l[j]? = some o → listed.getD j false = true → ∀ e ∈ o.after, Region.binds .any e = true → listed.getD e.on false = true) → (∀ j, m ≤ j → listed.getD j false = false) →
      wpAny P .any l.toArray (NoPanic Q) fuel listed b w1 := by
    intro fuel
    have finish : ∀ (listed : Array Bool) (b : Act) (w1 : World) (env : Nat → Unk), (∀ j, j < m → listed.getD j false = true) → Ext w w1 →
        b = fillD env (fun j => listed.getD j false) L ss 0 a → (∀ j (s : Spec), listed.getD j false = true → ss[j]? = some s → s.fact (env j) w1) → wpList P l.toArray (NoPanic Q) (l.drop m) b w1 := by
      intro listed b w1 env hall hw hb hf
      have e : fillD env (fun j => listed.getD j false) L ss 0 a = fillD env (fun _ => true) L ss 0 a := by
        refine act_ext (by rw [fillD_defers, fillD_defers]) fun t => fillD_agree L ss 0 a a rfl rfl fun j o ho _ => ?_
        simp only [Nat.zero_add]
        exact hall j (hLi j o ho).2
      rw [hb, e]
      exact par_end (Q := tailQ P l m Q) (env := env) L ss [] 0 a h w1 hw (by simp) (fun j s hj hs => by
        simp only [Nat.zero_add]
        exact hf j s (hall j (by omega)) hs)
    have fin : ∀ (listed : Array Bool) (b : Act) (w1 : World) (env : Nat → Unk), (∀ j, j < l.length → listed.getD j false = true) → (∀ j, m ≤ j → listed.getD j false = false) → Ext w w1 →
        b = fillD env (fun j => listed.getD j false) L ss 0 a → (∀ j (s : Spec), listed.getD j false = true → ss[j]? = some s → s.fact (env j) w1) → NoPanic Q .normal b w1 := by
      intro listed b w1 env hall hnt hw hb hf
      have hlm : l.length ≤ m := by
        rcases Nat.lt_or_ge m l.length with h1 | h1
        · have h2 := hall m h1
          rw [hnt m (Nat.le_refl _)] at h2
          cases h2
        · exact h1
      have := finish listed b w1 env (fun j hj => hall j (by omega)) hw hb hf
      rw [List.drop_of_length_le hlm] at this
      exact this
    have allOf : ∀ listed : Array Bool, listed.size = l.length → Region.ready .any l.toArray listed = [] → ∀ j, j < l.length → listed.getD j false = true := by
      intro listed hsz hr j
      induction j using Nat.strongRecOn with
      | _ j ih =>
        intro hj
        cases hb : listed.getD j false with
        | true => rfl
        | false =>
          exfalso
          have hm : j ∈ Region.ready .any l.toArray listed := by
            rw [mem_ready]
            refine ⟨?_, l[j], by simp [hj], fun e he hbd => ih e.on (parOk_before hok (by simp [hj]) he hbd) ?_⟩
            · have hjs : j < listed.size := by omega
              simp [hjs] at hb ⊢
              exact hb
            · have := parOk_before hok (i := j) (o := l[j]) (by simp [hj]) he hbd
              omega
          rw [hr] at hm
          cases hm
    induction fuel with
    | zero =>
      intro listed b w1 env hsz hfu hw hb hf hcl hnt
      have hall : ∀ j, j < l.length → listed.getD j false = true := by
        intro j hj
        have hc : listed.toList.countP (fun x => x) = listed.toList.length := by
          have := List.countP_le_length (p := fun x => x) (l := listed.toList)
          simp only [Array.length_toList] at *
          omega
        have := List.countP_eq_length.1 hc
        have hjs : j < listed.size := by omega
        simp [hjs]
        exact this _ (by simp)
      refine ⟨?_, fin listed b w1 env hall hnt hw hb hf⟩
      rw [List.eq_nil_iff_forall_not_mem]
      intro j hj
      obtain ⟨h0, o, ho, _⟩ := mem_ready.1 hj
      have hjl : j < l.length := by have := (Array.getElem?_eq_some_iff.1 ho).1; simpa using this
      have h1 := hall j hjl
      have hjs : j < listed.size := by omega
      simp [hjs] at h0 h1
      rw [h0] at h1
      cases h1
    | succ fuel ih =>
      intro listed b w1 env hsz hfu hw hb hf hcl hnt
      refine ⟨fun hr => fin listed b w1 env (allOf listed hsz hr) hnt hw hb hf, fun i hi => ?_⟩
      obtain ⟨h0, o, ho', hall⟩ := mem_ready.1 hi
      have ho : l[i]? = some o := by rw [← hops]; exact ho'
      have hil : i < l.length := (List.getElem?_eq_some_iff.1 ho).1
      have his : i < listed.size := by omega
      have hun : listed.getD i false = false := by
        simp [his] at h0 ⊢
        exact h0
      rcases Nat.lt_or_ge i m with him | him
      case inr =>
        have hpre : ∀ j, j < i → listed.getD j false = true := by
          intro j hj
          have h1 := List.all_eq_true.1 htl i (by simpa using hil)
          simp only [Bool.or_eq_true, decide_eq_true_eq, List.all_eq_true, List.mem_range] at h1
          rcases h1 with h1 | h1
          · omega
          · exact reach_listed (l := l.toArray) (fun j o ho => hcl j o (by rw [← hops]; exact ho)) _ i o j ho' hall (h1 j hj)
        have hie : i = m := by
          rcases Nat.lt_or_ge m i with h1 | h1
          · have h2 := hpre m h1
            rw [hnt m (Nat.le_refl _)] at h2
            cases h2
          · omega
        subst hie
        have hw3 := finish listed b w1 env (fun j hj => hpre j hj) hw hb hf
        have hall' : ∀ j, listed.getD j false = decide (j < i) := fun j => by
          by_cases hj : j < i
          · rw [hpre j hj]; simp [hj]
          · rw [hnt j (by omega)]; simp [hj]
        have hcnt : listed.toList.countP (fun x => x) = i := count_lt listed i (by omega) hall'
        have := (any_of_list (P := P) (Q := NoPanic Q) hok htl i (fuel + 1) listed b w1 (Nat.le_refl _) (by omega) hsz hall' (by omega) hw3).2 i hi
        exact this
      have hoL := hLo i o him ho
      obtain ⟨s, hs, gs, hgl, hg, hstep⟩ := par_at (env := env) L ss [] 0 a h rfl i o hoL
      have hb4 : ∀ e ∈ o.after, Region.binds .any e = true → e.on < i := fun e he hbd => parOk_before hok ho' he hbd
      have hst := hstep w1 hw (fun e he hbd => by
        have he' : e ∈ o.after := by simpa using he
        have hlt := hb4 e he' hbd
        obtain ⟨sj, hsj⟩ := hlen e.on (L[e.on]'(by omega)) (by simp)
        have hge := hg e.on sj hlt hsj
        simp only [List.nil_append, List.getD_eq_getElem?_getD, hge, Option.getD_some, Nat.zero_add]
        exact hf e.on sj (hall e he' hbd) hsj)
      simp only [Nat.zero_add] at hst
      -- the canonical frame and the frame at hand agree on what the operation looks at
      have hag : ∀ t ∈ o.looksAt l.toArray, b.tmps[t]? = (fillD env (fun j => decide (j < i)) L ss 0 a).tmps[t]? := by
        intro t ht
        rw [hb]
        refine fillD_agree L ss 0 a a rfl rfl fun j p hpL hpt => ?_
        have hp := (hLi j p hpL).1
        simp only [Nat.zero_add]
        by_cases hji : j = i
        · subst hji; rw [hun]; simp
        · have hpair := (parOk_pair hok ho' (by rw [hops]; exact hp) hji hpt).2 ht
          rcases hpair with hd | hd
          · obtain ⟨e, he, hbd, hej⟩ := depOn_spec hd
            rw [← hej, hall e he hbd]
            simp [hb4 e he hbd]
          · obtain ⟨e, he, hbd, hej⟩ := depOn_spec hd
            have hij : i < j := by rw [← hej]; exact parOk_before hok (by rw [hops]; exact hp) he hbd
            have : listed.getD j false = false := by
              cases hlj : listed.getD j false with
              | false => rfl
              | true => have := hcl j p hp hlj e he hbd; rw [hej, hun] at this; cases this
            rw [this]
            simp; omega
      have hev : ∀ x ∈ o.op.operands, b.eval x = (fillD env (fun j => decide (j < i)) L ss 0 a).eval x := by
        intro x hx
        cases x with
        | tmp t =>
          have := hag t (List.mem_append_left _ (List.mem_filterMap.2 ⟨.tmp t, by simpa using hx, rfl⟩))
          simp [Act.eval, this]
        | _ => rfl
      have hexe : execOp b.eval o = execOp (fillD env (fun j => decide (j < i)) L ss 0 a).eval o :=
        execOp_congr o (fun cs bb => Region.noSelect_spec (parOk_noSelect hok) i o cs bb ho') hev
      have hwan : Region.wanted o (yielded l.toArray b.tmps) = Region.wanted o (yielded l.toArray (fillD env (fun j => decide (j < i)) L ss 0 a).tmps) := by
        unfold Region.wanted
        cases hgd : o.guard with
        | none => rfl
        | some gw =>
          obtain ⟨g, want⟩ := gw
          simp only
          congr 1
          unfold yielded
          cases ht : (l.toArray[g]?).bind (·.dst) with
          | none => rfl
          | some t =>
            have e2 := hag t (List.mem_append_right _ (by simp only [hgd]; rw [ht]; simp))
            simp only [Option.bind_some]
            rw [e2]
      -- what follows behind the operation
      have next : ∀ u w2, s.fact u w2 → Ext w1 w2 → wpAny P .any l.toArray (NoPanic Q) fuel (listed.setIfInBounds i true) (b.put o.dst (s.shape u)) w2 := by
        intro u w2 hfu2 hx
        let env' : Nat → Unk := fun j => if j = i then u else env j
        have hset : ∀ j, (listed.setIfInBounds i true).getD j false = (decide (j = i) || listed.getD j false) := by
          intro j
          by_cases hji : j = i
          · subst hji; simp [his]
          · rw [getD_set_ne false (Ne.symm hji)]; simp [hji]
        have henv : ∀ (l : List Oper) (ss : List Spec) (k : Nat) (a : Act), fillD env (fun j => listed.getD j false) l ss k a = fillD env' (fun j => listed.getD j false) l ss k a := by
          intro l
          induction l with
          | nil => intro ss k a; simp [fillD]
          | cons o r ihl => intro ss k a; cases ss with
            | nil => simp [fillD]
            | cons s ss =>
              simp only [fillD]
              by_cases hki : k = i
              · subst hki
                rw [if_neg (by rw [hun]; simp), if_neg (by rw [hun]; simp)]
                exact ihl _ _ _
              · have : env' k = env k := if_neg hki
                rw [this]
                exact ihl _ _ _
        refine ih _ _ w2 env' (by simpa using hsz) ?_ (hw.trans hx) ?_ (fun j s' hj hs' => ?_) (fun j p hp hj e he hbd => ?_) (fun j hj => by rw [hset, hnt j hj]; simp; omega)
        · have hc : (listed.setIfInBounds i true).toList.countP (fun x => x) = listed.toList.countP (fun x => x) + 1 := by
            have hi' : i < listed.toList.length := by simpa using his
            simp only [Array.toList_setIfInBounds]
            rw [List.countP_set (h := hi')]
            have : listed.toList[i] = false := by
              have := hun
              simp [his] at this
              simpa using this
            rw [this]
            simp
          rw [hc]
          omega
        · rw [hb, henv]
          refine act_ext (by rw [put_defers, fillD_defers, fillD_defers]) fun t => ?_
          by_cases hdt : o.dst = some t
          · rw [hdt, put_eq, fillD_size]
            rw [fillD_at (env := env') L ss 0 a i o s hoL hs hdt (by rw [Nat.zero_add, hset]; simp) (fun j p hpL hji => by
              have hp := (hLi j p hpL).1
              intro hpd
              have h2 := (parOk_pair hok ho' (by rw [hops]; exact hp) hji hpd).1
              exact h2 hdt)]
            simp only [Nat.zero_add]
            have : env' i = u := if_pos rfl
            rw [this]
          · rw [put_ne _ _ _ _ hdt]
            refine fillD_agree L ss 0 a a rfl rfl fun j p hpL hpt => ?_
            have hp := (hLi j p hpL).1
            rw [Nat.zero_add, hset]
            by_cases hji : j = i
            · subst hji; rw [ho] at hp; cases hp; exact absurd hpt hdt
            · simp [hji]
        · rw [hset] at hj
          by_cases hji : j = i
          · subst hji
            rw [hs] at hs'
            cases hs'
            have : env' j = u := if_pos rfl
            rw [this]
            exact hfu2
          · have : env' j = env j := if_neg hji
            rw [this]
            exact s'.mono _ _ _ hx (hf j s' (by simpa [hji] using hj) hs')
        · rw [hset] at hj ⊢
          by_cases hji : j = i
          · subst hji
            rw [ho] at hp
            cases hp
            rw [hall e he hbd]
            simp
          · rw [hcl j p hp (by simpa [hji] using hj) e he hbd]
            simp
      -- the step
      unfold wpOp
      simp only [ho']
      replace hst := stepAt_tail hst
      unfold StepAt at hst
      rw [hwan]
      split
      · rename_i hw'
        rw [if_pos hw'] at hst
        rcases hst (fun a' w' => ∃ v, a' = (fillD env (fun j => decide (j < i)) L ss 0 a).put o.dst v ∧ ∃ u, v = s.shape u ∧ s.fact u w' ∧ Ext w1 w') (fun u w' h1 h2 => ⟨_, rfl, u, rfl, h1, h2⟩) with hs1 | hs1
        · refine .inl (Oper.wp_mono (fun a' w' hh => ?_) (wp_frame hexe (fun d hd => by rw [fillD_size]; exact inb i o ho d hd) hs1))
          obtain ⟨v, rfl, u, rfl, h1, h2⟩ := hh
          exact next u w' h1 h2
        · refine .inr ⟨?_, hs1.2⟩
          have := hs1.1
          unfold Oper.asks at this ⊢
          rw [hexe]
          exact this
      · rename_i hw'
        rw [if_neg hw'] at hst
        obtain ⟨u, hu, h1⟩ := hst
        rw [← hu]
        exact next u w1 h1 (Ext.refl _)
  refine key l.toArray.size _ a _ (fun _ => default) (by simp) (by simp) (Ext.drew w) ?_ (fun j s hj => ?_) (fun j o _ hj => ?_) (fun j _ => ?_)
  · have hnone : ∀ (m : List Oper) (ss : List Spec) (k : Nat) (a : Act), fillD (fun _ => default) (fun j => (Array.replicate l.toArray.size false).getD j false) m ss k a = a := by
      intro m
      induction m with
      | nil => intro ss k a; simp [fillD]
      | cons o r ih => intro ss k a; cases ss with
        | nil => simp [fillD]
        | cons s ss =>
          simp only [fillD]
          rw [if_neg (by simp [Array.getElem?_replicate]; split <;> simp)]
          exact ih ss (k + 1) a
    exact (hnone L ss 0 a).symm
  · exfalso
    simp [Array.getElem?_replicate] at hj
    split at hj <;> simp at hj
  · exfalso
    simp [Array.getElem?_replicate] at hj
    split at hj <;> simp at hj
  · simp [Array.getElem?_replicate]
    split <;> simp

end
end Go.Proofs.YtdopillligfdiaaDoor
