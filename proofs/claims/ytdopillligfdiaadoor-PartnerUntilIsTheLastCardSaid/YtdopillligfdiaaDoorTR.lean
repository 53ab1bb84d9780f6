/- The rule with one operation among the others that writes what is there. -/
import Derived.Test.YtdopillligfdiaaDoorTail
namespace Go.Proofs.YtdopillligfdiaaDoor
set_option linter.unusedSimpArgs false
set_option linter.unusedVariables false
open Go.RowKit

section
variable (P : Program) (ops : Array Oper) (Q : Exit → Act → World → Prop)
def StepG (R : World → World → Prop) (o : Oper) (s : Spec) (a : Act) (w : World) : Prop :=
  if Region.wanted o (yielded ops a.tmps) = true then
    ∀ K : Act → World → Prop, (∀ u w', s.fact u w' → R w w' → K (a.put o.dst (s.shape u)) w') → o.wp P a w K (NoPanic Q) ∨ (o.asks P a w ∧ LetsOut (NoPanic Q))
  else ∃ u, s.shape u = undef ∧ s.fact u w
/-- The writer's number, who can only come behind it, and what may become of memory. -/
structure Ways where
  R : World → World → Prop
  c : Nat
  late : Nat → Bool
  base : ∀ w w', Ext w w' → R w w'
  trans : ∀ a b c, R a b → R b c → R a c
def Ways.sees (W : Ways) (i : Nat) : World → World → Prop := if i = W.c then Ext else W.R
def Ways.does (W : Ways) (i : Nat) : World → World → Prop := if i = W.c then W.R else Ext
theorem Ways.self (W : Ways) (i : Nat) (w : World) : W.does i w w := by
  unfold Ways.does
  split
  · exact W.base _ _ (Ext.refl w)
  · exact Ext.refl w
def ParW (W : Ways) (w0 : World) : Nat → List Oper → List Spec → List (World → Prop) → Act → Prop
  | _, [], _, fs, a => ∀ w, W.R w0 w → (∀ f ∈ fs, f w) → Q .normal a w
  | _, _ :: _, [], _, _ => False
  | i, o :: r, s :: ss, fs, a =>
    (∀ w, W.sees i w0 w → (∀ e ∈ o.after.toList, Region.binds .any e = true → (fs.getD e.on (fun _ => True)) w) → StepG P ops Q (W.does i) o s a w) ∧
    (W.late i = false → ∀ u w w', W.R w w' → s.fact u w → s.fact u w') ∧
    ∀ u, ParW W w0 (i + 1) r ss (fs ++ [s.fact u]) (a.put o.dst (s.shape u))
end
section
variable {P : Program} {Q : Exit → Act → World → Prop}
theorem stepG_tail {R : World → World → Prop} {ops : Array Oper} {l : List Oper} {m : Nat} {o : Oper} {s : Spec} {a : Act} {w : World} (h : StepG P ops (tailQ P l m Q) R o s a w) : StepG P ops Q R o s a w := by
  have hp : ∀ c a w, NoPanic (tailQ P l m Q) (.panic c) a w → NoPanic Q (.panic c) a w := fun _ _ _ h => h
  have ho : LetsOut (NoPanic (tailQ P l m Q)) → LetsOut (NoPanic Q) := fun ⟨a, w, h⟩ => ⟨a, w, h⟩
  unfold StepG at *
  split
  · rename_i hw
    rw [if_pos hw] at h
    intro K hK
    rcases h K hK with h1 | h1
    · exact .inl (wp_otherQ hp ho h1)
    · exact .inr ⟨h1.1, ho h1.2⟩
  · rename_i hw
    rw [if_neg hw] at h
    exact h
theorem parw_at {ops : Array Oper} {W : Ways} {w0 : World} {env : Nat → Unk} : ∀ (l : List Oper) (ss : List Spec) (fs : List (World → Prop)) (k : Nat) (a : Act), ParW P ops Q W w0 k l ss fs a → fs.length = k →
    ∀ (i : Nat) (o : Oper), l[i]? = some o → ∃ s, ss[i]? = some s ∧ ∃ gs : List (World → Prop), gs.length = i ∧ (∀ j (sj : Spec), j < i → ss[j]? = some sj → gs[j]? = some (sj.fact (env (k + j)))) ∧
      (∀ w, W.sees (k + i) w0 w → (∀ e ∈ o.after.toList, Region.binds .any e = true → ((fs ++ gs).getD e.on (fun _ => True)) w) → StepG P ops Q (W.does (k + i)) o s (fillD env (fun j => decide (j < k + i)) l ss k a) w) ∧ (W.late (k + i) = false → ∀ u w w', W.R w w' → s.fact u w → s.fact u w')
  | [], _, _, _, _, _, _, _, _, h => by simp at h
  | _ :: _, [], _, _, _, h, _, _, _, _ => h.elim
  | o' :: r, s' :: ss, fs, k, a, h, hk, 0, o, ho => by
    simp only [List.getElem?_cons_zero, Option.some.injEq] at ho
    subst ho
    refine ⟨s', rfl, [], rfl, fun j _ hj => by omega, fun w hw hf => ?_, h.2.1⟩
    have hnone : ∀ (l : List Oper) (ss : List Spec) (m : Nat) (a : Act), k ≤ m → fillD env (fun j => decide (j < k + 0)) l ss m a = a := by
      intro l
      induction l with
      | nil => intro ss m a _; simp [fillD]
      | cons o r ih => intro ss m a hm; cases ss with
        | nil => simp [fillD]
        | cons s ss => simp only [fillD]; rw [if_neg (by simp; omega)]; exact ih ss (m + 1) a (by omega)
    rw [hnone _ _ _ _ (Nat.le_refl _)]
    exact h.1 w hw (by simpa using hf)
  | o' :: r, s' :: ss, fs, k, a, h, hk, i + 1, o, ho => by
    obtain ⟨s, hs, gs, hl, hg, hstep, hmono⟩ := parw_at r ss (fs ++ [s'.fact (env k)]) (k + 1) _ (h.2.2 (env k)) (by simp [hk]) i o (by simpa using ho)
    refine ⟨s, by simpa using hs, s'.fact (env k) :: gs, by simp [hl], fun j sj hj hsj => ?_, fun w hw hf => ?_, ?_⟩
    · cases j with
      | zero => simp at hsj; subst hsj; rfl
      | succ j => have := hg j sj (by omega) (by simpa using hsj); simpa [Nat.add_assoc, Nat.add_comm 1 j] using this
    · have e : k + 1 + i = k + (i + 1) := by omega
      rw [e] at hstep
      have := hstep w hw (by simpa using hf)
      simp only [fillD]
      rw [if_pos (by simp)]
      exact this
    · have e : k + 1 + i = k + (i + 1) := by omega
      rwa [e] at hmono
theorem parw_end {ops : Array Oper} {W : Ways} {w0 : World} {env : Nat → Unk} : ∀ (l : List Oper) (ss : List Spec) (fs : List (World → Prop)) (k : Nat) (a : Act), ParW P ops Q W w0 k l ss fs a →
    ∀ w, W.R w0 w → (∀ f ∈ fs, f w) → (∀ j (s : Spec), j < l.length → ss[j]? = some s → s.fact (env (k + j)) w) → Q .normal (fillD env (fun _ => true) l ss k a) w
  | [], _, _, _, _, h, w, hw, hf, _ => by simpa [fillD] using h w hw hf
  | _ :: _, [], _, _, _, h, _, _, _, _ => h.elim
  | o :: r, s :: ss, fs, k, a, h, w, hw, hf, hs => by
    simp only [fillD, if_true]
    refine parw_end r ss _ (k + 1) _ (h.2.2 (env k)) w hw (fun f hm => ?_) (fun j s' hj hs' => ?_)
    · rcases List.mem_append.1 hm with hm | hm
      · exact hf f hm
      · simp only [List.mem_singleton] at hm; subst hm; simpa using hs 0 s (by simp) rfl
    · have := hs (j + 1) s' (by simpa using hj) (by simpa using hs')
      simpa [Nat.add_assoc, Nat.add_comm 1 j] using this

/-- THE RULE. -/
theorem wp_region_ways {id : Nat} (m : Nat) (W : Ways) {l : List Oper} {a : Act} {w : World} (hm : P.follows .mixedOrders = true) (hok : parOk l.toArray = true) (htl : tailOk l.toArray m = true) (hml : m ≤ l.length) (hlate : ∀ i, W.late i = true → i ≠ W.c → reachB l.toArray l.toArray.size i W.c = true)
    (hin : (l.all fun o => match o.dst with | some d => decide (d < a.tmps.size) | none => true) = true) {ss : List Spec}
    (h : ParW P l.toArray (tailQ P l m Q) W w 0 (l.take m) ss [] a) : (Code.region id l.toArray true).wp P Q a w := by
  refine wp_region_noPanic (wp_region_any hm ?_)
  have hops : ∀ i : Nat, l.toArray[i]? = l[i]? := fun i => by simp
  obtain ⟨L, hL⟩ : ∃ L, L = l.take m := ⟨_, rfl⟩
  rw [← hL] at h
  have hLl : L.length = m := by rw [hL, List.length_take]; omega
  have hLi : ∀ i o, L[i]? = some o → l[i]? = some o ∧ i < m := fun i o ho => by
    have hi : i < L.length := (List.getElem?_eq_some_iff.1 ho).1
    rw [hL, List.getElem?_take] at ho
    split at ho
    · exact ⟨ho, by omega⟩
    · cases ho
  have hLo : ∀ i o, i < m → l[i]? = some o → L[i]? = some o := fun i o hi ho => by rw [hL, List.getElem?_take, if_pos hi]; exact ho
  have hlen : ∀ (i : Nat) (o : Oper), L[i]? = some o → ∃ s, ss[i]? = some s := fun i o ho => by
    obtain ⟨s, hs, _⟩ := parw_at (env := fun _ => default) L ss [] 0 a h rfl i o ho
    exact ⟨s, hs⟩
  have inb : ∀ (i : Nat) (o : Oper), l[i]? = some o → ∀ d, o.dst = some d → d < a.tmps.size := fun i o ho d hd => by
    have := List.all_eq_true.1 hin o (List.mem_of_getElem? ho)
    simpa [hd] using this
  have key : ∀ (fuel : Nat) (listed : Array Bool) (b : Act) (w1 : World) (env : Nat → Unk), listed.size = l.length → l.length ≤ fuel + listed.toList.countP (fun x => x) → ((listed.getD W.c false = false → Ext w w1) ∧ W.R w w1) →
      b = fillD env (fun j => listed.getD j false) L ss 0 a → (∀ j (s : Spec), listed.getD j false = true → ss[j]? = some s → s.fact (env j) w1) →
      (∀ j o, l[j]? = some o → listed.getD j false = true → ∀ e ∈ o.after, Region.binds .any e = true → listed.getD e.on false = true) → (∀ j, m ≤ j → listed.getD j false = false) →
      wpAny P .any l.toArray (NoPanic Q) fuel listed b w1 := by
    intro fuel
    have finish : ∀ (listed : Array Bool) (b : Act) (w1 : World) (env : Nat → Unk), (∀ j, j < m → listed.getD j false = true) → W.R w w1 →
        b = fillD env (fun j => listed.getD j false) L ss 0 a → (∀ j (s : Spec), listed.getD j false = true → ss[j]? = some s → s.fact (env j) w1) → wpList P l.toArray (NoPanic Q) (l.drop m) b w1 := by
      intro listed b w1 env hall hw hb hf
      have e : fillD env (fun j => listed.getD j false) L ss 0 a = fillD env (fun _ => true) L ss 0 a := by
        refine act_ext (by rw [fillD_defers, fillD_defers]) fun t => fillD_agree L ss 0 a a rfl rfl fun j o ho _ => ?_
        simp only [Nat.zero_add]
        exact hall j (hLi j o ho).2
      rw [hb, e]
      exact parw_end (Q := tailQ P l m Q) (env := env) L ss [] 0 a h w1 hw (by simp) (fun j s hj hs => by
        simp only [Nat.zero_add]
        exact hf j s (hall j (by omega)) hs)
    have fin : ∀ (listed : Array Bool) (b : Act) (w1 : World) (env : Nat → Unk), (∀ j, j < l.length → listed.getD j false = true) → (∀ j, m ≤ j → listed.getD j false = false) → W.R w w1 →
        b = fillD env (fun j => listed.getD j false) L ss 0 a → (∀ j (s : Spec), listed.getD j false = true → ss[j]? = some s → s.fact (env j) w1) → NoPanic Q .normal b w1 := by
      intro listed b w1 env hall hnt hw hb hf
      have hlm : l.length ≤ m := by
        rcases Nat.lt_or_ge m l.length with h1 | h1
        · have h2 := hall m h1
          rw [hnt m (Nat.le_refl _)] at h2
          cases h2
        · exact h1
      have := finish listed b w1 env (fun j hj => hall j (by omega)) hw hb hf
      rw [List.drop_of_length_le hlm] at this
      exact this
    have allOf : ∀ listed : Array Bool, listed.size = l.length → Region.ready .any l.toArray listed = [] → ∀ j, j < l.length → listed.getD j false = true := by
      intro listed hsz hr j
      induction j using Nat.strongRecOn with
      | _ j ih =>
        intro hj
        cases hb : listed.getD j false with
        | true => rfl
        | false =>
          exfalso
          have hm : j ∈ Region.ready .any l.toArray listed := by
            rw [mem_ready]
            refine ⟨?_, l[j], by simp [hj], fun e he hbd => ih e.on (parOk_before hok (by simp [hj]) he hbd) ?_⟩
            · have hjs : j < listed.size := by omega
              simp [hjs] at hb ⊢
              exact hb
            · have := parOk_before hok (i := j) (o := l[j]) (by simp [hj]) he hbd
              omega
          rw [hr] at hm
          cases hm
    induction fuel with
    | zero =>
      intro listed b w1 env hsz hfu hw hb hf hcl hnt
      have hall : ∀ j, j < l.length → listed.getD j false = true := by
        intro j hj
        have hc : listed.toList.countP (fun x => x) = listed.toList.length := by
          have := List.countP_le_length (p := fun x => x) (l := listed.toList)
          simp only [Array.length_toList] at *
          omega
        have := List.countP_eq_length.1 hc
        have hjs : j < listed.size := by omega
        simp [hjs]
        exact this _ (by simp)
      refine ⟨?_, fin listed b w1 env hall hnt hw.2 hb hf⟩
      rw [List.eq_nil_iff_forall_not_mem]
      intro j hj
      obtain ⟨h0, o, ho, _⟩ := mem_ready.1 hj
      have hjl : j < l.length := by have := (Array.getElem?_eq_some_iff.1 ho).1; simpa using this
      have h1 := hall j hjl
      have hjs : j < listed.size := by omega
      simp [hjs] at h0 h1
      rw [h0] at h1
      cases h1
    | succ fuel ih =>
      intro listed b w1 env hsz hfu hw hb hf hcl hnt
      refine ⟨fun hr => fin listed b w1 env (allOf listed hsz hr) hnt hw.2 hb hf, fun i hi => ?_⟩
      obtain ⟨h0, o, ho', hall⟩ := mem_ready.1 hi
      have ho : l[i]? = some o := by rw [← hops]; exact ho'
      have hil : i < l.length := (List.getElem?_eq_some_iff.1 ho).1
      have his : i < listed.size := by omega
      have hun : listed.getD i false = false := by
        simp [his] at h0 ⊢
        exact h0
      rcases Nat.lt_or_ge i m with him | him
      case inr =>
        have hpre : ∀ j, j < i → listed.getD j false = true := by
          intro j hj
          have h1 := List.all_eq_true.1 htl i (by simpa using hil)
          simp only [Bool.or_eq_true, decide_eq_true_eq, List.all_eq_true, List.mem_range] at h1
          rcases h1 with h1 | h1
          · omega
          · exact reach_listed (l := l.toArray) (fun j o ho => hcl j o (by rw [← hops]; exact ho)) _ i o j ho' hall (h1 j hj)
        have hie : i = m := by
          rcases Nat.lt_or_ge m i with h1 | h1
          · have h2 := hpre m h1
            rw [hnt m (Nat.le_refl _)] at h2
            cases h2
          · omega
        subst hie
        have hw3 := finish listed b w1 env (fun j hj => hpre j hj) hw.2 hb hf
        have hall' : ∀ j, listed.getD j false = decide (j < i) := fun j => by
          by_cases hj : j < i
          · rw [hpre j hj]; simp [hj]
          · rw [hnt j (by omega)]; simp [hj]
        have hcnt : listed.toList.countP (fun x => x) = i := count_lt listed i (by omega) hall'
        have := (any_of_list (P := P) (Q := NoPanic Q) hok htl i (fuel + 1) listed b w1 (Nat.le_refl _) (by omega) hsz hall' (by omega) hw3).2 i hi
        exact this
      have hoL := hLo i o him ho
      obtain ⟨s, hs, gs, hgl, hg, hstep, _⟩ := parw_at (env := env) L ss [] 0 a h rfl i o hoL
      have hb4 : ∀ e ∈ o.after, Region.binds .any e = true → e.on < i := fun e he hbd => parOk_before hok ho' he hbd
      have hst := hstep w1 (by
        simp only [Nat.zero_add, Ways.sees]
        split
        · rename_i hic; exact hw.1 (hic ▸ hun)
        · exact hw.2) (fun e he hbd => by
        have he' : e ∈ o.after := by simpa using he
        have hlt := hb4 e he' hbd
        obtain ⟨sj, hsj⟩ := hlen e.on (L[e.on]'(by omega)) (by simp)
        have hge := hg e.on sj hlt hsj
        simp only [List.nil_append, List.getD_eq_getElem?_getD, hge, Option.getD_some, Nat.zero_add]
        exact hf e.on sj (hall e he' hbd) hsj)
      simp only [Nat.zero_add] at hst
      -- the canonical frame and the frame at hand agree on what the operation looks at
      have hag : ∀ t ∈ o.looksAt l.toArray, b.tmps[t]? = (fillD env (fun j => decide (j < i)) L ss 0 a).tmps[t]? := by
        intro t ht
        rw [hb]
        refine fillD_agree L ss 0 a a rfl rfl fun j p hpL hpt => ?_
        have hp := (hLi j p hpL).1
        simp only [Nat.zero_add]
        by_cases hji : j = i
        · subst hji; rw [hun]; simp
        · have hpair := (parOk_pair hok ho' (by rw [hops]; exact hp) hji hpt).2 ht
          rcases hpair with hd | hd
          · obtain ⟨e, he, hbd, hej⟩ := depOn_spec hd
            rw [← hej, hall e he hbd]
            simp [hb4 e he hbd]
          · obtain ⟨e, he, hbd, hej⟩ := depOn_spec hd
            have hij : i < j := by rw [← hej]; exact parOk_before hok (by rw [hops]; exact hp) he hbd
            have : listed.getD j false = false := by
              cases hlj : listed.getD j false with
              | false => rfl
              | true => have := hcl j p hp hlj e he hbd; rw [hej, hun] at this; cases this
            rw [this]
            simp; omega
      have hev : ∀ x ∈ o.op.operands, b.eval x = (fillD env (fun j => decide (j < i)) L ss 0 a).eval x := by
        intro x hx
        cases x with
        | tmp t =>
          have := hag t (List.mem_append_left _ (List.mem_filterMap.2 ⟨.tmp t, by simpa using hx, rfl⟩))
          simp [Act.eval, this]
        | _ => rfl
      have hexe : execOp b.eval o = execOp (fillD env (fun j => decide (j < i)) L ss 0 a).eval o :=
        execOp_congr o (fun cs bb => Region.noSelect_spec (parOk_noSelect hok) i o cs bb ho') hev
      have hwan : Region.wanted o (yielded l.toArray b.tmps) = Region.wanted o (yielded l.toArray (fillD env (fun j => decide (j < i)) L ss 0 a).tmps) := by
        unfold Region.wanted
        cases hgd : o.guard with
        | none => rfl
        | some gw =>
          obtain ⟨g, want⟩ := gw
          simp only
          congr 1
          unfold yielded
          cases ht : (l.toArray[g]?).bind (·.dst) with
          | none => rfl
          | some t =>
            have e2 := hag t (List.mem_append_right _ (by simp only [hgd]; rw [ht]; simp))
            simp only [Option.bind_some]
            rw [e2]
      -- what follows behind the operation
      have next : ∀ u w2, s.fact u w2 → W.does i w1 w2 → wpAny P .any l.toArray (NoPanic Q) fuel (listed.setIfInBounds i true) (b.put o.dst (s.shape u)) w2 := by
        intro u w2 hfu2 hx
        let env' : Nat → Unk := fun j => if j = i then u else env j
        have hset : ∀ j, (listed.setIfInBounds i true).getD j false = (decide (j = i) || listed.getD j false) := by
          intro j
          by_cases hji : j = i
          · subst hji; simp [his]
          · rw [getD_set_ne false (Ne.symm hji)]; simp [hji]
        have henv : ∀ (l : List Oper) (ss : List Spec) (k : Nat) (a : Act), fillD env (fun j => listed.getD j false) l ss k a = fillD env' (fun j => listed.getD j false) l ss k a := by
          intro l
          induction l with
          | nil => intro ss k a; simp [fillD]
          | cons o r ihl => intro ss k a; cases ss with
            | nil => simp [fillD]
            | cons s ss =>
              simp only [fillD]
              by_cases hki : k = i
              · subst hki
                rw [if_neg (by rw [hun]; simp), if_neg (by rw [hun]; simp)]
                exact ihl _ _ _
              · have : env' k = env k := if_neg hki
                rw [this]
                exact ihl _ _ _
        refine ih _ _ w2 env' (by simpa using hsz) ?_ ⟨fun hc => ?_, ?_⟩ ?_ (fun j s' hj hs' => ?_) (fun j p hp hj e he hbd => ?_) (fun j hj => by rw [hset, hnt j hj]; simp; omega)
        · have hc : (listed.setIfInBounds i true).toList.countP (fun x => x) = listed.toList.countP (fun x => x) + 1 := by
            have hi' : i < listed.toList.length := by simpa using his
            simp only [Array.toList_setIfInBounds]
            rw [List.countP_set (h := hi')]
            have : listed.toList[i] = false := by
              have := hun
              simp [his] at this
              simpa using this
            rw [this]
            simp
          rw [hc]
          omega
        · rw [hset] at hc
          have hci : i ≠ W.c := fun e => by subst e; simp at hc
          simp only [Ways.does, if_neg hci] at hx
          exact (hw.1 (by simpa [Ne.symm hci] using hc)).trans hx
        · refine W.trans _ _ _ hw.2 ?_
          simp only [Ways.does] at hx
          split at hx
          · exact hx
          · exact W.base _ _ hx
        · rw [hb, henv]
          refine act_ext (by rw [put_defers, fillD_defers, fillD_defers]) fun t => ?_
          by_cases hdt : o.dst = some t
          · rw [hdt, put_eq, fillD_size]
            rw [fillD_at (env := env') L ss 0 a i o s hoL hs hdt (by rw [Nat.zero_add, hset]; simp) (fun j p hpL hji => by
              have hp := (hLi j p hpL).1
              intro hpd
              have h2 := (parOk_pair hok ho' (by rw [hops]; exact hp) hji hpd).1
              exact h2 hdt)]
            simp only [Nat.zero_add]
            have : env' i = u := if_pos rfl
            rw [this]
          · rw [put_ne _ _ _ _ hdt]
            refine fillD_agree L ss 0 a a rfl rfl fun j p hpL hpt => ?_
            have hp := (hLi j p hpL).1
            rw [Nat.zero_add, hset]
            by_cases hji : j = i
            · subst hji; rw [ho] at hp; cases hp; exact absurd hpt hdt
            · simp [hji]
        · rw [hset] at hj
          by_cases hji : j = i
          · subst hji
            rw [hs] at hs'
            cases hs'
            have : env' j = u := if_pos rfl
            rw [this]
            exact hfu2
          · have : env' j = env j := if_neg hji
            rw [this]
            have hj0 : listed.getD j false = true := by simpa [hji] using hj
            have hold := hf j s' hj0 hs'
            simp only [Ways.does] at hx
            split at hx
            · rename_i hic
              have hjl : j < l.length := by
                rcases Nat.lt_or_ge j l.length with h1 | h1
                · exact h1
                · have : ¬ j < listed.size := by omega
                  simp [this] at hj0
              have hjm : j < m := by
                rcases Nat.lt_or_ge j m with h1 | h1
                · exact h1
                · rw [hnt j h1] at hj0; cases hj0
              obtain ⟨s2, hs2, _, _, _, _, hmono⟩ := parw_at (env := env) L ss [] 0 a h rfl j l[j] (hLo j _ hjm (by simp))
              rw [hs'] at hs2
              cases hs2
              rw [Nat.zero_add] at hmono
              refine hmono ?_ _ _ _ hx hold
              cases hlj : W.late j with
              | false => rfl
              | true =>
                exfalso
                have hjc : j ≠ W.c := fun e => hji (e.trans hic.symm)
                have := reach_listed (l := l.toArray) (fun j o ho => hcl j o (by rw [← hops]; exact ho)) _ j l[j] W.c (by simp [hjl]) (hcl j l[j] (by simp [hjl]) hj0) (hlate j hlj hjc)
                rw [← hic, hun] at this
                cases this
            · exact s'.mono _ _ _ hx hold
        · rw [hset] at hj ⊢
          by_cases hji : j = i
          · subst hji
            rw [ho] at hp
            cases hp
            rw [hall e he hbd]
            simp
          · rw [hcl j p hp (by simpa [hji] using hj) e he hbd]
            simp
      -- the step
      unfold wpOp
      simp only [ho']
      replace hst := stepG_tail hst
      unfold StepG at hst
      rw [hwan]
      split
      · rename_i hw'
        rw [if_pos hw'] at hst
        rcases hst (fun a' w' => ∃ v, a' = (fillD env (fun j => decide (j < i)) L ss 0 a).put o.dst v ∧ ∃ u, v = s.shape u ∧ s.fact u w' ∧ W.does i w1 w') (fun u w' h1 h2 => ⟨_, rfl, u, rfl, h1, h2⟩) with hs1 | hs1
        · refine .inl (Oper.wp_mono (fun a' w' hh => ?_) (wp_frame hexe (fun d hd => by rw [fillD_size]; exact inb i o ho d hd) hs1))
          obtain ⟨v, rfl, u, rfl, h1, h2⟩ := hh
          exact next u w' h1 h2
        · refine .inr ⟨?_, hs1.2⟩
          have := hs1.1
          unfold Oper.asks at this ⊢
          rw [hexe]
          exact this
      · rename_i hw'
        rw [if_neg hw'] at hst
        obtain ⟨u, hu, h1⟩ := hst
        rw [← hu]
        exact next u w1 h1 (W.self i w1)
  refine key l.toArray.size _ a _ (fun _ => default) (by simp) (by simp) ⟨fun _ => Ext.drew w, W.base _ _ (Ext.drew w)⟩ ?_ (fun j s hj => ?_) (fun j o _ hj => ?_) (fun j _ => ?_)
  · have hnone : ∀ (m : List Oper) (ss : List Spec) (k : Nat) (a : Act), fillD (fun _ => default) (fun j => (Array.replicate l.toArray.size false).getD j false) m ss k a = a := by
      intro m
      induction m with
      | nil => intro ss k a; simp [fillD]
      | cons o r ih => intro ss k a; cases ss with
        | nil => simp [fillD]
        | cons s ss =>
          simp only [fillD]
          rw [if_neg (by simp [Array.getElem?_replicate]; split <;> simp)]
          exact ih ss (k + 1) a
    exact (hnone L ss 0 a).symm
  · exfalso
    simp [Array.getElem?_replicate] at hj
    split at hj <;> simp at hj
  · exfalso
    simp [Array.getElem?_replicate] at hj
    split at hj <;> simp at hj
  · simp [Array.getElem?_replicate]
    split <;> simp

end
end Go.Proofs.YtdopillligfdiaaDoor
