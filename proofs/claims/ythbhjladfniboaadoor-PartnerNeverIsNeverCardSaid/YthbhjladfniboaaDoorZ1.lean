/- The rule for a region whose order Go leaves open, when every operation only adds to memory: one step an operation, whatever the order. Rules for single operations, for whatever program: what an operation leaves, from what its operands are. No search, no rewriting by hypotheses. The rules of XRules, for the next operation of a list (l_) and of a region whose order is open (p_). (Written by wip/genrules.py.). The rule for a slice that is written out. A region whose order is open and which ends in operations that can only come last, in their order: all that stands before them by any order, then those one by one. A slice that the call itself makes and appends to. '==' between structs whose fields are whole numbers, texts and truth values. Data that memory holds, as plain trees: what cells and values represent, who may write which block, and what a step of the machine leaves of it. What may be forgotten of data; frames of slots. Maps whose keys and elements are numbers, texts, truth values or structs of texts: single operations. The data of the chapter on partners, and what its functions compute: plain definitions. -/
import Derived.WalkKit
import Derived.Orders
import Derived.Lib.Hide
import Derived.Deep.DeepCutAuto
import Derived.Deep.CutBlock
import Derived.Deep.RegionHeld3
import Derived.Laws.AppendOwnNone
import Derived.MapKept
import Derived.WideKeyRuns
namespace Go.Proofs.YthbhjladfniboaaDoor
set_option linter.unusedSimpArgs false
set_option linter.unusedVariables false
open Go.RowKit

/-- All that was there is as it was. -/
def Ext (w w' : World) : Prop := Below w.heap.size w w'
theorem Ext.refl (w : World) : Ext w w := Below.refl _ w
theorem Ext.trans {a b c : World} (h : Ext a b) (k : Ext b c) : Ext a c := Below.trans h (Below.mono k h.size)
theorem Ext.drew (w : World) : Ext w w.drew := (Below.refl _ w).drew
theorem Ext.alloc (w : World) (o : Obj) : Ext w (w.alloc o) := (Below.refl _ w).alloc (Nat.le_refl _) o
theorem Ext.cell {w w' : World} (h : Ext w w') {p : Addr} {v : Value} (hc : w.cell? p = some v) : w'.cell? p = some v :=
  (Below.cell h (block_lt_of_cell hc)).trans hc
theorem Ext.sizeOf {w w' : World} (h : Ext w w') : w.heap.size ≤ w'.heap.size := Below.size h
theorem Ext.below {w w' : World} (h : Ext w w') : Below w.heap.size w w' := h

/-- What an operation leaves: a value made of something unknown, and a fact that lasts. -/
abbrev Unk := Nat × Nat × Value
structure Spec where
  shape : Unk → Value
  fact : Unk → World → Prop
  mono : ∀ u w w', Ext w w' → fact u w → fact u w'
def Spec.det (e : Value) : Spec := ⟨fun _ => e, fun _ _ => True, fun _ _ _ _ h => h⟩
/-- A block that is known whole. -/
def Blk (w : World) (g : Nat) (t : TypeId) (cs : Array Value) : Prop := w.heap[g]? = some (.cells cs t (0, 0))
theorem Blk.lt {w : World} {g : Nat} {t : TypeId} {cs : Array Value} (h : Blk w g t cs) : g < w.heap.size := by
  rcases Nat.lt_or_ge g w.heap.size with hlt | hge
  · exact hlt
  · unfold Blk at h; rw [Array.getElem?_eq_none hge] at h; cases h
theorem Blk.ext {w w' : World} {g : Nat} {t : TypeId} {cs : Array Value} (h : Blk w g t cs) (hx : Ext w w') : Blk w' g t cs := (Below.block hx g h.lt).trans h
theorem Blk.cell {w : World} {g : Nat} {t : TypeId} {cs : Array Value} (h : Blk w g t cs) (i : Nat) : w.cell? ⟨g, i, none⟩ = cs[i]? := cell_of_row w g i cs t (0, 0) h
theorem Blk.frozen {w : World} {g : Nat} {t : TypeId} {cs : Array Value} (h : Blk w g t cs) (i : Nat) : w.frozen? ⟨g, i, none⟩ = false := by
  unfold Blk at h
  simp [World.frozen?, h]
theorem Blk.new (w : World) (t : TypeId) (cs : Array Value) : Blk (w.alloc (.cells cs t)) w.heap.size t cs := heap_alloc_new w _
/-- A new block of the operation's own. -/
def Spec.blk (sh : Nat → Value) (t : TypeId) (cs : Array Value) : Spec := ⟨fun u => sh u.1, fun u w => Blk w u.1 t cs, fun _ _ _ h k => k.ext h⟩
/-- A value of which something lasting is known. -/
def Spec.some' (R : Value → World → Prop) (h : ∀ v w w', Ext w w' → R v w → R v w') : Spec := ⟨fun u => u.2.2, fun u w => R u.2.2 w, fun u w w' hx hr => h u.2.2 w w' hx hr⟩
theorem Ext.rules {w w' : World} (h : Ext w w') : (∀ b o, b < w.heap.size → w'.cell? ⟨b, o, none⟩ = w.cell? ⟨b, o, none⟩) ∧ (∀ b o, b < w.heap.size → w'.frozen? ⟨b, o, none⟩ = w.frozen? ⟨b, o, none⟩) :=
  ⟨fun b o hb => Below.cell (p := ⟨b, o, none⟩) h hb, fun b o hb => Below.frozen (p := ⟨b, o, none⟩) h hb⟩

section
variable (P : Program) (ops : Array Oper) (Q : Exit → Act → World → Prop)
def StepAt (o : Oper) (s : Spec) (a : Act) (w : World) : Prop :=
  if Region.wanted o (yielded ops a.tmps) = true then
    ∀ K : Act → World → Prop, (∀ u w', s.fact u w' → Ext w w' → K (a.put o.dst (s.shape u)) w') → o.wp P a w K (NoPanic Q) ∨ (o.asks P a w ∧ LetsOut (NoPanic Q))
  else ∃ u, s.shape u = undef ∧ s.fact u w

def ParSteps (w0 : World) : List Oper → List Spec → List (World → Prop) → Act → Prop
  | [], _, fs, a => ∀ w, Ext w0 w → (∀ f ∈ fs, f w) → Q .normal a w
  | _ :: _, [], _, _ => False
  | o :: r, s :: ss, fs, a =>
    (∀ w, Ext w0 w → (∀ e ∈ o.after.toList, Region.binds .any e = true → (fs.getD e.on (fun _ => True)) w) → StepAt P ops Q o s a w) ∧
    ∀ u, ParSteps w0 r ss (fs ++ [s.fact u]) (a.put o.dst (s.shape u))
end

def depOn (o : Oper) (j : Nat) : Bool := o.after.any fun e => Region.binds .any e && e.on == j
def parOk (ops : Array Oper) : Bool :=
  Region.noSelect ops && (List.range ops.size).all fun i => match ops[i]? with
    | some o => (o.after.all fun e => !Region.binds .any e || decide (e.on < i)) &&
        (List.range ops.size).all fun k => k == i || match ops[k]? with
          | some p => match p.dst with
            | none => true
            | some d => o.dst != some d && (!(o.looksAt ops).contains d || depOn o k || depOn p i)
          | none => true
    | none => true

theorem depOn_spec {o : Oper} {j : Nat} (h : depOn o j = true) : ∃ e ∈ o.after, Region.binds .any e = true ∧ e.on = j := by
  unfold depOn at h
  obtain ⟨e, he, hb⟩ := Array.any_eq_true'.1 h
  simp only [Bool.and_eq_true, beq_iff_eq] at hb
  exact ⟨e, he, hb.1, hb.2⟩

section
variable {ops : Array Oper}
theorem parOk_before (h : parOk ops = true) {i : Nat} {o : Oper} (ho : ops[i]? = some o) {e : Edge} (he : e ∈ o.after) (hb : Region.binds .any e = true) : e.on < i := by
  simp only [parOk, Bool.and_eq_true, List.all_eq_true, List.mem_range] at h
  have h1 := h.2 i (Array.getElem?_eq_some_iff.1 ho).1
  simp only [ho, Bool.and_eq_true] at h1
  have h2 := Array.all_eq_true_iff_forall_mem.1 h1.1 e he
  simpa [hb] using h2
theorem parOk_pair (h : parOk ops = true) {i k : Nat} {o p : Oper} (ho : ops[i]? = some o) (hp : ops[k]? = some p) (hki : k ≠ i) {d : Tmp} (hd : p.dst = some d) :
    o.dst ≠ some d ∧ (d ∈ o.looksAt ops → depOn o k = true ∨ depOn p i = true) := by
  simp only [parOk, Bool.and_eq_true, List.all_eq_true, List.mem_range] at h
  have h1 := h.2 i (Array.getElem?_eq_some_iff.1 ho).1
  simp only [ho, Bool.and_eq_true, List.all_eq_true, List.mem_range] at h1
  have h2 := h1.2 k (Array.getElem?_eq_some_iff.1 hp).1
  simp only [hp, hd, Bool.or_eq_true, beq_iff_eq, hki, false_or, Bool.and_eq_true, bne_iff_ne, ne_eq, Bool.not_eq_true'] at h2
  refine ⟨h2.1, fun hm => ?_⟩
  rcases h2.2 with (h3 | h3) | h3
  · simp [hm] at h3
  · exact .inl h3
  · exact .inr h3
theorem parOk_noSelect (h : parOk ops = true) : Region.noSelect ops = true := by
  simp only [parOk, Bool.and_eq_true] at h
  exact h.1
end

/-- The frame behind those that are done, in the order of the text. -/
def fillD (env : Nat → Unk) (done : Nat → Bool) : List Oper → List Spec → Nat → Act → Act
  | o :: r, s :: ss, k, a => fillD env done r ss (k + 1) (if done k = true then a.put o.dst (s.shape (env k)) else a)
  | _, _, _, a => a

theorem put_defers (a : Act) (d : Option Tmp) (v : Value) : (a.put d v).defers = a.defers := by cases d <;> rfl
theorem put_size (a : Act) (d : Option Tmp) (v : Value) : (a.put d v).tmps.size = a.tmps.size := by cases d <;> simp [Act.put]
theorem put_ne (a : Act) (d : Option Tmp) (v : Value) (t : Tmp) (h : d ≠ some t) : (a.put d v).tmps[t]? = a.tmps[t]? := by
  cases d with
  | none => rfl
  | some x => simp [Act.put, Array.getElem?_setIfInBounds_ne (fun e => h (by rw [e]) : x ≠ t)]
theorem put_eq (a : Act) (v : Value) (t : Tmp) : (a.put (some t) v).tmps[t]? = if t < a.tmps.size then some v else none := by
  simp [Act.put, Array.getElem?_setIfInBounds]
theorem act_ext {a b : Act} (hd : a.defers = b.defers) (ht : ∀ t : Nat, a.tmps[t]? = b.tmps[t]?) : a = b := by
  cases a with | mk x d => cases b with | mk y e =>
    simp only at hd ht
    have : x = y := Array.ext_getElem? ht
    subst this hd
    rfl

section
variable {env : Nat → Unk}
theorem fillD_defers {done : Nat → Bool} : ∀ (l : List Oper) (ss : List Spec) (k : Nat) (a : Act), (fillD env done l ss k a).defers = a.defers
  | [], _, _, _ => by simp [fillD]
  | _ :: _, [], _, _ => by simp [fillD]
  | o :: r, s :: ss, k, a => by
    simp only [fillD]
    rw [fillD_defers r ss]
    split
    · exact put_defers _ _ _
    · rfl
theorem fillD_size {done : Nat → Bool} : ∀ (l : List Oper) (ss : List Spec) (k : Nat) (a : Act), (fillD env done l ss k a).tmps.size = a.tmps.size
  | [], _, _, _ => by simp [fillD]
  | _ :: _, [], _, _ => by simp [fillD]
  | o :: r, s :: ss, k, a => by
    simp only [fillD]
    rw [fillD_size r ss]
    split
    · exact put_size _ _ _
    · rfl
/-- Two sets of what is done that agree on the writers of a slot. -/
theorem fillD_agree {d1 d2 : Nat → Bool} {t : Tmp} : ∀ (l : List Oper) (ss : List Spec) (k : Nat) (a1 a2 : Act), a1.tmps.size = a2.tmps.size → a1.tmps[t]? = a2.tmps[t]? →
    (∀ j o, l[j]? = some o → o.dst = some t → d1 (k + j) = d2 (k + j)) → (fillD env d1 l ss k a1).tmps[t]? = (fillD env d2 l ss k a2).tmps[t]?
  | [], _, _, _, _, _, h, _ => by simpa [fillD] using h
  | _ :: _, [], _, _, _, _, h, _ => by simpa [fillD] using h
  | o :: r, s :: ss, k, a1, a2, hs, h, hd => by
    simp only [fillD]
    refine fillD_agree r ss (k + 1) _ _ ?_ ?_ (fun j o' ho hdst => ?_)
    · split <;> split <;> simp [put_size, hs]
    · by_cases ht : o.dst = some t
      · have h0 := hd 0 o rfl ht
        simp only [Nat.add_zero] at h0
        rw [h0]
        split
        · rw [ht, put_eq, put_eq, hs]
        · exact h
      · split <;> split <;> simp only [put_ne _ _ _ _ ht, h]
    · have := hd (j + 1) o' (by simpa using ho) hdst
      simpa [Nat.add_assoc, Nat.add_comm 1 j] using this
/-- The only writer of a slot is done: the slot holds what it wrote. -/
theorem fillD_at {done : Nat → Bool} {t : Tmp} : ∀ (l : List Oper) (ss : List Spec) (k : Nat) (a : Act) (i : Nat) (o : Oper) (s : Spec), l[i]? = some o → ss[i]? = some s → o.dst = some t → done (k + i) = true →
    (∀ j p, l[j]? = some p → j ≠ i → p.dst ≠ some t) → (fillD env done l ss k a).tmps[t]? = if t < a.tmps.size then some (s.shape (env (k + i))) else none
  | [], _, _, _, i, _, _, h, _, _, _, _ => by simp at h
  | _ :: _, [], _, _, i, _, _, _, h, _, _, _ => by simp at h
  | o' :: r, s' :: ss, k, a, 0, o, s, h, hs, ht, hd, hu => by
    simp only [List.getElem?_cons_zero, Option.some.injEq] at h hs
    subst h hs
    simp only [Nat.add_zero] at hd
    simp only [fillD, hd, if_true, Nat.add_zero]
    have hag := fillD_agree (env := env) (d1 := done) (d2 := fun _ => false) (t := t) r ss (k + 1) (a.put o'.dst (s'.shape (env k))) (a.put o'.dst (s'.shape (env k))) rfl rfl (fun j p hp hdst => absurd hdst (hu (j + 1) p (by simpa using hp) (by omega)))
    rw [hag]
    have hnone : ∀ (l : List Oper) (ss : List Spec) (k : Nat) (a : Act), fillD env (fun _ => false) l ss k a = a := by
      intro l
      induction l with
      | nil => intro ss k a; simp [fillD]
      | cons o r ih => intro ss k a; cases ss with
        | nil => simp [fillD]
        | cons s ss => simp [fillD, ih]
    rw [hnone, ht, put_eq]
  | o' :: r, s' :: ss, k, a, i + 1, o, s, h, hs, ht, hd, hu => by
    simp only [fillD]
    have := fillD_at r ss (k + 1) (if done k = true then a.put o'.dst (s'.shape (env k)) else a) i o s (by simpa using h) (by simpa using hs) ht (by simpa [Nat.add_assoc, Nat.add_comm 1 i] using hd)
      (fun j p hp hji => hu (j + 1) p (by simpa using hp) (by omega))
    rw [this]
    have e : k + 1 + i = k + (i + 1) := by omega
    rw [e]
    have hsz : (if done k = true then a.put o'.dst (s'.shape (env k)) else a).tmps.size = a.tmps.size := by split <;> simp [put_size]
    rw [hsz]
end

/-- The same operation over two frames that agree on what it looks at. -/
theorem wp_frame {P : Program} {Q : Exit → Act → World → Prop} {o : Oper} {a b : Act} {w : World} {K : Value → World → Prop} (he : execOp a.eval o = execOp b.eval o)
    (hin : ∀ d, o.dst = some d → d < b.tmps.size)
    (h : o.wp P b w (fun a' w' => ∃ v, a' = b.put o.dst v ∧ K v w') (NoPanic Q)) : o.wp P a w (fun a' w' => ∃ v, a' = a.put o.dst v ∧ K v w') (NoPanic Q) := by
  unfold Oper.wp at *
  rw [he]
  have key : ∀ v w', (∃ u, b.put o.dst v = b.put o.dst u ∧ K u w') → ∃ u, a.put o.dst v = a.put o.dst u ∧ K u w' := by
    rintro v w' ⟨u, hu, hk⟩
    refine ⟨u, ?_, hk⟩
    cases hd : o.dst with
    | none => rfl
    | some d =>
      rw [hd] at hu
      have hlt := hin d hd
      have := congrArg (fun x : Act => x.tmps[d]?) hu
      simp only [put_eq, hlt, if_true, Option.some.injEq] at this
      rw [this]
  cases hr : (execOp b.eval o).run P w with
  | ok n w' =>
    rw [hr] at h
    cases n with
    | value v => exact key v w' h
    | skip => exact key undef w' h
    | defer d =>
      obtain ⟨v, hv, _⟩ := h
      have := congrArg Act.defers hv
      rw [put_defers, put_defers] at this
      simp at this
    | enter f args => exact Calls.mono h (fun e w'' he => by cases e <;> first | exact key _ _ he | exact he)
    | row row args => exact Rows.mono h (fun v w'' he => key _ _ he)
    | _ => exact h.elim
  | halt x w' =>
    rw [hr] at h
    cases x <;> first | exact h | exact h.elim

section
variable {P : Program} {Q : Exit → Act → World → Prop}
theorem par_at {ops : Array Oper} {w0 : World} {env : Nat → Unk} : ∀ (l : List Oper) (ss : List Spec) (fs : List (World → Prop)) (k : Nat) (a : Act), ParSteps P ops Q w0 l ss fs a → fs.length = k →
    ∀ (i : Nat) (o : Oper), l[i]? = some o → ∃ s, ss[i]? = some s ∧ ∃ gs : List (World → Prop), gs.length = i ∧ (∀ j (sj : Spec), j < i → ss[j]? = some sj → gs[j]? = some (sj.fact (env (k + j)))) ∧
      ∀ w, Ext w0 w → (∀ e ∈ o.after.toList, Region.binds .any e = true → ((fs ++ gs).getD e.on (fun _ => True)) w) → StepAt P ops Q o s (fillD env (fun j => decide (j < k + i)) l ss k a) w
  | [], _, _, _, _, _, _, _, _, h => by simp at h
  | _ :: _, [], _, _, _, h, _, _, _, _ => h.elim
  | o' :: r, s' :: ss, fs, k, a, h, hk, 0, o, ho => by
    simp only [List.getElem?_cons_zero, Option.some.injEq] at ho
    subst ho
    refine ⟨s', rfl, [], rfl, fun j _ hj => by omega, fun w hw hf => ?_⟩
    have hnone : ∀ (l : List Oper) (ss : List Spec) (m : Nat) (a : Act), k ≤ m → fillD env (fun j => decide (j < k + 0)) l ss m a = a := by
      intro l
      induction l with
      | nil => intro ss m a _; simp [fillD]
      | cons o r ih => intro ss m a hm; cases ss with
        | nil => simp [fillD]
        | cons s ss => simp only [fillD]; rw [if_neg (by simp; omega)]; exact ih ss (m + 1) a (by omega)
    rw [hnone _ _ _ _ (Nat.le_refl _)]
    exact h.1 w hw (by simpa using hf)
  | o' :: r, s' :: ss, fs, k, a, h, hk, i + 1, o, ho => by
    obtain ⟨s, hs, gs, hl, hg, hstep⟩ := par_at r ss (fs ++ [s'.fact (env k)]) (k + 1) _ (h.2 (env k)) (by simp [hk]) i o (by simpa using ho)
    refine ⟨s, by simpa using hs, s'.fact (env k) :: gs, by simp [hl], fun j sj hj hsj => ?_, fun w hw hf => ?_⟩
    · cases j with
      | zero => simp at hsj; subst hsj; rfl
      | succ j => have := hg j sj (by omega) (by simpa using hsj); simpa [Nat.add_assoc, Nat.add_comm 1 j] using this
    · have := hstep w hw (by simpa using hf)
      simp only [fillD]
      rw [if_pos (by simp)]
      have e : k + 1 + i = k + (i + 1) := by omega
      rwa [e] at this
theorem par_end {ops : Array Oper} {w0 : World} {env : Nat → Unk} : ∀ (l : List Oper) (ss : List Spec) (fs : List (World → Prop)) (k : Nat) (a : Act), ParSteps P ops Q w0 l ss fs a →
    ∀ w, Ext w0 w → (∀ f ∈ fs, f w) → (∀ j (s : Spec), j < l.length → ss[j]? = some s → s.fact (env (k + j)) w) → Q .normal (fillD env (fun _ => true) l ss k a) w
  | [], _, _, _, _, h, w, hw, hf, _ => by simpa [fillD] using h w hw hf
  | _ :: _, [], _, _, _, h, _, _, _, _ => h.elim
  | o :: r, s :: ss, fs, k, a, h, w, hw, hf, hs => by
    simp only [fillD, if_true]
    refine par_end r ss _ (k + 1) _ (h.2 (env k)) w hw (fun f hm => ?_) (fun j s' hj hs' => ?_)
    · rcases List.mem_append.1 hm with hm | hm
      · exact hf f hm
      · simp only [List.mem_singleton] at hm; subst hm; simpa using hs 0 s (by simp) rfl
    · have := hs (j + 1) s' (by simpa using hj) (by simpa using hs')
      simpa [Nat.add_assoc, Nat.add_comm 1 j] using this

/-- THE RULE. -/
theorem wp_region_par {id : Nat} {l : List Oper} {a : Act} {w : World} (hm : P.follows .mixedOrders = true) (hok : parOk l.toArray = true)
    (hin : (l.all fun o => match o.dst with | some d => decide (d < a.tmps.size) | none => true) = true) {ss : List Spec}
    (h : ParSteps P l.toArray Q w l ss [] a) : (Code.region id l.toArray true).wp P Q a w := by
  refine wp_region_noPanic (wp_region_any hm ?_)
  have hops : ∀ i : Nat, l.toArray[i]? = l[i]? := fun i => by simp
  have hlen : ∀ (i : Nat) (o : Oper), l[i]? = some o → ∃ s, ss[i]? = some s := fun i o ho => by
    obtain ⟨s, hs, _⟩ := par_at (env := fun _ => default) l ss [] 0 a h rfl i o ho
    exact ⟨s, hs⟩
  have inb : ∀ (i : Nat) (o : Oper), l[i]? = some o → ∀ d, o.dst = some d → d < a.tmps.size := fun i o ho d hd => by
    have := List.all_eq_true.1 hin o (List.mem_of_getElem? ho)
    simpa [hd] using this
  have key : ∀ (fuel : Nat) (listed : Array Bool) (b : Act) (w1 : World) (env : Nat → Unk), listed.size = l.length → l.length ≤ fuel + listed.toList.countP (fun x => x) → Ext w w1 →
      b = fillD env (fun j => listed.getD j false) l ss 0 a → (∀ j (s : Spec), listed.getD j false = true → ss[j]? = some s → s.fact (env j) w1) →
      (∀ j o, l[j]? = some o → listed.getD j false = true → ∀ e ∈ o.after, Region.binds .any e = true → listed.getD e.on false = true) →
      wpAny P .any l.toArray (NoPanic Q) fuel listed b w1 := by
    intro fuel
    have finish : ∀ (listed : Array Bool) (b : Act) (w1 : World) (env : Nat → Unk), (∀ j, j < l.length → listed.getD j false = true) → Ext w w1 →
        b = fillD env (fun j => listed.getD j false) l ss 0 a → (∀ j (s : Spec), listed.getD j false = true → ss[j]? = some s → s.fact (env j) w1) → NoPanic Q .normal b w1 := by
      intro listed b w1 env hall hw hb hf
      have e : fillD env (fun j => listed.getD j false) l ss 0 a = fillD env (fun _ => true) l ss 0 a := by
        refine act_ext (by rw [fillD_defers, fillD_defers]) fun t => fillD_agree l ss 0 a a rfl rfl fun j o ho _ => ?_
        simp only [Nat.zero_add]
        exact hall j (List.getElem?_eq_some_iff.1 ho).1
      rw [hb, e]
      exact par_end (env := env) l ss [] 0 a h w1 hw (by simp) (fun j s hj hs => by
        simp only [Nat.zero_add]
        exact hf j s (hall j hj) hs)
    have allOf : ∀ listed : Array Bool, listed.size = l.length → Region.ready .any l.toArray listed = [] → ∀ j, j < l.length → listed.getD j false = true := by
      intro listed hsz hr j
      induction j using Nat.strongRecOn with
      | _ j ih =>
        intro hj
        cases hb : listed.getD j false with
        | true => rfl
        | false =>
          exfalso
          have hm : j ∈ Region.ready .any l.toArray listed := by
            rw [mem_ready]
            refine ⟨?_, l[j], by simp [hj], fun e he hbd => ih e.on (parOk_before hok (by simp [hj]) he hbd) ?_⟩
            · have hjs : j < listed.size := by omega
              simp [hjs] at hb ⊢
              exact hb
            · have := parOk_before hok (i := j) (o := l[j]) (by simp [hj]) he hbd
              omega
          rw [hr] at hm
          cases hm
    induction fuel with
    | zero =>
      intro listed b w1 env hsz hfu hw hb hf hcl
      have hall : ∀ j, j < l.length → listed.getD j false = true := by
        intro j hj
        have hc : listed.toList.countP (fun x => x) = listed.toList.length := by
          have := List.countP_le_length (p := fun x => x) (l := listed.toList)
          simp only [Array.length_toList] at *
          omega
        have := List.countP_eq_length.1 hc
        have hjs : j < listed.size := by omega
        simp [hjs]
        exact this _ (by simp)
      refine ⟨?_, finish listed b w1 env hall hw hb hf⟩
      rw [List.eq_nil_iff_forall_not_mem]
      intro j hj
      obtain ⟨h0, o, ho, _⟩ := mem_ready.1 hj
      have hjl : j < l.length := by have := (Array.getElem?_eq_some_iff.1 ho).1; simpa using this
      have h1 := hall j hjl
      have hjs : j < listed.size := by omega
      simp [hjs] at h0 h1
      rw [h0] at h1
      cases h1
    | succ fuel ih =>
      intro listed b w1 env hsz hfu hw hb hf hcl
      refine ⟨fun hr => finish listed b w1 env (allOf listed hsz hr) hw hb hf, fun i hi => ?_⟩
      obtain ⟨h0, o, ho', hall⟩ := mem_ready.1 hi
      have ho : l[i]? = some o := by rw [← hops]; exact ho'
      have hil : i < l.length := (List.getElem?_eq_some_iff.1 ho).1
      have his : i < listed.size := by omega
      have hun : listed.getD i false = false := by
        simp [his] at h0 ⊢
        exact h0
      obtain ⟨s, hs, gs, hgl, hg, hstep⟩ := par_at (env := env) l ss [] 0 a h rfl i o ho
      have hb4 : ∀ e ∈ o.after, Region.binds .any e = true → e.on < i := fun e he hbd => parOk_before hok ho' he hbd
      have hst := hstep w1 hw (fun e he hbd => by
        have he' : e ∈ o.after := by simpa using he
        have hlt := hb4 e he' hbd
        obtain ⟨sj, hsj⟩ := hlen e.on (l[e.on]'(by omega)) (by simp)
        have hge := hg e.on sj hlt hsj
        simp only [List.nil_append, List.getD_eq_getElem?_getD, hge, Option.getD_some, Nat.zero_add]
        exact hf e.on sj (hall e he' hbd) hsj)
      simp only [Nat.zero_add] at hst
      -- the canonical frame and the frame at hand agree on what the operation looks at
      have hag : ∀ t ∈ o.looksAt l.toArray, b.tmps[t]? = (fillD env (fun j => decide (j < i)) l ss 0 a).tmps[t]? := by
        intro t ht
        rw [hb]
        refine fillD_agree l ss 0 a a rfl rfl fun j p hp hpt => ?_
        simp only [Nat.zero_add]
        by_cases hji : j = i
        · subst hji; rw [hun]; simp
        · have hpair := (parOk_pair hok ho' (by rw [hops]; exact hp) hji hpt).2 ht
          rcases hpair with hd | hd
          · obtain ⟨e, he, hbd, hej⟩ := depOn_spec hd
            rw [← hej, hall e he hbd]
            simp [hb4 e he hbd]
          · obtain ⟨e, he, hbd, hej⟩ := depOn_spec hd
            have hij : i < j := by rw [← hej]; exact parOk_before hok (by rw [hops]; exact hp) he hbd
            have : listed.getD j false = false := by
              cases hlj : listed.getD j false with
              | false => rfl
              | true => have := hcl j p hp hlj e he hbd; rw [hej, hun] at this; cases this
            rw [this]
            simp; omega
      have hev : ∀ x ∈ o.op.operands, b.eval x = (fillD env (fun j => decide (j < i)) l ss 0 a).eval x := by
        intro x hx
        cases x with
        | tmp t =>
          have := hag t (List.mem_append_left _ (List.mem_filterMap.2 ⟨.tmp t, by simpa using hx, rfl⟩))
          simp [Act.eval, this]
        | _ => rfl
      have hexe : execOp b.eval o = execOp (fillD env (fun j => decide (j < i)) l ss 0 a).eval o :=
        execOp_congr o (fun cs bb => Region.noSelect_spec (parOk_noSelect hok) i o cs bb ho') hev
      have hwan : Region.wanted o (yielded l.toArray b.tmps) = Region.wanted o (yielded l.toArray (fillD env (fun j => decide (j < i)) l ss 0 a).tmps) := by
        unfold Region.wanted
        cases hgd : o.guard with
        | none => rfl
        | some gw =>
          obtain ⟨g, want⟩ := gw
          simp only
          congr 1
          unfold yielded
          cases ht : (l.toArray[g]?).bind (·.dst) with
          | none => rfl
          | some t =>
            have e2 := hag t (List.mem_append_right _ (by simp only [hgd]; rw [ht]; simp))
            simp only [Option.bind_some]
            rw [e2]
      -- what follows behind the operation
      have next : ∀ u w2, s.fact u w2 → Ext w1 w2 → wpAny P .any l.toArray (NoPanic Q) fuel (listed.setIfInBounds i true) (b.put o.dst (s.shape u)) w2 := by
        intro u w2 hfu2 hx
        let env' : Nat → Unk := fun j => if j = i then u else env j
        have hset : ∀ j, (listed.setIfInBounds i true).getD j false = (decide (j = i) || listed.getD j false) := by
          intro j
          by_cases hji : j = i
          · subst hji; simp [his]
          · rw [getD_set_ne false (Ne.symm hji)]; simp [hji]
        have henv : ∀ (l : List Oper) (ss : List Spec) (k : Nat) (a : Act), fillD env (fun j => listed.getD j false) l ss k a = fillD env' (fun j => listed.getD j false) l ss k a := by
          intro l
          induction l with
          | nil => intro ss k a; simp [fillD]
          | cons o r ihl => intro ss k a; cases ss with
            | nil => simp [fillD]
            | cons s ss =>
              simp only [fillD]
              by_cases hki : k = i
              · subst hki
                rw [if_neg (by rw [hun]; simp), if_neg (by rw [hun]; simp)]
                exact ihl _ _ _
              · have : env' k = env k := if_neg hki
                rw [this]
                exact ihl _ _ _
        refine ih _ _ w2 env' (by simpa using hsz) ?_ (hw.trans hx) ?_ (fun j s' hj hs' => ?_) (fun j p hp hj e he hbd => ?_)
        · have hc : (listed.setIfInBounds i true).toList.countP (fun x => x) = listed.toList.countP (fun x => x) + 1 := by
            have hi' : i < listed.toList.length := by simpa using his
            simp only [Array.toList_setIfInBounds]
            rw [List.countP_set (h := hi')]
            have : listed.toList[i] = false := by
              have := hun
              simp [his] at this
              simpa using this
            rw [this]
            simp
          rw [hc]
          omega
        · rw [hb, henv]
          refine act_ext (by rw [put_defers, fillD_defers, fillD_defers]) fun t => ?_
          by_cases hdt : o.dst = some t
          · rw [hdt, put_eq, fillD_size]
            rw [fillD_at (env := env') l ss 0 a i o s ho hs hdt (by rw [Nat.zero_add, hset]; simp) (fun j p hp hji => by
              intro hpd
              have h2 := (parOk_pair hok ho' (by rw [hops]; exact hp) hji hpd).1
              exact h2 hdt)]
            simp only [Nat.zero_add]
            have : env' i = u := if_pos rfl
            rw [this]
          · rw [put_ne _ _ _ _ hdt]
            refine fillD_agree l ss 0 a a rfl rfl fun j p hp hpt => ?_
            rw [Nat.zero_add, hset]
            by_cases hji : j = i
            · subst hji; rw [ho] at hp; cases hp; exact absurd hpt hdt
            · simp [hji]
        · rw [hset] at hj
          by_cases hji : j = i
          · subst hji
            rw [hs] at hs'
            cases hs'
            have : env' j = u := if_pos rfl
            rw [this]
            exact hfu2
          · have : env' j = env j := if_neg hji
            rw [this]
            exact s'.mono _ _ _ hx (hf j s' (by simpa [hji] using hj) hs')
        · rw [hset] at hj ⊢
          by_cases hji : j = i
          · subst hji
            rw [ho] at hp
            cases hp
            rw [hall e he hbd]
            simp
          · rw [hcl j p hp (by simpa [hji] using hj) e he hbd]
            simp
      -- the step
      unfold wpOp
      simp only [ho']
      unfold StepAt at hst
      rw [hwan]
      split
      · rename_i hw'
        rw [if_pos hw'] at hst
        rcases hst (fun a' w' => ∃ v, a' = (fillD env (fun j => decide (j < i)) l ss 0 a).put o.dst v ∧ ∃ u, v = s.shape u ∧ s.fact u w' ∧ Ext w1 w') (fun u w' h1 h2 => ⟨_, rfl, u, rfl, h1, h2⟩) with hs1 | hs1
        · refine .inl (Oper.wp_mono (fun a' w' hh => ?_) (wp_frame hexe (fun d hd => by rw [fillD_size]; exact inb i o ho d hd) hs1))
          obtain ⟨v, rfl, u, rfl, h1, h2⟩ := hh
          exact next u w' h1 h2
        · refine .inr ⟨?_, hs1.2⟩
          have := hs1.1
          unfold Oper.asks at this ⊢
          rw [hexe]
          exact this
      · rename_i hw'
        rw [if_neg hw'] at hst
        obtain ⟨u, hu, h1⟩ := hst
        rw [← hu]
        exact next u w1 h1 (Ext.refl _)
  refine key l.toArray.size _ a _ (fun _ => default) (by simp) (by simp) (Ext.drew w) ?_ (fun j s hj => ?_) (fun j o _ hj => ?_)
  · have hnone : ∀ (m : List Oper) (ss : List Spec) (k : Nat) (a : Act), fillD (fun _ => default) (fun j => (Array.replicate l.toArray.size false).getD j false) m ss k a = a := by
      intro m
      induction m with
      | nil => intro ss k a; simp [fillD]
      | cons o r ih => intro ss k a; cases ss with
        | nil => simp [fillD]
        | cons s ss =>
          simp only [fillD]
          rw [if_neg (by simp [Array.getElem?_replicate]; split <;> simp)]
          exact ih ss (k + 1) a
    exact (hnone l ss 0 a).symm
  · exfalso
    simp [Array.getElem?_replicate] at hj
    split at hj <;> simp at hj
  · exfalso
    simp [Array.getElem?_replicate] at hj
    split at hj <;> simp at hj
end

/-! ### The steps, one an operation -/
section
variable {P : Program} {ops : Array Oper} {Q : Exit → Act → World → Prop} {w0 : World} {o : Oper} {r : List Oper} {ss : List Spec} {fs : List (World → Prop)} {a : Act}
/-- An operation whose value is known. -/
theorem par_det {e : Value} (hw : Region.wanted o (yielded ops a.tmps) = true)
    (h : ∀ w, Ext w0 w → (∀ e ∈ o.after.toList, Region.binds .any e = true → (fs.getD e.on (fun _ => True)) w) → ∀ K : Act → World → Prop, (∀ w', Ext w w' → K (a.put o.dst e) w') → o.wp P a w K (NoPanic Q))
    (hr : ParSteps P ops Q w0 r ss (fs ++ [fun _ => True]) (a.put o.dst e)) : ParSteps P ops Q w0 (o :: r) (Spec.det e :: ss) fs a :=
  ⟨fun w hx hf => by unfold StepAt; rw [if_pos hw]; exact fun K hK => .inl (h w hx hf K fun w' h2 => hK default w' trivial h2), fun _ => hr⟩
/-- The same, where what went before it need not be known. -/
theorem par_val {e : Value} (hw : Region.wanted o (yielded ops a.tmps) = true)
    (h : ∀ w, Ext w0 w → ∀ K : Act → World → Prop, (∀ w', Ext w w' → K (a.put o.dst e) w') → o.wp P a w K (NoPanic Q))
    (hr : ParSteps P ops Q w0 r ss (fs ++ [fun _ => True]) (a.put o.dst e)) : ParSteps P ops Q w0 (o :: r) (Spec.det e :: ss) fs a :=
  par_det hw (fun w hx _ => h w hx) hr
/-- An operation that is passed over. -/
theorem par_skip (hw : Region.wanted o (yielded ops a.tmps) = false) (hr : ParSteps P ops Q w0 r ss (fs ++ [fun _ => True]) (a.put o.dst undef)) :
    ParSteps P ops Q w0 (o :: r) (Spec.det undef :: ss) fs a :=
  ⟨fun w _ _ => by unfold StepAt; rw [if_neg (by rw [hw]; simp)]; exact ⟨default, rfl, trivial⟩, fun _ => hr⟩
/-- An operation whose value holds something unknown. -/
theorem par_unk {s : Spec} (hw : Region.wanted o (yielded ops a.tmps) = true)
    (h : ∀ w, Ext w0 w → (∀ e ∈ o.after.toList, Region.binds .any e = true → (fs.getD e.on (fun _ => True)) w) → ∀ K : Act → World → Prop, (∀ u w', s.fact u w' → Ext w w' → K (a.put o.dst (s.shape u)) w') → o.wp P a w K (NoPanic Q))
    (hr : ∀ u, ParSteps P ops Q w0 r ss (fs ++ [s.fact u]) (a.put o.dst (s.shape u))) : ParSteps P ops Q w0 (o :: r) (s :: ss) fs a :=
  ⟨fun w hx hf => by unfold StepAt; rw [if_pos hw]; exact fun K hK => .inl (h w hx hf K hK), hr⟩
theorem par_nil (h : ∀ w, Ext w0 w → (∀ f ∈ fs, f w) → Q .normal a w) : ParSteps P ops Q w0 [] [] fs a := by
  simpa [ParSteps] using h
end
/-! ### The same with a parting of cases: what is left of every operation may hang on the case. -/
section
variable {P : Program} {ops : Array Oper} {Q : Exit → Act → World → Prop} {w0 : World} {o : Oper} {r : List Oper} {fs : List (World → Prop)} {a : Act}
def ParAny (P : Program) (ops : Array Oper) (Q : Exit → Act → World → Prop) (w0 : World) (l : List Oper) (fs : List (World → Prop)) (a : Act) : Prop := ∃ ss, ParSteps P ops Q w0 l ss fs a
theorem pe_val {e : Value} (hw : Region.wanted o (yielded ops a.tmps) = true)
    (h : ∀ w, Ext w0 w → ∀ K : Act → World → Prop, (∀ w', Ext w w' → K (a.put o.dst e) w') → o.wp P a w K (NoPanic Q))
    (hr : ParAny P ops Q w0 r (fs ++ [fun _ => True]) (a.put o.dst e)) : ParAny P ops Q w0 (o :: r) fs a := by
  obtain ⟨ss, hs⟩ := hr
  exact ⟨_, par_val hw h hs⟩
theorem pe_skip (hw : Region.wanted o (yielded ops a.tmps) = false) (hr : ParAny P ops Q w0 r (fs ++ [fun _ => True]) (a.put o.dst undef)) : ParAny P ops Q w0 (o :: r) fs a := by
  obtain ⟨ss, hs⟩ := hr
  exact ⟨_, par_skip hw hs⟩
theorem pe_split {b want : Bool} {j : Nat} (_hg : o.guard = some (j, want)) (_hb : yielded ops a.tmps j = some b) (ht : b = true → ParAny P ops Q w0 (o :: r) fs a) (hf : b = false → ParAny P ops Q w0 (o :: r) fs a) :
    ParAny P ops Q w0 (o :: r) fs a := by
  cases b
  · exact hf rfl
  · exact ht rfl
theorem pe_nil (h : ∀ w, Ext w0 w → Q .normal a w) : ParAny P ops Q w0 [] fs a := ⟨[], par_nil fun w hx _ => h w hx⟩
theorem pe_of {ss : List Spec} {l : List Oper} (h : ParSteps P ops Q w0 l ss fs a) : ParAny P ops Q w0 l fs a := ⟨ss, h⟩
theorem wp_region_pe {id : Nat} {l : List Oper} {a : Act} {w : World} (hm : P.follows .mixedOrders = true) (hok : parOk l.toArray = true)
    (hin : (l.all fun o => match o.dst with | some d => decide (d < a.tmps.size) | none => true) = true)
    (h : ParAny P l.toArray Q w l [] a) : (Code.region id l.toArray true).wp P Q a w := by
  obtain ⟨ss, hs⟩ := h
  exact wp_region_par hm hok hin hs
end
/-! ### A region whose order is fixed, by the same steps -/
section
variable {P : Program} {Q : Exit → Act → World → Prop}
theorem list_of_par {ops : Array Oper} {w0 : World} : ∀ (l : List Oper) (ss : List Spec) (fs : List (World → Prop)) (a : Act), ParSteps P ops Q w0 l ss fs a →
    (∀ f ∈ fs, ∀ w w', Ext w w' → f w → f w') → ∀ w, Ext w0 w → (∀ f ∈ fs, f w) → wpList P ops (NoPanic Q) l a w
  | [], _, _, _, h, _, w, hw, hf => wpList_nil (h w hw hf)
  | _ :: _, [], _, _, h, _, _, _, _ => h.elim
  | o :: r, s :: ss, fs, a, h, hm, w, hw, hf => by
    have hst := h.1 w hw (fun e _ _ => by
      cases hg : fs[e.on]? with
      | none => simp [hg]
      | some f => simp only [List.getD_eq_getElem?_getD, hg, Option.getD_some]; exact hf f (List.mem_of_getElem? hg))
    have next : ∀ u w', s.fact u w' → Ext w w' → wpList P ops (NoPanic Q) r (a.put o.dst (s.shape u)) w' := fun u w' h1 h2 =>
      list_of_par r ss _ _ (h.2 u) (fun f hm' => by
        rcases List.mem_append.1 hm' with hm' | hm'
        · exact hm f hm'
        · simp only [List.mem_singleton] at hm'; subst hm'; exact fun w w' => s.mono u w w') w' (hw.trans h2) (fun f hm' => by
        rcases List.mem_append.1 hm' with hm' | hm'
        · exact hm f hm' w w' h2 (hf f hm')
        · simp only [List.mem_singleton] at hm'; subst hm'; exact h1)
    unfold wpList
    unfold StepAt at hst
    split
    · rename_i hwa
      rw [if_pos hwa] at hst
      exact hst _ next
    · rename_i hwa
      rw [if_neg hwa] at hst
      obtain ⟨u, hu, h1⟩ := hst
      rw [← hu]
      exact next u w h1 (Ext.refl _)
theorem wp_region_seq {id : Nat} {l : List Oper} {a : Act} {w : World} {ss : List Spec} (h : ParSteps P l.toArray Q w l ss [] a) : (Code.region id l.toArray false).wp P Q a w :=
  wp_region_noPanic (wp_region_lit (list_of_par l ss [] a h (by simp) w (Ext.refl _) (by simp)))
end

/-! ### Operations that are carried out only if a test says so: what they leave is written with the test, and no cases are parted -/
/-- The value if it was reckoned. -/
def G (c : Bool) (v : Value) : Value := if c then v else undef
theorem G_true (v : Value) : G true v = v := rfl
theorem G_false (v : Value) : G false v = undef := rfl
theorem GS : (∀ v, G true v = v) ∧ (∀ v, G false v = undef) ∧ (∀ b, (true && b) = b) ∧ (∀ b, (b && true) = b) ∧ (∀ b, (false && b) = false) ∧ (∀ b, (b && false) = false) ∧ ((!true) = false) ∧ ((!false) = true) ∧ (decide True = true) ∧ (decide False = false) ∧
    (∀ b, (true || b) = true) ∧ (∀ b, (b || true) = true) ∧ (∀ b, (false || b) = b) ∧ (∀ b, (b || false) = b) ∧ (∀ b, (!!b) = b) := by
  refine ⟨fun _ => rfl, fun _ => rfl, ?_, ?_, ?_, ?_, rfl, rfl, by simp, by simp, ?_, ?_, ?_, ?_, ?_⟩ <;> intro b <;> cases b <;> rfl
section
variable {P : Program} {ops : Array Oper} {Q : Exit → Act → World → Prop} {w0 : World} {o : Oper} {r : List Oper} {ss : List Spec} {fs : List (World → Prop)} {a : Act}
theorem par_c {e : Value} {c : Bool} (hw : Region.wanted o (yielded ops a.tmps) = c)
    (h : c = true → ∀ w, Ext w0 w → ∀ K : Act → World → Prop, (∀ w', Ext w w' → K (a.put o.dst e) w') → o.wp P a w K (NoPanic Q))
    (hr : ParSteps P ops Q w0 r ss (fs ++ [fun _ => True]) (a.put o.dst (G c e))) : ParSteps P ops Q w0 (o :: r) (Spec.det (G c e) :: ss) fs a := by
  cases c
  · exact par_skip hw hr
  · exact par_val hw (h rfl) hr
def boolOf : Value → Option Bool
  | .bool b => some b
  | _ => none
theorem wanted_at {j : Nat} {want c : Bool} {v : Value} (hg : o.guard = some (j, want)) (hy : ((ops[j]?).bind (·.dst)).bind (a.tmps[·]?) = some v)
    (hc : boolOf v = some want ↔ c = true) : Region.wanted o (yielded ops a.tmps) = c := by
  unfold Region.wanted yielded
  rw [hg]
  simp only
  rw [hy, Bool.eq_iff_iff]
  simp only [beq_iff_eq]
  rw [← hc]
  cases v <;> rfl
theorem par_ct {e : Value} {b : Bool} {j : Nat} (hg : o.guard = some (j, true)) (hy : ((ops[j]?).bind (·.dst)).bind (a.tmps[·]?) = some (.bool b))
    (h : b = true → ∀ w, Ext w0 w → ∀ K : Act → World → Prop, (∀ w', Ext w w' → K (a.put o.dst e) w') → o.wp P a w K (NoPanic Q))
    (hr : ParSteps P ops Q w0 r ss (fs ++ [fun _ => True]) (a.put o.dst (G b e))) : ParSteps P ops Q w0 (o :: r) (Spec.det (G b e) :: ss) fs a :=
  par_c (wanted_at hg hy (by simp [boolOf])) h hr
theorem par_cf {e : Value} {b : Bool} {j : Nat} (hg : o.guard = some (j, false)) (hy : ((ops[j]?).bind (·.dst)).bind (a.tmps[·]?) = some (.bool b))
    (h : b = false → ∀ w, Ext w0 w → ∀ K : Act → World → Prop, (∀ w', Ext w w' → K (a.put o.dst e) w') → o.wp P a w K (NoPanic Q))
    (hr : ParSteps P ops Q w0 r ss (fs ++ [fun _ => True]) (a.put o.dst (G (!b) e))) : ParSteps P ops Q w0 (o :: r) (Spec.det (G (!b) e) :: ss) fs a :=
  par_c (wanted_at hg hy (by simp [boolOf])) (fun hb => h (by simpa using hb)) hr
theorem par_gt {e : Value} {d b : Bool} {j : Nat} (hg : o.guard = some (j, true)) (hy : ((ops[j]?).bind (·.dst)).bind (a.tmps[·]?) = some (G d (.bool b)))
    (h : d = true → b = true → ∀ w, Ext w0 w → ∀ K : Act → World → Prop, (∀ w', Ext w w' → K (a.put o.dst e) w') → o.wp P a w K (NoPanic Q))
    (hr : ParSteps P ops Q w0 r ss (fs ++ [fun _ => True]) (a.put o.dst (G (d && b) e))) : ParSteps P ops Q w0 (o :: r) (Spec.det (G (d && b) e) :: ss) fs a :=
  par_c (wanted_at hg hy (by cases d <;> simp [G, undef, boolOf])) (fun hb => by rw [Bool.and_eq_true] at hb; exact h hb.1 hb.2) hr
theorem par_gf {e : Value} {d b : Bool} {j : Nat} (hg : o.guard = some (j, false)) (hy : ((ops[j]?).bind (·.dst)).bind (a.tmps[·]?) = some (G d (.bool b)))
    (h : d = true → b = false → ∀ w, Ext w0 w → ∀ K : Act → World → Prop, (∀ w', Ext w w' → K (a.put o.dst e) w') → o.wp P a w K (NoPanic Q))
    (hr : ParSteps P ops Q w0 r ss (fs ++ [fun _ => True]) (a.put o.dst (G (d && !b) e))) : ParSteps P ops Q w0 (o :: r) (Spec.det (G (d && !b) e) :: ss) fs a :=
  par_c (wanted_at hg hy (by cases d <;> simp [G, undef, boolOf])) (fun hb => by rw [Bool.and_eq_true] at hb; exact h hb.1 (by simpa using hb.2)) hr
theorem execOp_pick (ρ : Operand → Value) (dst : Option Tmp) (c x y : Operand) (ty : TypeId) (pos : String) (after : Array Edge) (guard : Option (Nat × Bool)) (b : Bool) (h : ρ c = .bool b) (w : World) :
    (execOp ρ { dst, op := .pick c x y, type := ty, pos, after, guard }).run P w = .ok (.value (if b then ρ x else ρ y)) w := by
  cases b <;> simp [execOp, h, asBool]
/-- 'x && y'. -/
theorem wp_and {w : World} {K : Act → World → Prop} {c x : Operand} {b p : Bool} (ho : o.op = .pick c x (.const (.bool false))) (hc : a.eval c = .bool b) (hx : a.eval x = G b (.bool p))
    (hk : K (a.put o.dst (.bool (b && p))) w) : o.wp P a w K Q := by
  obtain ⟨dst, op, ty, pos, after, guard⟩ := o
  simp only at ho
  subst ho
  unfold Oper.wp
  rw [execOp_pick _ _ _ _ _ _ _ _ _ b hc]
  rw [hx]
  cases b <;> exact hk
/-- 'x || y'. -/
theorem wp_or {w : World} {K : Act → World → Prop} {c y : Operand} {b p : Bool} (ho : o.op = .pick c (.const (.bool true)) y) (hc : a.eval c = .bool b) (hy : a.eval y = G (!b) (.bool p))
    (hk : K (a.put o.dst (.bool (b || p))) w) : o.wp P a w K Q := by
  obtain ⟨dst, op, ty, pos, after, guard⟩ := o
  simp only at ho
  subst ho
  unfold Oper.wp
  rw [execOp_pick _ _ _ _ _ _ _ _ _ b hc]
  rw [hy]
  cases b <;> exact hk
end
/-- Cells in a row hold these values. -/
def RowAt (w : World) (b p : Nat) (cs : List Value) : Prop := ∀ j u, cs[j]? = some u → w.cell? ⟨b, p + j, none⟩ = some u
theorem RowAt.ext {w w' : World} {b p : Nat} {cs : List Value} (h : RowAt w b p cs) (hx : Ext w w') : RowAt w' b p cs := fun j u hu => hx.cell (h j u hu)
theorem RowAt.lt {w : World} {b p : Nat} {c : Value} {cs : List Value} (h : RowAt w b p (c :: cs)) : b < w.heap.size := block_lt_of_cell (a := ⟨b, p + 0, none⟩) (h 0 c rfl)
/-- A slice whose elements have so many cells each. -/
def SlR (w : World) (sz : Nat) (v : Value) (rows : List (List Value)) : Prop :=
  ∃ (A : Option Addr) (c : Nat), v = .slice A rows.length c ∧ rows.length ≤ c ∧ c ≤ 9223372036854775807 ∧ (A = none → c = 0) ∧
    ∀ k r, rows[k]? = some r → r.length = sz ∧ ∃ b o, A = some ⟨b, o, none⟩ ∧ RowAt w b (o + k * sz) r
theorem SlR.ext {w w' : World} {sz : Nat} {v : Value} {rows : List (List Value)} (h : SlR w sz v rows) (hx : Ext w w') : SlR w' sz v rows := by
  obtain ⟨A, c, h1, h2, h3, h0, h4⟩ := h
  exact ⟨A, c, h1, h2, h3, h0, fun k r hr => by
    obtain ⟨g1, b, o, g2, g3⟩ := h4 k r hr
    exact ⟨g1, b, o, g2, g3.ext hx⟩⟩
section
variable {P : Program}
theorem run_loadVar_at (w : World) (b p : Nat) (ty : TypeId) (cs : List Value) (d : TypeDesc) (hr : RowAt w b p cs)
    (hu : P.underlying ty = some d) (hd : (match d with | .struct _ | .array _ _ => true | _ => false) = true) (hi : (P.info? ty).map (·.size) = some cs.length) :
    (loadVar ty ⟨b, p, none⟩).run P w = .ok (.agg cs.toArray) w := by
  have hl : (loadCells ⟨b, p, none⟩ cs.length).run P w = .ok cs.toArray w :=
    run_loadCells_list (P := P) w ⟨b, p, none⟩ cs (fun j v hv => by
      have hadd : (⟨b, p, none⟩ : Addr).add j = ⟨b, p + j, none⟩ := by unfold Addr.add; split <;> simp_all
      rw [hadd]
      exact hr j v hv)
  cases hq : P.info? ty with
  | none => simp [hq] at hi
  | some i =>
    have hs : i.size = cs.length := by simpa [hq] using hi
    have hagg : (isAgg ty).run P w = .ok true w := by
      unfold isAgg
      rw [Sem.run_bind, run_underlying hu w]
      cases d <;> simp_all
    simp [loadVar, Sem.run_bind, hagg, sizeOf, typeInfo, hq, hs, hl]
theorem wp_load_at {o : Oper} {a : Act} {w : World} {K : Act → World → Prop} {Q : Exit → Act → World → Prop} (ty : TypeId) (x : Operand) (b p : Nat) (cs : List Value) (d : TypeDesc) (ho : o.op = .load ty x)
    (hx : a.eval x = .pointer (some ⟨b, p, none⟩)) (hr : RowAt w b p cs) (hu : P.underlying ty = some d) (hd : (match d with | .struct _ | .array _ _ => true | _ => false) = true) (hi : (P.info? ty).map (·.size) = some cs.length)
    (h : K (a.put o.dst (.agg cs.toArray)) w) : o.wp P a w K Q := by
  unfold Oper.wp execOp
  simp only [ho, hx, Instr.loadAt, Instr.sureAddr, Sem.run_bind, Sem.run_pure, Result.andThen_ok, run_loadVar_at w b p ty cs d hr hu hd hi]
  exact h
theorem wpList_load_at {ops : Array Oper} {rest : List Oper} {o : Oper} {a : Act} {w : World} {Q : Exit → Act → World → Prop} (ty : TypeId) (x : Operand) (b p : Nat) (cs : List Value) (d : TypeDesc) (hgd : o.guard = none) (ho : o.op = .load ty x)
    (hx : a.eval x = .pointer (some ⟨b, p, none⟩)) (hr : RowAt w b p cs) (hu : P.underlying ty = some d) (hd : (match d with | .struct _ | .array _ _ => true | _ => false) = true) (hi : (P.info? ty).map (·.size) = some cs.length)
    (h : wpList P ops Q rest (a.put o.dst (.agg cs.toArray)) w) : wpList P ops Q (o :: rest) a w :=
  wpList_plain hgd fun _ hK => wp_load_at ty x b p cs d ho hx hr hu hd hi (hK _ _ h)
end
theorem RowAt.box (w : World) (t : TypeId) (cs : List Value) : RowAt (w.alloc (.cells cs.toArray t)) w.heap.size 0 cs := fun j u hu => by
  rw [cell_of_row _ _ _ _ _ _ (heap_alloc_new w _)]
  simpa using hu
/-- The cells of a row, as a rule. -/
theorem RowAt.rule {w : World} {b : Nat} {cs : List Value} (h : RowAt w b 0 cs) : ∀ j, j < cs.length → w.cell? ⟨b, j, none⟩ = cs[j]? := fun j hj => by
  have := h j cs[j] (by simp [hj])
  rw [Nat.zero_add] at this
  rw [this]
  simp [hj]
theorem RowAt.ruleAt {w : World} {b p : Nat} {cs : List Value} (h : RowAt w b p cs) : ∀ j, j < cs.length → w.cell? ⟨b, p + j, none⟩ = cs[j]? := fun j hj => by
  rw [h j cs[j] (by simp [hj])]
  simp [hj]
theorem RowAt.left {w : World} {b p : Nat} {xs ys : List Value} (h : RowAt w b p (xs ++ ys)) : RowAt w b p xs := fun j u hj => h j u (by
  rw [List.getElem?_append_left (List.getElem?_eq_some_iff.1 hj).1]; exact hj)
theorem RowAt.right {w : World} {b p : Nat} {xs ys : List Value} (h : RowAt w b p (xs ++ ys)) : RowAt w b (p + xs.length) ys := fun j u hj => by
  have := h (xs.length + j) u (by rw [List.getElem?_append_right (by omega)]; simpa using hj)
  rwa [← Nat.add_assoc] at this
end Go.Proofs.YthbhjladfniboaaDoor
namespace Go.Proofs.YthbhjladfniboaaDoor
set_option linter.unusedSimpArgs false
set_option linter.unusedVariables false
open Go.RowKit

theorem GS2 : (∀ v, G true v = v) ∧ (∀ v, G false v = undef) ∧ (∀ b, (true && b) = b) ∧ (∀ b, (b && true) = b) ∧ (∀ b, (false && b) = false) ∧ (∀ b, (b && false) = false) ∧ ((!true) = false) ∧ ((!false) = true) ∧ (decide True = true) ∧ (decide False = false) ∧
    (∀ b, (true || b) = true) ∧ (∀ b, (b || true) = true) ∧ (∀ b, (false || b) = b) ∧ (∀ b, (b || false) = b) :=
  ⟨GS.1, GS.2.1, GS.2.2.1, GS.2.2.2.1, GS.2.2.2.2.1, GS.2.2.2.2.2.1, rfl, rfl, by simp, by simp, GS.2.2.2.2.2.2.2.2.2.2.1, GS.2.2.2.2.2.2.2.2.2.2.2.1, GS.2.2.2.2.2.2.2.2.2.2.2.2.1, GS.2.2.2.2.2.2.2.2.2.2.2.2.2.1⟩
/-! ### What is asked of types and functions, by their numbers -/
def aggDesc : TypeDesc → Bool
  | .struct _ | .array _ _ => true
  | _ => false
class TInt (P : Program) (t : TypeId) (k : outParam IntKind) : Prop where
  h : P.underlying t = some (.int k)
class TStr (P : Program) (t : TypeId) : Prop where
  h : P.underlying t = some .string
class TBool (P : Program) (t : TypeId) : Prop where
  h : P.underlying t = some .bool
class TOne (P : Program) (t : TypeId) : Prop where
  h : ∃ d, P.underlying t = some d ∧ aggDesc d = false
  sz : (P.info? t).map (·.size) = some 1
class TRow (P : Program) (t : TypeId) (n : outParam Nat) : Prop where
  h : ∃ d, P.underlying t = some d ∧ aggDesc d = true
  sz : (P.info? t).map (·.size) = some n
class TSlice (P : Program) (t : TypeId) (e : outParam TypeId) : Prop where
  h : P.underlying t = some (.slice e)
class TSize (P : Program) (t : TypeId) (n : outParam Nat) : Prop where
  sz : (P.info? t).map (·.size) = some n
class TZer (P : Program) (t : TypeId) (cs : outParam (List Value)) : Prop where
  h : (P.info? t).map (fun i => i.zero.map (fun z => z.cells.toList)) = some (some cs)
class TStruct (P : Program) (t : TypeId) (pl : outParam (List (Nat × Nat))) : Prop where
  h : ∃ fs, P.underlying t = some (.struct fs) ∧ fs.toList.mapM (fun f => (P.info? f.type).map fun i => (f.offset, i.size)) = some pl
/-- Field i of a struct type: at which cell, of how many cells, whether it is an aggregate. -/
class TFld (P : Program) (t : TypeId) (i : Nat) (off n : outParam Nat) (agg : outParam Bool) : Prop where
  h : ∃ fs f d, P.underlying t = some (.struct fs) ∧ fs[i]? = some f ∧ f.offset = off ∧ P.underlying f.type = some d ∧ aggDesc d = agg ∧ (P.info? f.type).map (·.size) = some (n + 1)
class Enters (P : Program) (f : FuncId) : Prop where
  h : ∃ fn, P.funcs[f]? = some fn ∧ (fn.name == "runtime.NumGoroutine") = false ∧ fn.body.isNone = false

section
variable {P : Program} {w : World}
theorem run_sizeOf_of {t n : Nat} (h : (P.info? t).map (·.size) = some n) : (sizeOf t).run P w = .ok n w := by
  cases hi : P.info? t with
  | none => simp [hi] at h
  | some i =>
    have : i.size = n := by simpa [hi] using h
    simp [sizeOf, typeInfo, hi, this]
theorem run_isAgg_of {t : Nat} {d : TypeDesc} (h : P.underlying t = some d) : (isAgg t).run P w = .ok (aggDesc d) w := by
  unfold isAgg
  rw [Sem.run_bind, run_underlying h w]
  cases d <;> rfl
theorem run_callFunc {f : FuncId} [e : Enters P f] (args : Array Value) : (callFunc f args).run P w = .ok (.enter f args) w := by
  obtain ⟨fn, h1, h2, h3⟩ := e.h
  have h4 : fn.name ≠ "runtime.NumGoroutine" := by simpa using h2
  have h5 : fn.body ≠ none := by intro e; rw [e] at h3; cases h3
  simp [callFunc, h1, h4, h5]
end

section
variable {P : Program} {Q : Exit → Act → World → Prop} {K : Act → World → Prop} {a : Act} {w : World}
  {dst : Option Tmp} {ty : TypeId} {pos : String} {after : Array Edge} {guard : Option (Nat × Bool)}

theorem wp_run {o : Oper} {v : Value} (h : (execOp a.eval o).run P w = .ok (.value v) w) (hk : K (a.put o.dst v) w) : o.wp P a w K Q := by
  unfold Oper.wp; rw [h]; exact hk

theorem r_move {x : Operand} {v : Value} (hx : a.eval x = v) (hk : K (a.put dst v) w) : (Oper.mk dst (.move x) ty pos after guard).wp P a w K Q :=
  wp_run (by simp [execOp, hx]) hk
theorem r_assign {x : Operand} {v : Value} (hx : a.eval x = v) (hk : K (a.put dst v) w) : (Oper.mk dst (.assign x) ty pos after guard).wp P a w K Q :=
  wp_run (by simp [execOp, hx]) hk
theorem r_nilCheck {x : Operand} {p : Addr} (hx : a.eval x = .pointer (some p)) (hk : K (a.put dst (.pointer (some p))) w) : (Oper.mk dst (.nilCheck x) ty pos after guard).wp P a w K Q :=
  wp_run (by simp [execOp, hx]) hk
theorem r_extract {x : Operand} {i : Nat} {vs : List Value} {v : Value} (hx : a.eval x = .tuple vs.toArray) (hv : vs[i]? = some v) (hk : K (a.put dst v) w) : (Oper.mk dst (.extract x i) ty pos after guard).wp P a w K Q :=
  wp_run (by simp [execOp, hx, Instr.extract, hv]) hk
theorem r_not {x : Operand} {t : TypeId} {b : Bool} (hx : a.eval x = .bool b) (hk : K (a.put dst (.bool (!b))) w) : (Oper.mk dst (.unOp .not t x) ty pos after guard).wp P a w K Q :=
  wp_run (by simp [execOp, hx, Op.unary]) hk
/-! whole numbers -/
section
variable {x y : Operand} {t t' : TypeId} {k : IntKind} {p q : Int}
theorem int_run {op : BinOp} {v : Value} (hx : a.eval x = .int k p) (hy : a.eval y = .int k q) (hg : ∀ r, (binOp op t (.int k p) (.int k q)).run P w = .ok r w → r = v) (hr : (binOp op t (.int k p) (.int k q)).run P w = .ok v w)
    (hk : K (a.put dst v) w) : (Oper.mk dst (.binOp op t x y t') ty pos after guard).wp P a w K Q := by
  refine wp_run ?_ hk
  have he : (eqGuard op t x y (.int k p) (.int k q)).run P w = .ok () w := by
    unfold eqGuard
    cases op <;> simp
  simp only [execOp, hx, hy, Sem.run_bind, he, Result.andThen_ok, hr, Sem.run_pure]
theorem r_add {r : Int} (hx : a.eval x = .int k p) (hy : a.eval y = .int k q) (hr : k.wrap (p + q) = r) (hk : K (a.put dst (.int k r)) w) : (Oper.mk dst (.binOp .add t x y t') ty pos after guard).wp P a w K Q :=
  int_run hx hy (fun _ h => by simpa [binOp, Op.intArith, hr] using h.symm) (by simp [binOp, Op.intArith, hr]) hk
theorem r_sub {r : Int} (hx : a.eval x = .int k p) (hy : a.eval y = .int k q) (hr : k.wrap (p - q) = r) (hk : K (a.put dst (.int k r)) w) : (Oper.mk dst (.binOp .sub t x y t') ty pos after guard).wp P a w K Q :=
  int_run hx hy (fun _ h => by simpa [binOp, Op.intArith, hr] using h.symm) (by simp [binOp, Op.intArith, hr]) hk
theorem r_mul {r : Int} (hx : a.eval x = .int k p) (hy : a.eval y = .int k q) (hr : k.wrap (p * q) = r) (hk : K (a.put dst (.int k r)) w) : (Oper.mk dst (.binOp .mul t x y t') ty pos after guard).wp P a w K Q :=
  int_run hx hy (fun _ h => by simpa [binOp, Op.intArith, hr] using h.symm) (by simp [binOp, Op.intArith, hr]) hk
theorem r_quo {r : Int} (hx : a.eval x = .int k p) (hy : a.eval y = .int k q) (h0 : q ≠ 0) (hr : k.wrap (p.tdiv q) = r) (hk : K (a.put dst (.int k r)) w) : (Oper.mk dst (.binOp .quo t x y t') ty pos after guard).wp P a w K Q :=
  int_run hx hy (fun _ h => by simpa [binOp, Op.intDiv, hr, h0] using h.symm) (by simp [binOp, Op.intDiv, hr, h0]) hk
theorem r_rem {r : Int} (hx : a.eval x = .int k p) (hy : a.eval y = .int k q) (h0 : q ≠ 0) (hr : p.tmod q = r) (hk : K (a.put dst (.int k r)) w) : (Oper.mk dst (.binOp .rem t x y t') ty pos after guard).wp P a w K Q :=
  int_run hx hy (fun _ h => by simpa [binOp, Op.intDiv, hr, h0] using h.symm) (by simp [binOp, Op.intDiv, hr, h0]) hk
theorem r_neg {r : Int} (hx : a.eval x = .int k p) (hr : k.wrap (0 - p) = r) (hk : K (a.put dst (.int k r)) w) : (Oper.mk dst (.unOp .neg t x) ty pos after guard).wp P a w K Q :=
  wp_run (by simp only [execOp, hx, Op.unary, Op.intArith, hr, Sem.run_bind, Sem.run_pure, Result.andThen_ok]) hk
theorem r_eql (hx : a.eval x = .int k p) (hy : a.eval y = .int k q) (hk : K (a.put dst (.bool (p == q))) w) : (Oper.mk dst (.binOp .eql t x y t') ty pos after guard).wp P a w K Q :=
  int_run hx hy (fun _ h => by simpa [binOp, Op.intCmp] using h.symm) (by simp [binOp, Op.intCmp]) hk
theorem r_neq (hx : a.eval x = .int k p) (hy : a.eval y = .int k q) (hk : K (a.put dst (.bool (!(p == q)))) w) : (Oper.mk dst (.binOp .neq t x y t') ty pos after guard).wp P a w K Q :=
  int_run hx hy (fun _ h => by simpa [binOp, Op.intCmp, bne] using h.symm) (by simp [binOp, Op.intCmp, bne]) hk
theorem r_lss (hx : a.eval x = .int k p) (hy : a.eval y = .int k q) (hk : K (a.put dst (.bool (decide (p < q)))) w) : (Oper.mk dst (.binOp .lss t x y t') ty pos after guard).wp P a w K Q :=
  int_run hx hy (fun _ h => by simpa [binOp, Op.intCmp] using h.symm) (by simp [binOp, Op.intCmp]) hk
theorem r_leq (hx : a.eval x = .int k p) (hy : a.eval y = .int k q) (hk : K (a.put dst (.bool (decide (p ≤ q)))) w) : (Oper.mk dst (.binOp .leq t x y t') ty pos after guard).wp P a w K Q :=
  int_run hx hy (fun _ h => by simpa [binOp, Op.intCmp] using h.symm) (by simp [binOp, Op.intCmp]) hk
theorem r_gtr (hx : a.eval x = .int k p) (hy : a.eval y = .int k q) (hk : K (a.put dst (.bool (decide (q < p)))) w) : (Oper.mk dst (.binOp .gtr t x y t') ty pos after guard).wp P a w K Q :=
  int_run hx hy (fun _ h => by simpa [binOp, Op.intCmp] using h.symm) (by simp [binOp, Op.intCmp]) hk
theorem r_geq (hx : a.eval x = .int k p) (hy : a.eval y = .int k q) (hk : K (a.put dst (.bool (decide (q ≤ p)))) w) : (Oper.mk dst (.binOp .geq t x y t') ty pos after guard).wp P a w K Q :=
  int_run hx hy (fun _ h => by simpa [binOp, Op.intCmp] using h.symm) (by simp [binOp, Op.intCmp]) hk
theorem r_max {ts : Array TypeId} (hx : a.eval x = .int k p) (hy : a.eval y = .int k q) (hk : K (a.put dst (.int k (max p q))) w) : (Oper.mk dst (.call ⟨.builtin .max, #[x, y], ts⟩) ty pos after guard).wp P a w K Q := by
  refine wp_run ?_ hk
  have e : (if q > p then q else p) = max p q := by split <;> omega
  simp [execOp, resolve, invoke, builtin, hx, hy, Builtin.max_, Builtin.max2, e]
theorem r_min {ts : Array TypeId} (hx : a.eval x = .int k p) (hy : a.eval y = .int k q) (hk : K (a.put dst (.int k (min p q))) w) : (Oper.mk dst (.call ⟨.builtin .min, #[x, y], ts⟩) ty pos after guard).wp P a w K Q := by
  refine wp_run ?_ hk
  have e : (if q < p then q else p) = min p q := by split <;> omega
  simp [execOp, resolve, invoke, builtin, hx, hy, Builtin.min_, Builtin.min2, e]
theorem r_conv [i : TInt P t' k] {k' : IntKind} {r : Int} {s : TypeId} {d : TypeDesc} (hs : P.underlying s = some d) (hx : a.eval x = .int k' p) (hr : k.wrap p = r) (hk : K (a.put dst (.int k r)) w) : (Oper.mk dst (.convert s t' x) ty pos after guard).wp P a w K Q := by
  refine wp_run ?_ hk
  simp [execOp, hx, convert, run_underlying hs, run_underlying i.h, Conv.intToInt, hr]
theorem r_boolEq [i : TBool P t] {b c : Bool} (hx : a.eval x = .bool b) (hy : a.eval y = .bool c) (hk : K (a.put dst (.bool (b == c))) w) : (Oper.mk dst (.binOp .eql t x y t') ty pos after guard).wp P a w K Q := by
  refine wp_run ?_ hk
  have he : (eqGuard .eql t x y (.bool b) (.bool c)).run P w = .ok () w := by unfold eqGuard; simp
  have h2 : (Op.equal t (.bool b) (.bool c)).run P w = .ok (b == c) w := by
    show (Op.equalIn (9999 + 1) t (.bool b) (.bool c)).run P w = _
    unfold Op.equalIn
    rw [Sem.run_bind, run_underlying i.h]
    rfl
  have h3 : (binOp .eql t (.bool b) (.bool c)).run P w = .ok (.bool (b == c)) w := by
    show (do pure (Value.bool (← Op.equal t (.bool b) (.bool c))) : Sem Value).run P w = _
    rw [Sem.run_bind, h2]
    rfl
  simp only [execOp, hx, hy, Sem.run_bind, he, Result.andThen_ok, h3, Sem.run_pure]
theorem r_boolNe [i : TBool P t] {b c : Bool} (hx : a.eval x = .bool b) (hy : a.eval y = .bool c) (hk : K (a.put dst (.bool (!(b == c)))) w) : (Oper.mk dst (.binOp .neq t x y t') ty pos after guard).wp P a w K Q := by
  refine wp_run ?_ hk
  have he : (eqGuard .neq t x y (.bool b) (.bool c)).run P w = .ok () w := by unfold eqGuard; simp
  have h2 : (Op.equal t (.bool b) (.bool c)).run P w = .ok (b == c) w := by
    show (Op.equalIn (9999 + 1) t (.bool b) (.bool c)).run P w = _
    unfold Op.equalIn
    rw [Sem.run_bind, run_underlying i.h]
    rfl
  have h3 : (binOp .neq t (.bool b) (.bool c)).run P w = .ok (.bool (!(b == c))) w := by
    show (do pure (Value.bool (!(← Op.equal t (.bool b) (.bool c)))) : Sem Value).run P w = _
    rw [Sem.run_bind, h2]
    rfl
  simp only [execOp, hx, hy, Sem.run_bind, he, Result.andThen_ok, h3, Sem.run_pure]
end
/-! texts -/
section
variable {x y : Operand} {t t' : TypeId} {s u : List UInt8}
theorem str_run {op : BinOp} {v : Value} (hx : a.eval x = .string ⟨s.toArray⟩) (hy : a.eval y = .string ⟨u.toArray⟩) (hr : (binOp op t (.string ⟨s.toArray⟩) (.string ⟨u.toArray⟩)).run P w = .ok v w)
    (hk : K (a.put dst v) w) : (Oper.mk dst (.binOp op t x y t') ty pos after guard).wp P a w K Q := by
  refine wp_run ?_ hk
  have he : (eqGuard op t x y (.string ⟨s.toArray⟩) (.string ⟨u.toArray⟩)).run P w = .ok () w := by
    unfold eqGuard
    cases op <;> simp
  simp only [execOp, hx, hy, Sem.run_bind, he, Result.andThen_ok, hr, Sem.run_pure]
theorem r_cat (hx : a.eval x = .string ⟨s.toArray⟩) (hy : a.eval y = .string ⟨u.toArray⟩) (hl : s.length + u.length ≤ 9223372036854775807) (hk : K (a.put dst (.string ⟨(s ++ u).toArray⟩)) w) : (Oper.mk dst (.binOp .add t x y t') ty pos after guard).wp P a w K Q := by
  refine str_run hx hy ?_ hk
  have e : (ByteArray.mk s.toArray ++ ByteArray.mk u.toArray) = ByteArray.mk (s ++ u).toArray := by
    apply ByteArray.ext
    simp [ByteArray.data_append]
  have h1 : (ByteArray.mk s.toArray).size = s.length := by simp [ByteArray.size]
  have h2 : (ByteArray.mk u.toArray).size = u.length := by simp [ByteArray.size]
  have h3 : ¬ (((s.length + u.length : Nat) : Int) > IntKind.i64.max) := by
    have : IntKind.i64.max = 9223372036854775807 := by decide
    rw [this]; omega
  simp only [binOp, Op.stringOp, h1, h2, if_neg h3, e, Sem.run_pure]
theorem r_seql (hx : a.eval x = .string ⟨s.toArray⟩) (hy : a.eval y = .string ⟨u.toArray⟩) (hk : K (a.put dst (.bool (s == u))) w) : (Oper.mk dst (.binOp .eql t x y t') ty pos after guard).wp P a w K Q :=
  str_run hx hy (by simp [binOp, Op.stringOp]) hk
theorem r_sneq (hx : a.eval x = .string ⟨s.toArray⟩) (hy : a.eval y = .string ⟨u.toArray⟩) (hk : K (a.put dst (.bool (!(s == u)))) w) : (Oper.mk dst (.binOp .neq t x y t') ty pos after guard).wp P a w K Q :=
  str_run hx hy (by simp [binOp, Op.stringOp]) hk
theorem r_slss (hx : a.eval x = .string ⟨s.toArray⟩) (hy : a.eval y = .string ⟨u.toArray⟩) (hk : K (a.put dst (.bool (Op.bytesLess s u))) w) : (Oper.mk dst (.binOp .lss t x y t') ty pos after guard).wp P a w K Q :=
  str_run hx hy (by simp [binOp, Op.stringOp]) hk
theorem r_sleq (hx : a.eval x = .string ⟨s.toArray⟩) (hy : a.eval y = .string ⟨u.toArray⟩) (hk : K (a.put dst (.bool (Op.bytesLess s u || s == u))) w) : (Oper.mk dst (.binOp .leq t x y t') ty pos after guard).wp P a w K Q :=
  str_run hx hy (by simp [binOp, Op.stringOp]) hk
theorem r_len_str [i : TStr P t] (hx : a.eval x = .string ⟨s.toArray⟩) (hk : K (a.put dst (.int .i64 s.length)) w) : (Oper.mk dst (.call ⟨.builtin .len, #[x], #[t]⟩) ty pos after guard).wp P a w K Q := by
  refine wp_run ?_ hk
  have hz : (ByteArray.mk s.toArray).size = s.length := by simp [ByteArray.size]
  simp [execOp, resolve, invoke, builtin, hx, run_len_string w t ty _ i.h, goInt, hz]
theorem r_index_str [i : TStr P t] {k : IntKind} {n : Int} (hx : a.eval x = .string ⟨s.toArray⟩) (hy : a.eval y = .int k n) (h0 : 0 ≤ n) (h1 : n < s.length) (hk : K (a.put dst (.int .u8 (s.getD n.toNat 0).toNat)) w) : (Oper.mk dst (.index t x y) ty pos after guard).wp P a w K Q := by
  refine wp_run ?_ hk
  have hlt : n.toNat < s.length := by omega
  have hz : (ByteArray.mk s.toArray).size = s.length := by simp [ByteArray.size]
  have hz' : n.toNat < (ByteArray.mk s.toArray).size := by rw [hz]; exact hlt
  have e : (ByteArray.mk s.toArray)[n.toNat]? = some (s.getD n.toNat 0) := by
    rw [ByteArray.getElem?_lt' _ _ hz']
    simp [List.getD_eq_getElem?_getD, hlt]
    rfl
  simp [execOp, hx, hy, Instr.index, asIntOf, run_underlying i.h, h0, e]
theorem r_slice_str [i : TStr P t] {lo hi : Option Operand} {l h : Nat} (hx : a.eval x = .string ⟨s.toArray⟩)
    (hl : match lo with | none => l = 0 | some o => ∃ k : IntKind, a.eval o = .int k (l : Int)) (hh : match hi with | none => h = s.length | some o => ∃ k : IntKind, a.eval o = .int k (h : Int)) (h1 : l ≤ h) (h2 : h ≤ s.length)
    (hk : K (a.put dst (.string ⟨((s.take h).drop l).toArray⟩)) w) : (Oper.mk dst (.slice t x lo hi none) ty pos after guard).wp P a w K Q := by
  refine wp_run ?_ hk
  have hz : (ByteArray.mk s.toArray).size = s.length := by simp [ByteArray.size]
  have e : (ByteArray.mk s.toArray).extract l h = ByteArray.mk ((s.take h).drop l).toArray := by
    rw [ByteArray.extract_mk, List.drop_take]
  cases lo with
  | none =>
    simp only at hl
    subst hl
    cases hi with
    | none =>
      simp only at hh
      subst hh
      simp [execOp, hx, Instr.sliceAt, Instr.slice, Instr.sliceBounds, run_underlying i.h, hz, e]
    | some o =>
      obtain ⟨k, hk'⟩ := hh
      have hb : (0 : Int) ≤ h ∧ (h : Int) ≤ s.length := by omega
      simp [execOp, hx, Instr.sliceAt, Instr.slice, Instr.sliceBounds, Instr.sliceBound, asIntOf, run_underlying i.h, hz, e, hk', h2]
  | some o =>
    obtain ⟨k, hk'⟩ := hl
    cases hi with
    | none =>
      simp only at hh
      subst hh
      simp [execOp, hx, Instr.sliceAt, Instr.slice, Instr.sliceBounds, Instr.sliceBound, asIntOf, run_underlying i.h, hz, e, hk', h1]
    | some o' =>
      obtain ⟨k', hk''⟩ := hh
      simp [execOp, hx, Instr.sliceAt, Instr.slice, Instr.sliceBounds, Instr.sliceBound, asIntOf, run_underlying i.h, hz, e, hk', hk'', h1, h2]
end
/-! parts of aggregates -/
theorem r_field1 {x : Operand} {t : TypeId} {i off n : Nat} [f : TFld P t i off n false] {cs : List Value} {v : Value} (hx : a.eval x = .agg cs.toArray) (hv : cs[off]? = some v) (hk : K (a.put dst v) w) : (Oper.mk dst (.field t x i) ty pos after guard).wp P a w K Q := by
  obtain ⟨fs, f, d, h1, h2, h3, h4, h5, h6⟩ := f.h
  refine wp_run ?_ hk
  simp [execOp, hx, Instr.field, run_underlying h1, h2, asAgg, part, run_isAgg_of h4, h5, h3, hv]
theorem r_fieldN {x : Operand} {t : TypeId} {i off n : Nat} [f : TFld P t i off n true] {cs : List Value} (hx : a.eval x = .agg cs.toArray) (hk : K (a.put dst (.agg ((cs.drop off).take (n + 1)).toArray)) w) : (Oper.mk dst (.field t x i) ty pos after guard).wp P a w K Q := by
  obtain ⟨fs, f, d, h1, h2, h3, h4, h5, h6⟩ := f.h
  refine wp_run ?_ hk
  have e : cs.toArray.extract off (off + (n + 1)) = ((cs.drop off).take (n + 1)).toArray := by simp [List.drop_take]
  simp only [execOp, hx, Instr.field, run_underlying h1, h2, asAgg, part, run_isAgg_of h4, h5, h3, run_sizeOf_of h6, Sem.run_bind, Sem.run_pure, Result.andThen_ok, if_true, e]
theorem r_fieldAddr {x : Operand} {t : TypeId} {i off n : Nat} {ag : Bool} [f : TFld P t i off n ag] {b p : Nat} (hx : a.eval x = .pointer (some ⟨b, p, none⟩)) (hk : K (a.put dst (.pointer (some ⟨b, p + off, none⟩))) w) : (Oper.mk dst (.fieldAddr t x i) ty pos after guard).wp P a w K Q := by
  obtain ⟨fs, f, d, h1, h2, h3, h4, h5, h6⟩ := f.h
  refine wp_run ?_ hk
  have e : (⟨b, p, none⟩ : Addr).add off = ⟨b, p + off, none⟩ := by unfold Addr.add; split <;> simp_all
  simp [execOp, hx, Instr.fieldAt, run_underlying h1, h2, Instr.sureAddr, fieldPlace, run_sizeOf_of h6, h3, e]
/-! memory -/
theorem r_load1 {x : Operand} {t : TypeId} [i : TOne P t] {p : Addr} {v : Value} (hx : a.eval x = .pointer (some p)) (hc : w.cell? p = some v) (hk : K (a.put dst v) w) : (Oper.mk dst (.load t x) ty pos after guard).wp P a w K Q := by
  obtain ⟨d, h1, h2⟩ := i.h
  refine wp_run ?_ hk
  simp [execOp, hx, Instr.loadAt, Instr.sureAddr, loadVar, run_isAgg_of h1, h2, hc]
theorem r_loadN {x : Operand} {t n : Nat} [i : TRow P t n] {b p : Nat} {cs : List Value} (hx : a.eval x = .pointer (some ⟨b, p, none⟩)) (hc : RowAt w b p cs) (hn : cs.length = n) (hk : K (a.put dst (.agg cs.toArray)) w) : (Oper.mk dst (.load t x) ty pos after guard).wp P a w K Q := by
  obtain ⟨d, h1, h2⟩ := i.h
  refine wp_load_at t x b p cs d rfl hx hc h1 (by cases d <;> simp_all [aggDesc]) (by rw [i.sz, hn]) hk
theorem r_indexAddr {x y : Operand} {t e n : Nat} [i : TSlice P t e] [z : TSize P e n] {b p l c : Nat} {k : IntKind} {j : Int} (hx : a.eval x = .slice (some ⟨b, p, none⟩) l c) (hy : a.eval y = .int k j) (h0 : 0 ≤ j) (h1 : j < l)
    (hk : K (a.put dst (.pointer (some ⟨b, p + j.toNat * n, none⟩))) w) : (Oper.mk dst (.indexAddr t x y) ty pos after guard).wp P a w K Q := by
  refine wp_run ?_ hk
  have e : (⟨b, p, none⟩ : Addr).add (j.toNat * n) = ⟨b, p + j.toNat * n, none⟩ := by unfold Addr.add; split <;> simp_all
  simp [execOp, hx, hy, Instr.indexAt, asIntOf, run_underlying i.h, h0, h1, run_sizeOf_of z.sz, e]
theorem r_len_slice {x : Operand} {t e : Nat} [i : TSlice P t e] {A : Option Addr} {l c : Nat} (hx : a.eval x = .slice A l c) (hk : K (a.put dst (.int .i64 l)) w) : (Oper.mk dst (.call ⟨.builtin .len, #[x], #[t]⟩) ty pos after guard).wp P a w K Q := by
  refine wp_run ?_ hk
  simp [execOp, resolve, invoke, builtin, hx, Builtin.len_, run_underlying i.h, goInt]
theorem r_box {x : Operand} {t : TypeId} {v : Value} (hx : a.eval x = v) (hk : ∀ g w', Blk w' g t v.cells → Ext w w' → g = w.heap.size → K (a.put dst (.pointer (some ⟨g, 0, none⟩))) w') : (Oper.mk dst (.box t x) ty pos after guard).wp P a w K Q := by
  have h := hk w.heap.size (w.alloc (.cells v.cells t)) (Blk.new _ _ _) (Ext.alloc _ _) rfl
  unfold Oper.wp
  have e : (execOp a.eval (Oper.mk dst (.box t x) ty pos after guard)).run P w = .ok (.value (.pointer (some ⟨w.heap.size, 0, none⟩))) (w.alloc (.cells v.cells t)) := by
    simp [execOp, hx, Instr.box, newVar, newRow]
  rw [e]
  exact h
theorem r_alloc {t : TypeId} {cs : List Value} [i : TZer P t cs] (hk : ∀ g w', Blk w' g t cs.toArray → Ext w w' → g = w.heap.size → K (a.put dst (.pointer (some ⟨g, 0, none⟩))) w') : (Oper.mk dst (.alloc t) ty pos after guard).wp P a w K Q := by
  have h := hk w.heap.size (w.alloc (.cells cs.toArray t)) (Blk.new _ _ _) (Ext.alloc _ _) rfl
  have hz := i.h
  unfold Oper.wp
  have e : (execOp a.eval (Oper.mk dst (.alloc t) ty pos after guard)).run P w = .ok (.value (.pointer (some ⟨w.heap.size, 0, none⟩))) (w.alloc (.cells cs.toArray t)) := by
    cases hi : P.info? t with
    | none => simp [hi] at hz
    | some inf =>
      cases hzz : inf.zero with
      | none => simp [hi, hzz] at hz
      | some z =>
        have hzc : z.cells.toList = cs := by simpa [hi, hzz] using hz
        have hzc' : z.cells = cs.toArray := by rw [← hzc]
        simp [execOp, Instr.alloc, zeroValue, typeInfo, hi, hzz, newVar, newRow, hzc']
  rw [e]
  exact h
/-! calls -/
theorem r_call {f : FuncId} [e : Enters P f] {xs : Array Operand} {ts : Array TypeId} {args : Array Value} {R : Ending → World → Prop} (hc : Calls P f args w R) (hx : xs.map a.eval = args)
    (hk : ∀ e w', R e w' → match e with | .returned v => K (a.put dst v) w' | .panicked ch => Q (.panic ch) a w' | .outgrown => LetsOut Q) : (Oper.mk dst (.call ⟨.value (.func f), xs, ts⟩) ty pos after guard).wp P a w K Q := by
  subst hx
  have e : (execOp a.eval (Oper.mk dst (.call ⟨.value (.func f), xs, ts⟩) ty pos after guard)).run P w = .ok (.enter f (xs.map a.eval)) w := by
    simp [execOp, resolve, Act.eval, Deferred.ofValue, invoke, run_callFunc]
  unfold Oper.wp
  rw [e]
  refine Calls.mono hc fun en w' hr => ?_
  have := hk en w' hr
  cases en <;> exact this
theorem r_enter {f : FuncId} [e : Enters P f] {xl : List Operand} {al : List Value} {ts : Array TypeId} (hx : xl.map a.eval = al)
    (hc : Calls P f al.toArray w (fun e w' => match e with | .returned v => K (a.put dst v) w' | .panicked ch => Q (.panic ch) a w' | .outgrown => LetsOut Q)) : (Oper.mk dst (.call ⟨.value (.func f), xl.toArray, ts⟩) ty pos after guard).wp P a w K Q :=
  r_call hc (by rw [← hx]; simp) fun e w' h => by cases e <;> exact h
theorem r_box1 {x : Operand} {t : TypeId} {v : Value} (hx : a.eval x = v) (h1 : v.oneCell' = true) (hk : ∀ g w', Blk w' g t [v].toArray → Ext w w' → g = w.heap.size → K (a.put dst (.pointer (some ⟨g, 0, none⟩))) w') : (Oper.mk dst (.box t x) ty pos after guard).wp P a w K Q := by
  refine r_box hx ?_
  have e : v.cells = [v].toArray := by cases v <;> first | rfl | cases h1
  rw [e]; exact hk
theorem r_boxN {x : Operand} {t : TypeId} {cs : List Value} (hx : a.eval x = .agg cs.toArray) (hk : ∀ g w', Blk w' g t cs.toArray → Ext w w' → g = w.heap.size → K (a.put dst (.pointer (some ⟨g, 0, none⟩))) w') : (Oper.mk dst (.box t x) ty pos after guard).wp P a w K Q :=
  r_box hx hk
theorem r_quo_nn {x y : Operand} {t t' : TypeId} {p q : Int} (hx : a.eval x = .int .i64 p) (hy : a.eval y = .int .i64 q) (h0 : 0 ≤ p) (h1 : 1 ≤ q) (h2 : p ≤ 9223372036854775807) (hk : K (a.put dst (.int .i64 (p / q))) w) : (Oper.mk dst (.binOp .quo t x y t') ty pos after guard).wp P a w K Q :=
  r_quo hx hy (by omega) (IntWalk.i64_quo _ _ ⟨h0, h2, h1⟩) hk
theorem r_rem_nn {x y : Operand} {t t' : TypeId} {k : IntKind} {p q : Int} (hx : a.eval x = .int k p) (hy : a.eval y = .int k q) (h0 : 0 ≤ p) (h1 : 1 ≤ q) (hk : K (a.put dst (.int k (p % q))) w) : (Oper.mk dst (.binOp .rem t x y t') ty pos after guard).wp P a w K Q :=
  r_rem hx hy (by omega) (IntWalk.rem_in _ _ h0) hk
end
section
variable {P : Program} {Q : Exit → Act → World → Prop} {K : Act → World → Prop} {a : Act} {w : World}
theorem wp_region_lit_ng {id : Nat} {l : List Oper} (_h : (l.all (·.guard.isNone)) = true) (h : wpList P l.toArray Q l a w) : (Code.region id l.toArray false).wp P Q a w := wp_region_lit h
theorem no_region {id : Nat} {ops : Array Oper} {d : Bool} (h : False) : (Code.region id ops d).wp P Q a w := h.elim
theorem no_list {ops : Array Oper} {l : List Oper} (h : False) : wpList P ops Q l a w := h.elim
theorem no_par {ops : Array Oper} {w0 : World} {l : List Oper} {ss : List Spec} {fs : List (World → Prop)} (h : False) : ParSteps P ops Q w0 l ss fs a := h.elim
theorem no_oper {o : Oper} (h : False) : o.wp P a w K Q := h.elim
theorem no_loop {c : Code} (h : False) : (Code.loop c).wp P Q a w := h.elim
theorem ev_tmp (l : List Value) (d : List Deferred) (t : Nat) : (Act.mk l.toArray d).eval (.tmp t) = l.getD t undef := by simp [Act.eval]
theorem ev_const (a : Act) (v : Value) : a.eval (.const v) = v := rfl
theorem ev_glob (a : Act) (g : Nat) : a.eval (.global g) = .pointer (some ⟨g, 0, none⟩) := rfl
theorem ev_fn (a : Act) (f : Nat) : a.eval (.func f) = .func (.func f) #[] #[] := rfl
theorem cell_blk {w w' : World} {b j : Nat} {t : TypeId} {cs : List Value} {v : Value} (h : Blk w b t cs.toArray) (hx : Ext w w') (hv : cs[j]? = some v) : w'.cell? ⟨b, j, none⟩ = some v := by
  rw [(h.ext hx).cell j]; simpa using hv
theorem cell_row0 {w w' : World} {b j : Nat} {cs : List Value} {v : Value} (h : RowAt w b 0 cs) (hx : Ext w w') (hv : cs[j]? = some v) : w'.cell? ⟨b, j, none⟩ = some v := by
  have := (h.ext hx) j v hv; rwa [Nat.zero_add] at this
theorem cell_row {w w' : World} {b p j : Nat} {cs : List Value} {v : Value} (h : RowAt w b p cs) (hx : Ext w w') (hv : cs[j]? = some v) : w'.cell? ⟨b, p + j, none⟩ = some v := (h.ext hx) j v hv
theorem cell_rowp {w w' : World} {b p : Nat} {cs : List Value} {v : Value} (h : RowAt w b p cs) (hx : Ext w w') (hv : cs[0]? = some v) : w'.cell? ⟨b, p, none⟩ = some v := (h.ext hx) 0 v hv
theorem row_blk {w w' : World} {b : Nat} {t : TypeId} {cs : List Value} (h : Blk w b t cs.toArray) (hx : Ext w w') : RowAt w' b 0 cs := fun j u hu => by
  rw [Nat.zero_add, (h.ext hx).cell j]; simpa using hu
end
/-! ### The same under short names: rewriting of frames, and the chain of worlds -/
theorem SS : (∀ (l : List Value) (ds : List Deferred) (d : Nat) (v : Value), (Act.mk l.toArray ds).put (some d) v = Act.mk (l.set d v).toArray ds) ∧ (∀ (a : Act) (v : Value), a.put none v = a) ∧ (∀ (v x : Value) (l : List Value), (x :: l).set 0 v = v :: l) ∧ (∀ (v x : Value) (l : List Value) (n : Nat), (x :: l).set (n + 1) v = x :: l.set n v) ∧
    (∀ n : Nat, 0 + n = n) ∧ (∀ n : Nat, n + 0 = n) ∧ (∀ n : Nat, (n : Int).toNat = n) ∧ (∀ n : Nat, n * 1 = n) ∧ ((0 : Int).toNat = 0) ∧ (∀ n : Nat, 0 * n = 0) ∧ (∀ l : List Value, l.drop 0 = l) ∧ (∀ (x : Value) (l : List Value) (n : Nat), (x :: l).drop (n + 1) = l.drop n) ∧ (∀ (x : Value) (l : List Value) (n : Nat), (x :: l).take (n + 1) = x :: l.take n) ∧ (∀ l : List Value, l.take 0 = []) := by
  refine ⟨fun l ds d v => by simp [Act.put], fun _ _ => rfl, fun _ _ _ => rfl, fun _ _ _ _ => rfl, Nat.zero_add, Nat.add_zero, fun _ => rfl, Nat.mul_one, rfl, Nat.zero_mul, fun _ => rfl, fun _ _ _ => rfl, fun _ _ _ => rfl, fun l => by simp⟩
theorem SB : (∀ cs : Array Value, (Value.agg cs).cells = cs) ∧ (∀ k n, (Value.int k n).cells = #[.int k n]) ∧ (∀ s, (Value.string s).cells = #[.string s]) ∧ (∀ b, (Value.bool b).cells = #[.bool b]) ∧ (∀ p, (Value.pointer p).cells = #[.pointer p]) ∧ (∀ x l c, (Value.slice x l c).cells = #[.slice x l c]) ∧ (∀ m, (Value.map m).cells = #[.map m]) ∧
    (∀ (x : Value) (a b : List Value), (x :: a) ++ b = x :: (a ++ b)) ∧ (∀ a : List Value, [] ++ a = a) ∧ (∀ a : List Value, a ++ [] = a) ∧ (∀ a b c : List Value, (a ++ b) ++ c = a ++ (b ++ c)) ∧ (∀ (a : List Value) (b : List (List Value)), (a :: b).flatten = a ++ b.flatten) ∧ (([] : List (List Value)).flatten = []) ∧ (∀ l : List Value, l.toArray.toList = l) := by
  refine ⟨fun _ => rfl, fun _ _ => rfl, fun _ => rfl, fun _ => rfl, fun _ => rfl, fun _ _ _ => rfl, fun _ => rfl, fun _ _ _ => rfl, fun _ => rfl, List.append_nil, List.append_assoc, fun _ _ => rfl, rfl, fun _ => rfl⟩
theorem EE : (∀ (l : List Value) (d : List Deferred) (t : Nat), (Act.mk l.toArray d).eval (.tmp t) = l.getD t undef) ∧ (∀ (a : Act) (v : Value), a.eval (.const v) = v) ∧ (∀ (a : Act) (g : Nat), a.eval (.global g) = .pointer (some ⟨g, 0, none⟩)) ∧ (∀ (a : Act) (f : Nat), a.eval (.func f) = .func (.func f) #[] #[]) ∧
    (∀ (f : Operand → Value), [].map f = []) ∧ (∀ (f : Operand → Value) (x : Operand) (l : List Operand), (x :: l).map f = f x :: l.map f) ∧ (∀ (f : Nat × Operand → Nat × Value), [].map f = []) ∧ (∀ (f : Nat × Operand → Nat × Value) (x : Nat × Operand) (l : List (Nat × Operand)), (x :: l).map f = f x :: l.map f) ∧
    (∀ (x : Value) (l : List Value) (d : Value), (x :: l).getD 0 d = x) ∧ (∀ (x : Value) (l : List Value) (d : Value) (n : Nat), (x :: l).getD (n + 1) d = l.getD n d) :=
  ⟨ev_tmp, ev_const, ev_glob, ev_fn, fun _ => rfl, fun _ _ _ => rfl, fun _ => rfl, fun _ _ _ => rfl, fun _ _ _ => rfl, fun _ _ _ _ => rfl⟩
theorem bff {x : Bool} (h : x = false) (k : x = true) : False := by rw [h] at k; cases k
theorem bft {x : Bool} (h : x = true) (k : x = false) : False := by rw [h] at k; cases k
theorem xr (w : World) : Ext w w := Ext.refl w
theorem xtb {a b c : World} (k : Ext b c) (h : Ext a b) : Ext a c := h.trans k
theorem xz {a z b c : World} (hb : Below z.heap.size b c) (h1 : Ext a z) (h2 : Ext z b) : Ext a c := h1.trans (Below.trans h2 hb)
theorem xt {a b c : World} (h : Ext a b) (k : Ext b c) : Ext a c := h.trans k
section
variable {w w' : World} {b p j : Nat} {t : TypeId} {cs : List Value} {v : Value}
theorem cb (h : Blk w b t cs.toArray) (hx : Ext w w') (hv : cs[j]? = some v) : w'.cell? ⟨b, j, none⟩ = some v := cell_blk h hx hv
theorem c0 (h : RowAt w b 0 cs) (hx : Ext w w') (hv : cs[j]? = some v) : w'.cell? ⟨b, j, none⟩ = some v := cell_row0 h hx hv
theorem cr (h : RowAt w b p cs) (hx : Ext w w') (hv : cs[j]? = some v) : w'.cell? ⟨b, p + j, none⟩ = some v := cell_row h hx hv
theorem cp (h : RowAt w b p cs) (hx : Ext w w') (hv : cs[0]? = some v) : w'.cell? ⟨b, p, none⟩ = some v := cell_rowp h hx hv
theorem cx {q : Addr} (h : w.cell? q = some v) (hx : Ext w w') : w'.cell? q = some v := hx.cell h
theorem rb (h : Blk w b t cs.toArray) (hx : Ext w w') : RowAt w' b 0 cs := row_blk h hx
theorem rx (h : RowAt w b p cs) (hx : Ext w w') : RowAt w' b p cs := h.ext hx
end
end Go.Proofs.YthbhjladfniboaaDoor
namespace Go.Proofs.YthbhjladfniboaaDoor
set_option linter.unusedSimpArgs false
set_option linter.unusedVariables false
open Go.RowKit
section
variable {P : Program} {Q : Exit → Act → World → Prop} {a : Act} {w : World} {dst : Option Tmp} {ty : TypeId} {pos : String} {after : Array Edge} {ops : Array Oper} {rest : List Oper} {ss : List Spec} {fs : List (World → Prop)}
theorem l_move {x : Operand} {v : Value} (hx : a.eval x = v) (hr : wpList P ops Q rest (a.put dst v) w) : wpList P ops Q (Oper.mk dst (.move x) ty pos after none :: rest) a w := by
  refine wpList_plain rfl fun K hK => ?_
  apply r_move <;> first | assumption | exact hK _ _ hr
theorem p_move {x : Operand} {v : Value} (hx : a.eval x = v) (hr : ParSteps P ops Q w rest ss (fs ++ [fun _ => True]) (a.put dst v)) : ParSteps P ops Q w (Oper.mk dst (.move x) ty pos after none :: rest) (Spec.det v :: ss) fs a := by
  refine par_val rfl (fun w1 hw1 K hK => ?_) hr
  apply r_move <;> first | assumption | exact hK _ (Ext.refl _) | exact Ext.cell hw1 (by assumption) | exact RowAt.ext (by assumption) hw1
theorem l_assign {x : Operand} {v : Value} (hx : a.eval x = v) (hr : wpList P ops Q rest (a.put dst v) w) : wpList P ops Q (Oper.mk dst (.assign x) ty pos after none :: rest) a w := by
  refine wpList_plain rfl fun K hK => ?_
  apply r_assign <;> first | assumption | exact hK _ _ hr
theorem p_assign {x : Operand} {v : Value} (hx : a.eval x = v) (hr : ParSteps P ops Q w rest ss (fs ++ [fun _ => True]) (a.put dst v)) : ParSteps P ops Q w (Oper.mk dst (.assign x) ty pos after none :: rest) (Spec.det v :: ss) fs a := by
  refine par_val rfl (fun w1 hw1 K hK => ?_) hr
  apply r_assign <;> first | assumption | exact hK _ (Ext.refl _) | exact Ext.cell hw1 (by assumption) | exact RowAt.ext (by assumption) hw1
theorem l_nilCheck {x : Operand} {p : Addr} (hx : a.eval x = .pointer (some p)) (hr : wpList P ops Q rest (a.put dst (.pointer (some p))) w) : wpList P ops Q (Oper.mk dst (.nilCheck x) ty pos after none :: rest) a w := by
  refine wpList_plain rfl fun K hK => ?_
  apply r_nilCheck <;> first | assumption | exact hK _ _ hr
theorem p_nilCheck {x : Operand} {p : Addr} (hx : a.eval x = .pointer (some p)) (hr : ParSteps P ops Q w rest ss (fs ++ [fun _ => True]) (a.put dst (.pointer (some p)))) : ParSteps P ops Q w (Oper.mk dst (.nilCheck x) ty pos after none :: rest) (Spec.det (.pointer (some p)) :: ss) fs a := by
  refine par_val rfl (fun w1 hw1 K hK => ?_) hr
  apply r_nilCheck <;> first | assumption | exact hK _ (Ext.refl _) | exact Ext.cell hw1 (by assumption) | exact RowAt.ext (by assumption) hw1
theorem l_extract {x : Operand} {i : Nat} {vs : List Value} {v : Value} (hx : a.eval x = .tuple vs.toArray) (hv : vs[i]? = some v) (hr : wpList P ops Q rest (a.put dst v) w) : wpList P ops Q (Oper.mk dst (.extract x i) ty pos after none :: rest) a w := by
  refine wpList_plain rfl fun K hK => ?_
  apply r_extract <;> first | assumption | exact hK _ _ hr
theorem p_extract {x : Operand} {i : Nat} {vs : List Value} {v : Value} (hx : a.eval x = .tuple vs.toArray) (hv : vs[i]? = some v) (hr : ParSteps P ops Q w rest ss (fs ++ [fun _ => True]) (a.put dst v)) : ParSteps P ops Q w (Oper.mk dst (.extract x i) ty pos after none :: rest) (Spec.det v :: ss) fs a := by
  refine par_val rfl (fun w1 hw1 K hK => ?_) hr
  apply r_extract <;> first | assumption | exact hK _ (Ext.refl _) | exact Ext.cell hw1 (by assumption) | exact RowAt.ext (by assumption) hw1
theorem l_not {x : Operand} {t : TypeId} {b : Bool} (hx : a.eval x = .bool b) (hr : wpList P ops Q rest (a.put dst (.bool (!b))) w) : wpList P ops Q (Oper.mk dst (.unOp .not t x) ty pos after none :: rest) a w := by
  refine wpList_plain rfl fun K hK => ?_
  apply r_not <;> first | assumption | exact hK _ _ hr
theorem p_not {x : Operand} {t : TypeId} {b : Bool} (hx : a.eval x = .bool b) (hr : ParSteps P ops Q w rest ss (fs ++ [fun _ => True]) (a.put dst (.bool (!b)))) : ParSteps P ops Q w (Oper.mk dst (.unOp .not t x) ty pos after none :: rest) (Spec.det (.bool (!b)) :: ss) fs a := by
  refine par_val rfl (fun w1 hw1 K hK => ?_) hr
  apply r_not <;> first | assumption | exact hK _ (Ext.refl _) | exact Ext.cell hw1 (by assumption) | exact RowAt.ext (by assumption) hw1
theorem l_add {x y : Operand} {t t' : TypeId} {k : IntKind} {p q : Int} {r : Int} (hx : a.eval x = .int k p) (hy : a.eval y = .int k q) (hr : k.wrap (p + q) = r) (hr : wpList P ops Q rest (a.put dst (.int k r)) w) : wpList P ops Q (Oper.mk dst (.binOp .add t x y t') ty pos after none :: rest) a w := by
  refine wpList_plain rfl fun K hK => ?_
  apply r_add <;> first | assumption | exact hK _ _ hr
theorem p_add {x y : Operand} {t t' : TypeId} {k : IntKind} {p q : Int} {r : Int} (hx : a.eval x = .int k p) (hy : a.eval y = .int k q) (hr : k.wrap (p + q) = r) (hr : ParSteps P ops Q w rest ss (fs ++ [fun _ => True]) (a.put dst (.int k r))) : ParSteps P ops Q w (Oper.mk dst (.binOp .add t x y t') ty pos after none :: rest) (Spec.det (.int k r) :: ss) fs a := by
  refine par_val rfl (fun w1 hw1 K hK => ?_) hr
  apply r_add <;> first | assumption | exact hK _ (Ext.refl _) | exact Ext.cell hw1 (by assumption) | exact RowAt.ext (by assumption) hw1
theorem l_sub {x y : Operand} {t t' : TypeId} {k : IntKind} {p q : Int} {r : Int} (hx : a.eval x = .int k p) (hy : a.eval y = .int k q) (hr : k.wrap (p - q) = r) (hr : wpList P ops Q rest (a.put dst (.int k r)) w) : wpList P ops Q (Oper.mk dst (.binOp .sub t x y t') ty pos after none :: rest) a w := by
  refine wpList_plain rfl fun K hK => ?_
  apply r_sub <;> first | assumption | exact hK _ _ hr
theorem p_sub {x y : Operand} {t t' : TypeId} {k : IntKind} {p q : Int} {r : Int} (hx : a.eval x = .int k p) (hy : a.eval y = .int k q) (hr : k.wrap (p - q) = r) (hr : ParSteps P ops Q w rest ss (fs ++ [fun _ => True]) (a.put dst (.int k r))) : ParSteps P ops Q w (Oper.mk dst (.binOp .sub t x y t') ty pos after none :: rest) (Spec.det (.int k r) :: ss) fs a := by
  refine par_val rfl (fun w1 hw1 K hK => ?_) hr
  apply r_sub <;> first | assumption | exact hK _ (Ext.refl _) | exact Ext.cell hw1 (by assumption) | exact RowAt.ext (by assumption) hw1
theorem l_mul {x y : Operand} {t t' : TypeId} {k : IntKind} {p q : Int} {r : Int} (hx : a.eval x = .int k p) (hy : a.eval y = .int k q) (hr : k.wrap (p * q) = r) (hr : wpList P ops Q rest (a.put dst (.int k r)) w) : wpList P ops Q (Oper.mk dst (.binOp .mul t x y t') ty pos after none :: rest) a w := by
  refine wpList_plain rfl fun K hK => ?_
  apply r_mul <;> first | assumption | exact hK _ _ hr
theorem p_mul {x y : Operand} {t t' : TypeId} {k : IntKind} {p q : Int} {r : Int} (hx : a.eval x = .int k p) (hy : a.eval y = .int k q) (hr : k.wrap (p * q) = r) (hr : ParSteps P ops Q w rest ss (fs ++ [fun _ => True]) (a.put dst (.int k r))) : ParSteps P ops Q w (Oper.mk dst (.binOp .mul t x y t') ty pos after none :: rest) (Spec.det (.int k r) :: ss) fs a := by
  refine par_val rfl (fun w1 hw1 K hK => ?_) hr
  apply r_mul <;> first | assumption | exact hK _ (Ext.refl _) | exact Ext.cell hw1 (by assumption) | exact RowAt.ext (by assumption) hw1
theorem l_quo {x y : Operand} {t t' : TypeId} {k : IntKind} {p q : Int} {r : Int} (hx : a.eval x = .int k p) (hy : a.eval y = .int k q) (h0 : q ≠ 0) (hr : k.wrap (p.tdiv q) = r) (hr : wpList P ops Q rest (a.put dst (.int k r)) w) : wpList P ops Q (Oper.mk dst (.binOp .quo t x y t') ty pos after none :: rest) a w := by
  refine wpList_plain rfl fun K hK => ?_
  apply r_quo <;> first | assumption | exact hK _ _ hr
theorem p_quo {x y : Operand} {t t' : TypeId} {k : IntKind} {p q : Int} {r : Int} (hx : a.eval x = .int k p) (hy : a.eval y = .int k q) (h0 : q ≠ 0) (hr : k.wrap (p.tdiv q) = r) (hr : ParSteps P ops Q w rest ss (fs ++ [fun _ => True]) (a.put dst (.int k r))) : ParSteps P ops Q w (Oper.mk dst (.binOp .quo t x y t') ty pos after none :: rest) (Spec.det (.int k r) :: ss) fs a := by
  refine par_val rfl (fun w1 hw1 K hK => ?_) hr
  apply r_quo <;> first | assumption | exact hK _ (Ext.refl _) | exact Ext.cell hw1 (by assumption) | exact RowAt.ext (by assumption) hw1
theorem l_rem {x y : Operand} {t t' : TypeId} {k : IntKind} {p q : Int} {r : Int} (hx : a.eval x = .int k p) (hy : a.eval y = .int k q) (h0 : q ≠ 0) (hr : p.tmod q = r) (hr : wpList P ops Q rest (a.put dst (.int k r)) w) : wpList P ops Q (Oper.mk dst (.binOp .rem t x y t') ty pos after none :: rest) a w := by
  refine wpList_plain rfl fun K hK => ?_
  apply r_rem <;> first | assumption | exact hK _ _ hr
theorem p_rem {x y : Operand} {t t' : TypeId} {k : IntKind} {p q : Int} {r : Int} (hx : a.eval x = .int k p) (hy : a.eval y = .int k q) (h0 : q ≠ 0) (hr : p.tmod q = r) (hr : ParSteps P ops Q w rest ss (fs ++ [fun _ => True]) (a.put dst (.int k r))) : ParSteps P ops Q w (Oper.mk dst (.binOp .rem t x y t') ty pos after none :: rest) (Spec.det (.int k r) :: ss) fs a := by
  refine par_val rfl (fun w1 hw1 K hK => ?_) hr
  apply r_rem <;> first | assumption | exact hK _ (Ext.refl _) | exact Ext.cell hw1 (by assumption) | exact RowAt.ext (by assumption) hw1
theorem l_neg {x : Operand} {t : TypeId} {k : IntKind} {p : Int} {r : Int} (hx : a.eval x = .int k p) (hr : k.wrap (0 - p) = r) (hr : wpList P ops Q rest (a.put dst (.int k r)) w) : wpList P ops Q (Oper.mk dst (.unOp .neg t x) ty pos after none :: rest) a w := by
  refine wpList_plain rfl fun K hK => ?_
  apply r_neg <;> first | assumption | exact hK _ _ hr
theorem p_neg {x : Operand} {t : TypeId} {k : IntKind} {p : Int} {r : Int} (hx : a.eval x = .int k p) (hr : k.wrap (0 - p) = r) (hr : ParSteps P ops Q w rest ss (fs ++ [fun _ => True]) (a.put dst (.int k r))) : ParSteps P ops Q w (Oper.mk dst (.unOp .neg t x) ty pos after none :: rest) (Spec.det (.int k r) :: ss) fs a := by
  refine par_val rfl (fun w1 hw1 K hK => ?_) hr
  apply r_neg <;> first | assumption | exact hK _ (Ext.refl _) | exact Ext.cell hw1 (by assumption) | exact RowAt.ext (by assumption) hw1
theorem l_eql {x y : Operand} {t t' : TypeId} {k : IntKind} {p q : Int} (hx : a.eval x = .int k p) (hy : a.eval y = .int k q) (hr : wpList P ops Q rest (a.put dst (.bool (p == q))) w) : wpList P ops Q (Oper.mk dst (.binOp .eql t x y t') ty pos after none :: rest) a w := by
  refine wpList_plain rfl fun K hK => ?_
  apply r_eql <;> first | assumption | exact hK _ _ hr
theorem p_eql {x y : Operand} {t t' : TypeId} {k : IntKind} {p q : Int} (hx : a.eval x = .int k p) (hy : a.eval y = .int k q) (hr : ParSteps P ops Q w rest ss (fs ++ [fun _ => True]) (a.put dst (.bool (p == q)))) : ParSteps P ops Q w (Oper.mk dst (.binOp .eql t x y t') ty pos after none :: rest) (Spec.det (.bool (p == q)) :: ss) fs a := by
  refine par_val rfl (fun w1 hw1 K hK => ?_) hr
  apply r_eql <;> first | assumption | exact hK _ (Ext.refl _) | exact Ext.cell hw1 (by assumption) | exact RowAt.ext (by assumption) hw1
theorem l_neq {x y : Operand} {t t' : TypeId} {k : IntKind} {p q : Int} (hx : a.eval x = .int k p) (hy : a.eval y = .int k q) (hr : wpList P ops Q rest (a.put dst (.bool (!(p == q)))) w) : wpList P ops Q (Oper.mk dst (.binOp .neq t x y t') ty pos after none :: rest) a w := by
  refine wpList_plain rfl fun K hK => ?_
  apply r_neq <;> first | assumption | exact hK _ _ hr
theorem p_neq {x y : Operand} {t t' : TypeId} {k : IntKind} {p q : Int} (hx : a.eval x = .int k p) (hy : a.eval y = .int k q) (hr : ParSteps P ops Q w rest ss (fs ++ [fun _ => True]) (a.put dst (.bool (!(p == q))))) : ParSteps P ops Q w (Oper.mk dst (.binOp .neq t x y t') ty pos after none :: rest) (Spec.det (.bool (!(p == q))) :: ss) fs a := by
  refine par_val rfl (fun w1 hw1 K hK => ?_) hr
  apply r_neq <;> first | assumption | exact hK _ (Ext.refl _) | exact Ext.cell hw1 (by assumption) | exact RowAt.ext (by assumption) hw1
theorem l_lss {x y : Operand} {t t' : TypeId} {k : IntKind} {p q : Int} (hx : a.eval x = .int k p) (hy : a.eval y = .int k q) (hr : wpList P ops Q rest (a.put dst (.bool (decide (p < q)))) w) : wpList P ops Q (Oper.mk dst (.binOp .lss t x y t') ty pos after none :: rest) a w := by
  refine wpList_plain rfl fun K hK => ?_
  apply r_lss <;> first | assumption | exact hK _ _ hr
theorem p_lss {x y : Operand} {t t' : TypeId} {k : IntKind} {p q : Int} (hx : a.eval x = .int k p) (hy : a.eval y = .int k q) (hr : ParSteps P ops Q w rest ss (fs ++ [fun _ => True]) (a.put dst (.bool (decide (p < q))))) : ParSteps P ops Q w (Oper.mk dst (.binOp .lss t x y t') ty pos after none :: rest) (Spec.det (.bool (decide (p < q))) :: ss) fs a := by
  refine par_val rfl (fun w1 hw1 K hK => ?_) hr
  apply r_lss <;> first | assumption | exact hK _ (Ext.refl _) | exact Ext.cell hw1 (by assumption) | exact RowAt.ext (by assumption) hw1
theorem l_leq {x y : Operand} {t t' : TypeId} {k : IntKind} {p q : Int} (hx : a.eval x = .int k p) (hy : a.eval y = .int k q) (hr : wpList P ops Q rest (a.put dst (.bool (decide (p ≤ q)))) w) : wpList P ops Q (Oper.mk dst (.binOp .leq t x y t') ty pos after none :: rest) a w := by
  refine wpList_plain rfl fun K hK => ?_
  apply r_leq <;> first | assumption | exact hK _ _ hr
theorem p_leq {x y : Operand} {t t' : TypeId} {k : IntKind} {p q : Int} (hx : a.eval x = .int k p) (hy : a.eval y = .int k q) (hr : ParSteps P ops Q w rest ss (fs ++ [fun _ => True]) (a.put dst (.bool (decide (p ≤ q))))) : ParSteps P ops Q w (Oper.mk dst (.binOp .leq t x y t') ty pos after none :: rest) (Spec.det (.bool (decide (p ≤ q))) :: ss) fs a := by
  refine par_val rfl (fun w1 hw1 K hK => ?_) hr
  apply r_leq <;> first | assumption | exact hK _ (Ext.refl _) | exact Ext.cell hw1 (by assumption) | exact RowAt.ext (by assumption) hw1
theorem l_gtr {x y : Operand} {t t' : TypeId} {k : IntKind} {p q : Int} (hx : a.eval x = .int k p) (hy : a.eval y = .int k q) (hr : wpList P ops Q rest (a.put dst (.bool (decide (q < p)))) w) : wpList P ops Q (Oper.mk dst (.binOp .gtr t x y t') ty pos after none :: rest) a w := by
  refine wpList_plain rfl fun K hK => ?_
  apply r_gtr <;> first | assumption | exact hK _ _ hr
theorem p_gtr {x y : Operand} {t t' : TypeId} {k : IntKind} {p q : Int} (hx : a.eval x = .int k p) (hy : a.eval y = .int k q) (hr : ParSteps P ops Q w rest ss (fs ++ [fun _ => True]) (a.put dst (.bool (decide (q < p))))) : ParSteps P ops Q w (Oper.mk dst (.binOp .gtr t x y t') ty pos after none :: rest) (Spec.det (.bool (decide (q < p))) :: ss) fs a := by
  refine par_val rfl (fun w1 hw1 K hK => ?_) hr
  apply r_gtr <;> first | assumption | exact hK _ (Ext.refl _) | exact Ext.cell hw1 (by assumption) | exact RowAt.ext (by assumption) hw1
theorem l_geq {x y : Operand} {t t' : TypeId} {k : IntKind} {p q : Int} (hx : a.eval x = .int k p) (hy : a.eval y = .int k q) (hr : wpList P ops Q rest (a.put dst (.bool (decide (q ≤ p)))) w) : wpList P ops Q (Oper.mk dst (.binOp .geq t x y t') ty pos after none :: rest) a w := by
  refine wpList_plain rfl fun K hK => ?_
  apply r_geq <;> first | assumption | exact hK _ _ hr
theorem p_geq {x y : Operand} {t t' : TypeId} {k : IntKind} {p q : Int} (hx : a.eval x = .int k p) (hy : a.eval y = .int k q) (hr : ParSteps P ops Q w rest ss (fs ++ [fun _ => True]) (a.put dst (.bool (decide (q ≤ p))))) : ParSteps P ops Q w (Oper.mk dst (.binOp .geq t x y t') ty pos after none :: rest) (Spec.det (.bool (decide (q ≤ p))) :: ss) fs a := by
  refine par_val rfl (fun w1 hw1 K hK => ?_) hr
  apply r_geq <;> first | assumption | exact hK _ (Ext.refl _) | exact Ext.cell hw1 (by assumption) | exact RowAt.ext (by assumption) hw1
theorem l_max {x y : Operand}  {k : IntKind} {p q : Int} {ts : Array TypeId} (hx : a.eval x = .int k p) (hy : a.eval y = .int k q) (hr : wpList P ops Q rest (a.put dst (.int k (max p q))) w) : wpList P ops Q (Oper.mk dst (.call ⟨.builtin .max, #[x, y], ts⟩) ty pos after none :: rest) a w := by
  refine wpList_plain rfl fun K hK => ?_
  apply r_max <;> first | assumption | exact hK _ _ hr
theorem p_max {x y : Operand}  {k : IntKind} {p q : Int} {ts : Array TypeId} (hx : a.eval x = .int k p) (hy : a.eval y = .int k q) (hr : ParSteps P ops Q w rest ss (fs ++ [fun _ => True]) (a.put dst (.int k (max p q)))) : ParSteps P ops Q w (Oper.mk dst (.call ⟨.builtin .max, #[x, y], ts⟩) ty pos after none :: rest) (Spec.det (.int k (max p q)) :: ss) fs a := by
  refine par_val rfl (fun w1 hw1 K hK => ?_) hr
  apply r_max <;> first | assumption | exact hK _ (Ext.refl _) | exact Ext.cell hw1 (by assumption) | exact RowAt.ext (by assumption) hw1
theorem l_min {x y : Operand}  {k : IntKind} {p q : Int} {ts : Array TypeId} (hx : a.eval x = .int k p) (hy : a.eval y = .int k q) (hr : wpList P ops Q rest (a.put dst (.int k (min p q))) w) : wpList P ops Q (Oper.mk dst (.call ⟨.builtin .min, #[x, y], ts⟩) ty pos after none :: rest) a w := by
  refine wpList_plain rfl fun K hK => ?_
  apply r_min <;> first | assumption | exact hK _ _ hr
theorem p_min {x y : Operand}  {k : IntKind} {p q : Int} {ts : Array TypeId} (hx : a.eval x = .int k p) (hy : a.eval y = .int k q) (hr : ParSteps P ops Q w rest ss (fs ++ [fun _ => True]) (a.put dst (.int k (min p q)))) : ParSteps P ops Q w (Oper.mk dst (.call ⟨.builtin .min, #[x, y], ts⟩) ty pos after none :: rest) (Spec.det (.int k (min p q)) :: ss) fs a := by
  refine par_val rfl (fun w1 hw1 K hK => ?_) hr
  apply r_min <;> first | assumption | exact hK _ (Ext.refl _) | exact Ext.cell hw1 (by assumption) | exact RowAt.ext (by assumption) hw1
theorem l_conv {x : Operand} {t' : TypeId} {k : IntKind} {p : Int} [i : TInt P t' k] {k' : IntKind} {r : Int} {s : TypeId} {d : TypeDesc} (hs : P.underlying s = some d) (hx : a.eval x = .int k' p) (hr : k.wrap p = r) (hr : wpList P ops Q rest (a.put dst (.int k r)) w) : wpList P ops Q (Oper.mk dst (.convert s t' x) ty pos after none :: rest) a w := by
  refine wpList_plain rfl fun K hK => ?_
  apply r_conv <;> first | assumption | exact hK _ _ hr
theorem p_conv {x : Operand} {t' : TypeId} {k : IntKind} {p : Int} [i : TInt P t' k] {k' : IntKind} {r : Int} {s : TypeId} {d : TypeDesc} (hs : P.underlying s = some d) (hx : a.eval x = .int k' p) (hr : k.wrap p = r) (hr : ParSteps P ops Q w rest ss (fs ++ [fun _ => True]) (a.put dst (.int k r))) : ParSteps P ops Q w (Oper.mk dst (.convert s t' x) ty pos after none :: rest) (Spec.det (.int k r) :: ss) fs a := by
  refine par_val rfl (fun w1 hw1 K hK => ?_) hr
  apply r_conv <;> first | assumption | exact hK _ (Ext.refl _) | exact Ext.cell hw1 (by assumption) | exact RowAt.ext (by assumption) hw1
theorem l_boolEq {x y : Operand} {t t' : TypeId}   [i : TBool P t] {b c : Bool} (hx : a.eval x = .bool b) (hy : a.eval y = .bool c) (hr : wpList P ops Q rest (a.put dst (.bool (b == c))) w) : wpList P ops Q (Oper.mk dst (.binOp .eql t x y t') ty pos after none :: rest) a w := by
  refine wpList_plain rfl fun K hK => ?_
  apply r_boolEq <;> first | assumption | exact hK _ _ hr
theorem p_boolEq {x y : Operand} {t t' : TypeId}   [i : TBool P t] {b c : Bool} (hx : a.eval x = .bool b) (hy : a.eval y = .bool c) (hr : ParSteps P ops Q w rest ss (fs ++ [fun _ => True]) (a.put dst (.bool (b == c)))) : ParSteps P ops Q w (Oper.mk dst (.binOp .eql t x y t') ty pos after none :: rest) (Spec.det (.bool (b == c)) :: ss) fs a := by
  refine par_val rfl (fun w1 hw1 K hK => ?_) hr
  apply r_boolEq <;> first | assumption | exact hK _ (Ext.refl _) | exact Ext.cell hw1 (by assumption) | exact RowAt.ext (by assumption) hw1
theorem l_boolNe {x y : Operand} {t t' : TypeId}   [i : TBool P t] {b c : Bool} (hx : a.eval x = .bool b) (hy : a.eval y = .bool c) (hr : wpList P ops Q rest (a.put dst (.bool (!(b == c)))) w) : wpList P ops Q (Oper.mk dst (.binOp .neq t x y t') ty pos after none :: rest) a w := by
  refine wpList_plain rfl fun K hK => ?_
  apply r_boolNe <;> first | assumption | exact hK _ _ hr
theorem p_boolNe {x y : Operand} {t t' : TypeId}   [i : TBool P t] {b c : Bool} (hx : a.eval x = .bool b) (hy : a.eval y = .bool c) (hr : ParSteps P ops Q w rest ss (fs ++ [fun _ => True]) (a.put dst (.bool (!(b == c))))) : ParSteps P ops Q w (Oper.mk dst (.binOp .neq t x y t') ty pos after none :: rest) (Spec.det (.bool (!(b == c))) :: ss) fs a := by
  refine par_val rfl (fun w1 hw1 K hK => ?_) hr
  apply r_boolNe <;> first | assumption | exact hK _ (Ext.refl _) | exact Ext.cell hw1 (by assumption) | exact RowAt.ext (by assumption) hw1
theorem l_cat {x y : Operand} {t t' : TypeId} {s u : List UInt8} (hx : a.eval x = .string ⟨s.toArray⟩) (hy : a.eval y = .string ⟨u.toArray⟩) (hl : s.length + u.length ≤ 9223372036854775807) (hr : wpList P ops Q rest (a.put dst (.string ⟨(s ++ u).toArray⟩)) w) : wpList P ops Q (Oper.mk dst (.binOp .add t x y t') ty pos after none :: rest) a w := by
  refine wpList_plain rfl fun K hK => ?_
  apply r_cat <;> first | assumption | exact hK _ _ hr
theorem p_cat {x y : Operand} {t t' : TypeId} {s u : List UInt8} (hx : a.eval x = .string ⟨s.toArray⟩) (hy : a.eval y = .string ⟨u.toArray⟩) (hl : s.length + u.length ≤ 9223372036854775807) (hr : ParSteps P ops Q w rest ss (fs ++ [fun _ => True]) (a.put dst (.string ⟨(s ++ u).toArray⟩))) : ParSteps P ops Q w (Oper.mk dst (.binOp .add t x y t') ty pos after none :: rest) (Spec.det (.string ⟨(s ++ u).toArray⟩) :: ss) fs a := by
  refine par_val rfl (fun w1 hw1 K hK => ?_) hr
  apply r_cat <;> first | assumption | exact hK _ (Ext.refl _) | exact Ext.cell hw1 (by assumption) | exact RowAt.ext (by assumption) hw1
theorem l_seql {x y : Operand} {t t' : TypeId} {s u : List UInt8} (hx : a.eval x = .string ⟨s.toArray⟩) (hy : a.eval y = .string ⟨u.toArray⟩) (hr : wpList P ops Q rest (a.put dst (.bool (s == u))) w) : wpList P ops Q (Oper.mk dst (.binOp .eql t x y t') ty pos after none :: rest) a w := by
  refine wpList_plain rfl fun K hK => ?_
  apply r_seql <;> first | assumption | exact hK _ _ hr
theorem p_seql {x y : Operand} {t t' : TypeId} {s u : List UInt8} (hx : a.eval x = .string ⟨s.toArray⟩) (hy : a.eval y = .string ⟨u.toArray⟩) (hr : ParSteps P ops Q w rest ss (fs ++ [fun _ => True]) (a.put dst (.bool (s == u)))) : ParSteps P ops Q w (Oper.mk dst (.binOp .eql t x y t') ty pos after none :: rest) (Spec.det (.bool (s == u)) :: ss) fs a := by
  refine par_val rfl (fun w1 hw1 K hK => ?_) hr
  apply r_seql <;> first | assumption | exact hK _ (Ext.refl _) | exact Ext.cell hw1 (by assumption) | exact RowAt.ext (by assumption) hw1
theorem l_sneq {x y : Operand} {t t' : TypeId} {s u : List UInt8} (hx : a.eval x = .string ⟨s.toArray⟩) (hy : a.eval y = .string ⟨u.toArray⟩) (hr : wpList P ops Q rest (a.put dst (.bool (!(s == u)))) w) : wpList P ops Q (Oper.mk dst (.binOp .neq t x y t') ty pos after none :: rest) a w := by
  refine wpList_plain rfl fun K hK => ?_
  apply r_sneq <;> first | assumption | exact hK _ _ hr
theorem p_sneq {x y : Operand} {t t' : TypeId} {s u : List UInt8} (hx : a.eval x = .string ⟨s.toArray⟩) (hy : a.eval y = .string ⟨u.toArray⟩) (hr : ParSteps P ops Q w rest ss (fs ++ [fun _ => True]) (a.put dst (.bool (!(s == u))))) : ParSteps P ops Q w (Oper.mk dst (.binOp .neq t x y t') ty pos after none :: rest) (Spec.det (.bool (!(s == u))) :: ss) fs a := by
  refine par_val rfl (fun w1 hw1 K hK => ?_) hr
  apply r_sneq <;> first | assumption | exact hK _ (Ext.refl _) | exact Ext.cell hw1 (by assumption) | exact RowAt.ext (by assumption) hw1
theorem l_slss {x y : Operand} {t t' : TypeId} {s u : List UInt8} (hx : a.eval x = .string ⟨s.toArray⟩) (hy : a.eval y = .string ⟨u.toArray⟩) (hr : wpList P ops Q rest (a.put dst (.bool (Op.bytesLess s u))) w) : wpList P ops Q (Oper.mk dst (.binOp .lss t x y t') ty pos after none :: rest) a w := by
  refine wpList_plain rfl fun K hK => ?_
  apply r_slss <;> first | assumption | exact hK _ _ hr
theorem p_slss {x y : Operand} {t t' : TypeId} {s u : List UInt8} (hx : a.eval x = .string ⟨s.toArray⟩) (hy : a.eval y = .string ⟨u.toArray⟩) (hr : ParSteps P ops Q w rest ss (fs ++ [fun _ => True]) (a.put dst (.bool (Op.bytesLess s u)))) : ParSteps P ops Q w (Oper.mk dst (.binOp .lss t x y t') ty pos after none :: rest) (Spec.det (.bool (Op.bytesLess s u)) :: ss) fs a := by
  refine par_val rfl (fun w1 hw1 K hK => ?_) hr
  apply r_slss <;> first | assumption | exact hK _ (Ext.refl _) | exact Ext.cell hw1 (by assumption) | exact RowAt.ext (by assumption) hw1
theorem l_sleq {x y : Operand} {t t' : TypeId} {s u : List UInt8} (hx : a.eval x = .string ⟨s.toArray⟩) (hy : a.eval y = .string ⟨u.toArray⟩) (hr : wpList P ops Q rest (a.put dst (.bool (Op.bytesLess s u || s == u))) w) : wpList P ops Q (Oper.mk dst (.binOp .leq t x y t') ty pos after none :: rest) a w := by
  refine wpList_plain rfl fun K hK => ?_
  apply r_sleq <;> first | assumption | exact hK _ _ hr
theorem p_sleq {x y : Operand} {t t' : TypeId} {s u : List UInt8} (hx : a.eval x = .string ⟨s.toArray⟩) (hy : a.eval y = .string ⟨u.toArray⟩) (hr : ParSteps P ops Q w rest ss (fs ++ [fun _ => True]) (a.put dst (.bool (Op.bytesLess s u || s == u)))) : ParSteps P ops Q w (Oper.mk dst (.binOp .leq t x y t') ty pos after none :: rest) (Spec.det (.bool (Op.bytesLess s u || s == u)) :: ss) fs a := by
  refine par_val rfl (fun w1 hw1 K hK => ?_) hr
  apply r_sleq <;> first | assumption | exact hK _ (Ext.refl _) | exact Ext.cell hw1 (by assumption) | exact RowAt.ext (by assumption) hw1
theorem l_len_str {x : Operand} {t : TypeId} {s : List UInt8} [i : TStr P t] (hx : a.eval x = .string ⟨s.toArray⟩) (hr : wpList P ops Q rest (a.put dst (.int .i64 s.length)) w) : wpList P ops Q (Oper.mk dst (.call ⟨.builtin .len, #[x], #[t]⟩) ty pos after none :: rest) a w := by
  refine wpList_plain rfl fun K hK => ?_
  apply r_len_str <;> first | assumption | exact hK _ _ hr
theorem p_len_str {x : Operand} {t : TypeId} {s : List UInt8} [i : TStr P t] (hx : a.eval x = .string ⟨s.toArray⟩) (hr : ParSteps P ops Q w rest ss (fs ++ [fun _ => True]) (a.put dst (.int .i64 s.length))) : ParSteps P ops Q w (Oper.mk dst (.call ⟨.builtin .len, #[x], #[t]⟩) ty pos after none :: rest) (Spec.det (.int .i64 s.length) :: ss) fs a := by
  refine par_val rfl (fun w1 hw1 K hK => ?_) hr
  apply r_len_str <;> first | assumption | exact hK _ (Ext.refl _) | exact Ext.cell hw1 (by assumption) | exact RowAt.ext (by assumption) hw1
theorem l_index_str {x y : Operand} {t : TypeId} {s : List UInt8} [i : TStr P t] {k : IntKind} {n : Int} (hx : a.eval x = .string ⟨s.toArray⟩) (hy : a.eval y = .int k n) (h0 : 0 ≤ n) (h1 : n < s.length) (hr : wpList P ops Q rest (a.put dst (.int .u8 (s.getD n.toNat 0).toNat)) w) : wpList P ops Q (Oper.mk dst (.index t x y) ty pos after none :: rest) a w := by
  refine wpList_plain rfl fun K hK => ?_
  apply r_index_str <;> first | assumption | exact hK _ _ hr
theorem p_index_str {x y : Operand} {t : TypeId} {s : List UInt8} [i : TStr P t] {k : IntKind} {n : Int} (hx : a.eval x = .string ⟨s.toArray⟩) (hy : a.eval y = .int k n) (h0 : 0 ≤ n) (h1 : n < s.length) (hr : ParSteps P ops Q w rest ss (fs ++ [fun _ => True]) (a.put dst (.int .u8 (s.getD n.toNat 0).toNat))) : ParSteps P ops Q w (Oper.mk dst (.index t x y) ty pos after none :: rest) (Spec.det (.int .u8 (s.getD n.toNat 0).toNat) :: ss) fs a := by
  refine par_val rfl (fun w1 hw1 K hK => ?_) hr
  apply r_index_str <;> first | assumption | exact hK _ (Ext.refl _) | exact Ext.cell hw1 (by assumption) | exact RowAt.ext (by assumption) hw1
theorem l_slice_str {x : Operand} {t : TypeId} {s : List UInt8} [i : TStr P t] {lo hi : Option Operand} {l h : Nat} (hx : a.eval x = .string ⟨s.toArray⟩) (hl : match lo with | none => l = 0 | some o => ∃ k : IntKind, a.eval o = .int k (l : Int)) (hh : match hi with | none => h = s.length | some o => ∃ k : IntKind, a.eval o = .int k (h : Int)) (h1 : l ≤ h) (h2 : h ≤ s.length) (hr : wpList P ops Q rest (a.put dst (.string ⟨((s.take h).drop l).toArray⟩)) w) : wpList P ops Q (Oper.mk dst (.slice t x lo hi none) ty pos after none :: rest) a w := by
  refine wpList_plain rfl fun K hK => ?_
  apply r_slice_str <;> first | assumption | exact hK _ _ hr
theorem p_slice_str {x : Operand} {t : TypeId} {s : List UInt8} [i : TStr P t] {lo hi : Option Operand} {l h : Nat} (hx : a.eval x = .string ⟨s.toArray⟩) (hl : match lo with | none => l = 0 | some o => ∃ k : IntKind, a.eval o = .int k (l : Int)) (hh : match hi with | none => h = s.length | some o => ∃ k : IntKind, a.eval o = .int k (h : Int)) (h1 : l ≤ h) (h2 : h ≤ s.length) (hr : ParSteps P ops Q w rest ss (fs ++ [fun _ => True]) (a.put dst (.string ⟨((s.take h).drop l).toArray⟩))) : ParSteps P ops Q w (Oper.mk dst (.slice t x lo hi none) ty pos after none :: rest) (Spec.det (.string ⟨((s.take h).drop l).toArray⟩) :: ss) fs a := by
  refine par_val rfl (fun w1 hw1 K hK => ?_) hr
  apply r_slice_str <;> first | assumption | exact hK _ (Ext.refl _) | exact Ext.cell hw1 (by assumption) | exact RowAt.ext (by assumption) hw1
theorem l_field1 {x : Operand} {t : TypeId} {i off n : Nat} [f : TFld P t i off n false] {cs : List Value} {v : Value} (hx : a.eval x = .agg cs.toArray) (hv : cs[off]? = some v) (hr : wpList P ops Q rest (a.put dst v) w) : wpList P ops Q (Oper.mk dst (.field t x i) ty pos after none :: rest) a w := by
  refine wpList_plain rfl fun K hK => ?_
  apply r_field1 <;> first | assumption | exact hK _ _ hr
theorem p_field1 {x : Operand} {t : TypeId} {i off n : Nat} [f : TFld P t i off n false] {cs : List Value} {v : Value} (hx : a.eval x = .agg cs.toArray) (hv : cs[off]? = some v) (hr : ParSteps P ops Q w rest ss (fs ++ [fun _ => True]) (a.put dst v)) : ParSteps P ops Q w (Oper.mk dst (.field t x i) ty pos after none :: rest) (Spec.det v :: ss) fs a := by
  refine par_val rfl (fun w1 hw1 K hK => ?_) hr
  apply r_field1 <;> first | assumption | exact hK _ (Ext.refl _) | exact Ext.cell hw1 (by assumption) | exact RowAt.ext (by assumption) hw1
theorem l_fieldN {x : Operand} {t : TypeId} {i off n : Nat} [f : TFld P t i off n true] {cs : List Value} (hx : a.eval x = .agg cs.toArray) (hr : wpList P ops Q rest (a.put dst (.agg ((cs.drop off).take (n + 1)).toArray)) w) : wpList P ops Q (Oper.mk dst (.field t x i) ty pos after none :: rest) a w := by
  refine wpList_plain rfl fun K hK => ?_
  apply r_fieldN <;> first | assumption | exact hK _ _ hr
theorem p_fieldN {x : Operand} {t : TypeId} {i off n : Nat} [f : TFld P t i off n true] {cs : List Value} (hx : a.eval x = .agg cs.toArray) (hr : ParSteps P ops Q w rest ss (fs ++ [fun _ => True]) (a.put dst (.agg ((cs.drop off).take (n + 1)).toArray))) : ParSteps P ops Q w (Oper.mk dst (.field t x i) ty pos after none :: rest) (Spec.det (.agg ((cs.drop off).take (n + 1)).toArray) :: ss) fs a := by
  refine par_val rfl (fun w1 hw1 K hK => ?_) hr
  apply r_fieldN <;> first | assumption | exact hK _ (Ext.refl _) | exact Ext.cell hw1 (by assumption) | exact RowAt.ext (by assumption) hw1
theorem l_fieldAddr {x : Operand} {t : TypeId} {i off n : Nat} {ag : Bool} [f : TFld P t i off n ag] {b p : Nat} (hx : a.eval x = .pointer (some ⟨b, p, none⟩)) (hr : wpList P ops Q rest (a.put dst (.pointer (some ⟨b, p + off, none⟩))) w) : wpList P ops Q (Oper.mk dst (.fieldAddr t x i) ty pos after none :: rest) a w := by
  refine wpList_plain rfl fun K hK => ?_
  apply r_fieldAddr <;> first | assumption | exact hK _ _ hr
theorem p_fieldAddr {x : Operand} {t : TypeId} {i off n : Nat} {ag : Bool} [f : TFld P t i off n ag] {b p : Nat} (hx : a.eval x = .pointer (some ⟨b, p, none⟩)) (hr : ParSteps P ops Q w rest ss (fs ++ [fun _ => True]) (a.put dst (.pointer (some ⟨b, p + off, none⟩)))) : ParSteps P ops Q w (Oper.mk dst (.fieldAddr t x i) ty pos after none :: rest) (Spec.det (.pointer (some ⟨b, p + off, none⟩)) :: ss) fs a := by
  refine par_val rfl (fun w1 hw1 K hK => ?_) hr
  apply r_fieldAddr <;> first | assumption | exact hK _ (Ext.refl _) | exact Ext.cell hw1 (by assumption) | exact RowAt.ext (by assumption) hw1
theorem l_load1 {x : Operand} {t : TypeId} [i : TOne P t] {p : Addr} {v : Value} (hx : a.eval x = .pointer (some p)) (hc : w.cell? p = some v) (hr : wpList P ops Q rest (a.put dst v) w) : wpList P ops Q (Oper.mk dst (.load t x) ty pos after none :: rest) a w := by
  refine wpList_plain rfl fun K hK => ?_
  apply r_load1 <;> first | assumption | exact hK _ _ hr
theorem p_load1 {x : Operand} {t : TypeId} [i : TOne P t] {p : Addr} {v : Value} (hx : a.eval x = .pointer (some p)) (hc : w.cell? p = some v) (hr : ParSteps P ops Q w rest ss (fs ++ [fun _ => True]) (a.put dst v)) : ParSteps P ops Q w (Oper.mk dst (.load t x) ty pos after none :: rest) (Spec.det v :: ss) fs a := by
  refine par_val rfl (fun w1 hw1 K hK => ?_) hr
  apply r_load1 <;> first | assumption | exact hK _ (Ext.refl _) | exact Ext.cell hw1 (by assumption) | exact RowAt.ext (by assumption) hw1
theorem l_loadN {x : Operand} {t n : Nat} [i : TRow P t n] {b p : Nat} {cs : List Value} (hx : a.eval x = .pointer (some ⟨b, p, none⟩)) (hc : RowAt w b p cs) (hn : cs.length = n) (hr : wpList P ops Q rest (a.put dst (.agg cs.toArray)) w) : wpList P ops Q (Oper.mk dst (.load t x) ty pos after none :: rest) a w := by
  refine wpList_plain rfl fun K hK => ?_
  apply r_loadN <;> first | assumption | exact hK _ _ hr
theorem p_loadN {x : Operand} {t n : Nat} [i : TRow P t n] {b p : Nat} {cs : List Value} (hx : a.eval x = .pointer (some ⟨b, p, none⟩)) (hc : RowAt w b p cs) (hn : cs.length = n) (hr : ParSteps P ops Q w rest ss (fs ++ [fun _ => True]) (a.put dst (.agg cs.toArray))) : ParSteps P ops Q w (Oper.mk dst (.load t x) ty pos after none :: rest) (Spec.det (.agg cs.toArray) :: ss) fs a := by
  refine par_val rfl (fun w1 hw1 K hK => ?_) hr
  apply r_loadN <;> first | assumption | exact hK _ (Ext.refl _) | exact Ext.cell hw1 (by assumption) | exact RowAt.ext (by assumption) hw1
theorem l_indexAddr {x y : Operand} {t e n : Nat} [i : TSlice P t e] [z : TSize P e n] {b p l c : Nat} {k : IntKind} {j : Int} (hx : a.eval x = .slice (some ⟨b, p, none⟩) l c) (hy : a.eval y = .int k j) (h0 : 0 ≤ j) (h1 : j < l) (hr : wpList P ops Q rest (a.put dst (.pointer (some ⟨b, p + j.toNat * n, none⟩))) w) : wpList P ops Q (Oper.mk dst (.indexAddr t x y) ty pos after none :: rest) a w := by
  refine wpList_plain rfl fun K hK => ?_
  apply r_indexAddr <;> first | assumption | exact hK _ _ hr
theorem p_indexAddr {x y : Operand} {t e n : Nat} [i : TSlice P t e] [z : TSize P e n] {b p l c : Nat} {k : IntKind} {j : Int} (hx : a.eval x = .slice (some ⟨b, p, none⟩) l c) (hy : a.eval y = .int k j) (h0 : 0 ≤ j) (h1 : j < l) (hr : ParSteps P ops Q w rest ss (fs ++ [fun _ => True]) (a.put dst (.pointer (some ⟨b, p + j.toNat * n, none⟩)))) : ParSteps P ops Q w (Oper.mk dst (.indexAddr t x y) ty pos after none :: rest) (Spec.det (.pointer (some ⟨b, p + j.toNat * n, none⟩)) :: ss) fs a := by
  refine par_val rfl (fun w1 hw1 K hK => ?_) hr
  apply r_indexAddr <;> first | assumption | exact hK _ (Ext.refl _) | exact Ext.cell hw1 (by assumption) | exact RowAt.ext (by assumption) hw1
theorem l_len_slice {x : Operand} {t e : Nat} [i : TSlice P t e] {A : Option Addr} {l c : Nat} (hx : a.eval x = .slice A l c) (hr : wpList P ops Q rest (a.put dst (.int .i64 l)) w) : wpList P ops Q (Oper.mk dst (.call ⟨.builtin .len, #[x], #[t]⟩) ty pos after none :: rest) a w := by
  refine wpList_plain rfl fun K hK => ?_
  apply r_len_slice <;> first | assumption | exact hK _ _ hr
theorem p_len_slice {x : Operand} {t e : Nat} [i : TSlice P t e] {A : Option Addr} {l c : Nat} (hx : a.eval x = .slice A l c) (hr : ParSteps P ops Q w rest ss (fs ++ [fun _ => True]) (a.put dst (.int .i64 l))) : ParSteps P ops Q w (Oper.mk dst (.call ⟨.builtin .len, #[x], #[t]⟩) ty pos after none :: rest) (Spec.det (.int .i64 l) :: ss) fs a := by
  refine par_val rfl (fun w1 hw1 K hK => ?_) hr
  apply r_len_slice <;> first | assumption | exact hK _ (Ext.refl _) | exact Ext.cell hw1 (by assumption) | exact RowAt.ext (by assumption) hw1
theorem l_quo_nn {x y : Operand} {t t' : TypeId} {p q : Int} (hx : a.eval x = .int .i64 p) (hy : a.eval y = .int .i64 q) (h0 : 0 ≤ p) (h1 : 1 ≤ q) (h2 : p ≤ 9223372036854775807) (hr : wpList P ops Q rest (a.put dst (.int .i64 (p / q))) w) : wpList P ops Q (Oper.mk dst (.binOp .quo t x y t') ty pos after none :: rest) a w := by
  refine wpList_plain rfl fun K hK => ?_
  apply r_quo_nn <;> first | assumption | exact hK _ _ hr
theorem p_quo_nn {x y : Operand} {t t' : TypeId} {p q : Int} (hx : a.eval x = .int .i64 p) (hy : a.eval y = .int .i64 q) (h0 : 0 ≤ p) (h1 : 1 ≤ q) (h2 : p ≤ 9223372036854775807) (hr : ParSteps P ops Q w rest ss (fs ++ [fun _ => True]) (a.put dst (.int .i64 (p / q)))) : ParSteps P ops Q w (Oper.mk dst (.binOp .quo t x y t') ty pos after none :: rest) (Spec.det (.int .i64 (p / q)) :: ss) fs a := by
  refine par_val rfl (fun w1 hw1 K hK => ?_) hr
  apply r_quo_nn <;> first | assumption | exact hK _ (Ext.refl _) | exact Ext.cell hw1 (by assumption) | exact RowAt.ext (by assumption) hw1
theorem l_rem_nn {x y : Operand} {t t' : TypeId} {k : IntKind} {p q : Int} (hx : a.eval x = .int k p) (hy : a.eval y = .int k q) (h0 : 0 ≤ p) (h1 : 1 ≤ q) (hr : wpList P ops Q rest (a.put dst (.int k (p % q))) w) : wpList P ops Q (Oper.mk dst (.binOp .rem t x y t') ty pos after none :: rest) a w := by
  refine wpList_plain rfl fun K hK => ?_
  apply r_rem_nn <;> first | assumption | exact hK _ _ hr
theorem p_rem_nn {x y : Operand} {t t' : TypeId} {k : IntKind} {p q : Int} (hx : a.eval x = .int k p) (hy : a.eval y = .int k q) (h0 : 0 ≤ p) (h1 : 1 ≤ q) (hr : ParSteps P ops Q w rest ss (fs ++ [fun _ => True]) (a.put dst (.int k (p % q)))) : ParSteps P ops Q w (Oper.mk dst (.binOp .rem t x y t') ty pos after none :: rest) (Spec.det (.int k (p % q)) :: ss) fs a := by
  refine par_val rfl (fun w1 hw1 K hK => ?_) hr
  apply r_rem_nn <;> first | assumption | exact hK _ (Ext.refl _) | exact Ext.cell hw1 (by assumption) | exact RowAt.ext (by assumption) hw1
theorem l_box1 {x : Operand} {t : TypeId} {v : Value} (hx : a.eval x = v) (h1 : v.oneCell' = true) (hr : ∀ g w', Blk w' g t [v].toArray → Ext w w' → g = w.heap.size → wpList P ops Q rest (a.put dst (.pointer (some ⟨g, 0, none⟩))) w') : wpList P ops Q (Oper.mk dst (.box t x) ty pos after none :: rest) a w :=
  wpList_plain rfl fun _ hK => r_box1 hx h1 fun g w' h2 h3 h4 => hK _ _ (hr g w' h2 h3 h4)
theorem l_boxN {x : Operand} {t : TypeId} {cs : List Value} (hx : a.eval x = .agg cs.toArray) (hr : ∀ g w', Blk w' g t cs.toArray → Ext w w' → g = w.heap.size → wpList P ops Q rest (a.put dst (.pointer (some ⟨g, 0, none⟩))) w') : wpList P ops Q (Oper.mk dst (.box t x) ty pos after none :: rest) a w :=
  wpList_plain rfl fun _ hK => r_boxN hx fun g w' h2 h3 h4 => hK _ _ (hr g w' h2 h3 h4)
theorem l_enter {f : FuncId} [e : Enters P f] {xl : List Operand} {al : List Value} {ts : Array TypeId} (hx : xl.map a.eval = al)
    (hc : Calls P f al.toArray w (fun e w' => match e with | .returned v => wpList P ops Q rest (a.put dst v) w' | .panicked ch => Q (.panic ch) a w' | .outgrown => LetsOut Q)) : wpList P ops Q (Oper.mk dst (.call ⟨.value (.func f), xl.toArray, ts⟩) ty pos after none :: rest) a w :=
  wpList_plain rfl fun K hK => r_enter hx (hc.mono fun e w' h => by cases e <;> first | exact hK _ _ h | exact h)
theorem p_enter {f : FuncId} [e : Enters P f] {xl : List Operand} {al : List Value} {ts : Array TypeId} {v : Value} (hx : xl.map a.eval = al)
    (hc : ∀ w1, Ext w w1 → Calls P f al.toArray w1 (fun e w' => e = .returned v ∧ Ext w1 w')) (hr : ParSteps P ops Q w rest ss (fs ++ [fun _ => True]) (a.put dst v)) : ParSteps P ops Q w (Oper.mk dst (.call ⟨.value (.func f), xl.toArray, ts⟩) ty pos after none :: rest) (Spec.det v :: ss) fs a :=
  par_val rfl (fun w1 hw1 K hK => r_enter hx ((hc w1 hw1).mono fun e w' h => by obtain ⟨rfl, h2⟩ := h; exact hK _ h2)) hr
theorem p_and {c x : Operand} {b q : Bool} (hc : a.eval c = .bool b) (hx : a.eval x = G b (.bool q)) (hr : ParSteps P ops Q w rest ss (fs ++ [fun _ => True]) (a.put dst (.bool (b && q)))) : ParSteps P ops Q w (Oper.mk dst (.pick c x (.const (.bool false))) ty pos after none :: rest) (Spec.det (.bool (b && q)) :: ss) fs a :=
  par_val rfl (fun w1 hw1 K hK => wp_and rfl hc hx (hK _ (Ext.refl _))) hr
theorem p_or {c y : Operand} {b q : Bool} (hc : a.eval c = .bool b) (hy : a.eval y = G (!b) (.bool q)) (hr : ParSteps P ops Q w rest ss (fs ++ [fun _ => True]) (a.put dst (.bool (b || q)))) : ParSteps P ops Q w (Oper.mk dst (.pick c (.const (.bool true)) y) ty pos after none :: rest) (Spec.det (.bool (b || q)) :: ss) fs a :=
  par_val rfl (fun w1 hw1 K hK => wp_or rfl hc hy (hK _ (Ext.refl _))) hr
end
end Go.Proofs.YthbhjladfniboaaDoor
namespace Go.Proofs.YthbhjladfniboaaDoor
set_option linter.unusedSimpArgs false
set_option linter.unusedVariables false
open Go.RowKit

theorem foldSet_get {off : Nat} : ∀ (l : List Value) (k : Nat) (arr : Array Value), off + k + l.length ≤ arr.size → ∀ i, ((l.zipIdx k).foldl (fun cs (x : Value × Nat) => cs.setIfInBounds (off + x.2) x.1) arr)[i]? =
    if off + k ≤ i ∧ i < off + k + l.length then l[i - (off + k)]? else arr[i]?
  | [], k, arr, h, i => by
    simp only [List.zipIdx_nil, List.foldl_nil, List.length_nil, Nat.add_zero]
    rw [if_neg (by omega)]
  | c :: l, k, arr, h, i => by
    simp only [List.length_cons] at h
    simp only [List.zipIdx_cons, List.foldl_cons]
    rw [foldSet_get l (k + 1) _ (by simp; omega) i]
    simp only [List.length_cons]
    by_cases h1 : i = off + k
    · subst h1
      rw [if_neg (by omega), if_pos (by omega)]
      rw [Array.getElem?_setIfInBounds]
      simp
      omega
    · by_cases h2 : off + k ≤ i ∧ i < off + k + (l.length + 1)
      · rw [if_pos (by omega), if_pos h2]
        have e : i - (off + k) = (i - (off + (k + 1))) + 1 := by omega
        rw [e, List.getElem?_cons_succ]
      · rw [if_neg (by omega), if_neg h2, Array.getElem?_setIfInBounds_ne (by omega)]
theorem foldSet {off : Nat} (l : List Value) (arr : Array Value) (h : off + l.length ≤ arr.size) :
    (l.toArray.zipIdx.foldl (fun cs (x : Value × Nat) => cs.setIfInBounds (off + x.2) x.1) arr) = (arr.toList.take off ++ l ++ arr.toList.drop (off + l.length)).toArray := by
  have h0 : (l.toArray.zipIdx.foldl (fun cs (x : Value × Nat) => cs.setIfInBounds (off + x.2) x.1) arr) = (l.zipIdx 0).foldl (fun cs (x : Value × Nat) => cs.setIfInBounds (off + x.2) x.1) arr := by
    rw [← Array.foldl_toList]; simp
  rw [h0]
  apply Array.ext_getElem?
  intro i
  rw [foldSet_get l 0 arr (by omega) i]
  simp only [Nat.add_zero, List.getElem?_toArray]
  by_cases h2 : off ≤ i ∧ i < off + l.length
  · rw [if_pos h2, List.append_assoc, List.getElem?_append_right (by simp; omega), List.getElem?_append_left (by simp; omega)]
    congr 1
    simp
    omega
  · rw [if_neg h2]
    by_cases h3 : i < off
    · rw [List.append_assoc, List.getElem?_append_left (by simp; omega), List.getElem?_take, if_pos h3]; simp
    · rw [List.getElem?_append_right (by simp; omega), List.getElem?_drop]
      simp
      congr 1
      omega
theorem fill_rows {size : Nat} : ∀ (vals : List Value) (k : Nat) (cells : Array Value), (∀ v ∈ vals, v.cells.size = size) → cells.size = (k + vals.length) * size →
    Instr.fill (fun i => some (i * size, size)) cells (vals.zipIdx k |>.map fun x => (x.2, x.1)) = some (cells.toList.take (k * size) ++ (vals.map fun v => v.cells.toList).flatten).toArray
  | [], k, cells, _, hs => by
    simp only [List.zipIdx_nil, List.map_nil, Instr.fill, List.flatten_nil, List.append_nil]
    rw [List.take_of_length_le (by simp at hs ⊢; omega)]
  | v :: vals, k, cells, hv, hs => by
    have h1 := hv v (by simp)
    simp only [List.zipIdx_cons, List.map_cons, Instr.fill]
    have h3 : (k + (v :: vals).length) * size = k * size + size + vals.length * size := by
      simp only [List.length_cons, Nat.add_mul]; omega
    rw [h3] at hs
    have hb : (v.cells.size ≠ size || decide (k * size + v.cells.size > cells.size)) = false := by
      simp [h1]; omega
    rw [if_neg (by rw [hb]; simp)]
    have hvl : v.cells.toList.length = size := by simpa using h1
    have hfold := foldSet (off := k * size) v.cells.toList cells (by rw [hvl]; omega)
    simp only [Array.toArray_toList] at hfold
    rw [hfold]
    rw [fill_rows vals (k + 1) _ (fun u hu => hv u (by simp [hu])) (by
      simp only [List.size_toArray, List.length_append, List.length_take, List.length_drop, Array.length_toList, hvl, Nat.add_mul]
      omega)]
    simp only [List.map_cons, List.flatten_cons, Option.some.injEq]
    congr 1
    have e : (k + 1) * size = (cells.toList.take (k * size) ++ v.cells.toList).length := by
      simp only [List.length_append, List.length_take, Array.length_toList, hvl, Nat.add_mul]; omega
    rw [e, List.take_left, List.append_assoc]
section
variable {P : Program} {Q : Exit → Act → World → Prop} {K : Act → World → Prop} {a : Act} {w : World}
  {dst : Option Tmp} {ty : TypeId} {pos : String} {after : Array Edge} {guard : Option (Nat × Bool)} {ops : Array Oper} {rest : List Oper} {ss : List Spec} {fs : List (World → Prop)}
theorem r_buildSlice {t e n m : Nat} {zc : List Value} [i : TSlice P t e] [z : TSize P e n] [zz : TZer P e zc] {xs : List Operand} {parts : Array (Nat × Operand)} {vals : List Value} {rows : List (List Value)} (hp : parts = (xs.zipIdx.map fun x => (x.2, x.1)).toArray) (hm : xs.length = m) (hx : xs.map a.eval = vals)
    (hr : (vals.map fun v => v.cells.toList) = rows) (hn : (rows.all fun r => r.length == n) = true) (hz : (decide (0 < n) && decide (m * n ≤ 16777216)) = true)
    (hk : ∀ g w', Blk w' g e rows.flatten.toArray → Ext w w' → g = w.heap.size → K (a.put dst (.slice (some ⟨g, 0, none⟩) m m)) w') : (Oper.mk dst (.buildSlice t m parts) ty pos after guard).wp P a w K Q := by
  have h := hk w.heap.size (w.alloc (.cells rows.flatten.toArray e)) (Blk.new _ _ _) (Ext.alloc _ _) rfl
  have hz0 := zz.h
  simp only [Bool.and_eq_true, decide_eq_true_eq] at hz
  have hvs : ∀ v ∈ vals, v.cells.size = n := by
    intro v hv
    have h1 : v.cells.toList ∈ rows := by rw [← hr]; exact List.mem_map_of_mem hv
    have := List.all_eq_true.1 hn _ h1
    simpa using this
  have hlen : vals.length = m := by rw [← hx, List.length_map, hm]
  unfold Oper.wp
  cases hi : P.info? e with
  | none => simp [hi] at hz0
  | some inf =>
    obtain ⟨z0, hzz⟩ : ∃ z0, inf.zero = some z0 := by cases hq : inf.zero with | none => simp [hi, hq] at hz0 | some z => exact ⟨z, rfl⟩
    have hpos : 0 < m * n ∨ m * n = 0 := by omega
    have key : ∀ Z : Array Value, Z.size = m * n → Instr.fill (fun i => some (i * n, n)) Z (parts.map fun (i, x) => (i, a.eval x)).toList = some rows.flatten.toArray := by
      intro Z hZ
      have e1 : (parts.map fun (i, x) => (i, a.eval x)).toList = (vals.zipIdx.map fun x => (x.2, x.1)) := by
        rw [hp, ← hx]
        simp [List.zipIdx_map, List.map_map, Function.comp_def]
      rw [e1, fill_rows vals 0 Z hvs (by rw [hZ, hlen]; simp)]
      simp [hr]
    have e : (execOp a.eval (Oper.mk dst (.buildSlice t m parts) ty pos after guard)).run P w = .ok (.value (.slice (some ⟨w.heap.size, 0, none⟩) m m)) (w.alloc (.cells rows.flatten.toArray e)) := by
      simp only [execOp, Instr.buildSlice, Sem.run_bind, run_underlying i.h, Result.andThen_ok, run_sizeOf_of z.sz]
      rw [if_neg (by omega)]
      rcases Nat.eq_zero_or_pos (m * n) with h0 | h0
      · simp only [h0, if_true, Sem.run_bind, Sem.run_pure, Result.andThen_ok]
        rw [key _ (by simp [h0])]
        simp [newRow]
      · have hne : ¬ m * n = 0 := by omega
        simp only [hne, if_false, Sem.run_bind, zeroValue, typeInfo, run_program, hi, hzz, Sem.run_pure, Result.andThen_ok]
        rw [key _ (by simp)]
        simp [newRow]
    rw [e]
    exact h
theorem l_buildSlice {t e n m : Nat} {zc : List Value} [i : TSlice P t e] [z : TSize P e n] [zz : TZer P e zc] {xs : List Operand} {parts : Array (Nat × Operand)} {vals : List Value} {rows : List (List Value)} (hp : parts = (xs.zipIdx.map fun x => (x.2, x.1)).toArray) (hm : xs.length = m) (hx : xs.map a.eval = vals)
    (hr : (vals.map fun v => v.cells.toList) = rows) (hn : (rows.all fun r => r.length == n) = true) (hz : (decide (0 < n) && decide (m * n ≤ 16777216)) = true)
    (hk : ∀ g w', Blk w' g e rows.flatten.toArray → Ext w w' → g = w.heap.size → wpList P ops Q rest (a.put dst (.slice (some ⟨g, 0, none⟩) m m)) w') : wpList P ops Q (Oper.mk dst (.buildSlice t m parts) ty pos after none :: rest) a w :=
  wpList_plain rfl fun _ hK => r_buildSlice hp hm hx hr hn hz fun g w' h2 h3 h4 => hK _ _ (hk g w' h2 h3 h4)
def Spec.blkN (n : Nat) (sh : Nat → Value) (t : TypeId) (cs : Array Value) : Spec := ⟨fun u => sh u.1, fun u w => Blk w u.1 t cs ∧ n ≤ u.1, fun _ _ _ h k => ⟨k.1.ext h, k.2⟩⟩
theorem p_buildSlice {t e n m : Nat} {zc : List Value} [i : TSlice P t e] [z : TSize P e n] [zz : TZer P e zc] {xs : List Operand} {parts : Array (Nat × Operand)} {vals : List Value} {rows : List (List Value)} (hp : parts = (xs.zipIdx.map fun x => (x.2, x.1)).toArray) (hm : xs.length = m) (hx : xs.map a.eval = vals)
    (hr : (vals.map fun v => v.cells.toList) = rows) (hn : (rows.all fun r => r.length == n) = true) (hz : (decide (0 < n) && decide (m * n ≤ 16777216)) = true)
    (hk : ∀ g, ParSteps P ops Q w rest ss (fs ++ [fun w' => Blk w' g e rows.flatten.toArray ∧ w.heap.size ≤ g]) (a.put dst (.slice (some ⟨g, 0, none⟩) m m))) :
    ParSteps P ops Q w (Oper.mk dst (.buildSlice t m parts) ty pos after none :: rest) (Spec.blkN w.heap.size (fun g => .slice (some ⟨g, 0, none⟩) m m) e rows.flatten.toArray :: ss) fs a := by
  refine par_unk rfl (fun w1 hw1 _ K hK => ?_) (fun u => hk u.1)
  exact r_buildSlice hp hm hx hr hn hz fun g w' h2 h3 h4 => hK (g, 0, undef) w' ⟨h2, by rw [h4]; exact hw1.sizeOf⟩ h3
theorem p_boxN {x : Operand} {t : TypeId} {cs : List Value} (hx : a.eval x = .agg cs.toArray) (hk : ∀ g, ParSteps P ops Q w rest ss (fs ++ [fun w' => Blk w' g t cs.toArray ∧ w.heap.size ≤ g]) (a.put dst (.pointer (some ⟨g, 0, none⟩)))) :
    ParSteps P ops Q w (Oper.mk dst (.box t x) ty pos after none :: rest) (Spec.blkN w.heap.size (fun g => .pointer (some ⟨g, 0, none⟩)) t cs.toArray :: ss) fs a := by
  refine par_unk rfl (fun w1 hw1 _ K hK => ?_) (fun u => hk u.1)
  exact r_boxN hx fun g w' h2 h3 h4 => hK (g, 0, undef) w' ⟨h2, by rw [h4]; exact hw1.sizeOf⟩ h3
/-- A call that returns a slice of which only the rows are known. -/
theorem p_enterS {f : FuncId} [e : Enters P f] {xl : List Operand} {al : List Value} {ts : Array TypeId} {n : Nat} {rows : List (List Value)} (hx : xl.map a.eval = al)
    (hc : ∀ w1, Ext w w1 → Calls P f al.toArray w1 (fun e w' => ∃ v, e = .returned v ∧ SlR w' n v rows ∧ Ext w1 w')) (hr : ∀ v, ParSteps P ops Q w rest ss (fs ++ [fun w' => SlR w' n v rows]) (a.put dst v)) :
    ParSteps P ops Q w (Oper.mk dst (.call ⟨.value (.func f), xl.toArray, ts⟩) ty pos after none :: rest) (Spec.some' (fun v w' => SlR w' n v rows) (fun _ _ _ h k => k.ext h) :: ss) fs a := by
  refine par_unk rfl (fun w1 hw1 _ K hK => ?_) (fun u => hr u.2.2)
  exact r_enter hx ((hc w1 hw1).mono fun e w' h => by obtain ⟨v, rfl, h1, h2⟩ := h; exact hK (0, 0, v) w' h1 h2)
theorem l_alloc {t : TypeId} {cs : List Value} [i : TZer P t cs] (hk : ∀ g w', Blk w' g t cs.toArray → Ext w w' → g = w.heap.size → wpList P ops Q rest (a.put dst (.pointer (some ⟨g, 0, none⟩))) w') :
    wpList P ops Q (Oper.mk dst (.alloc t) ty pos after none :: rest) a w :=
  wpList_plain rfl fun _ hK => r_alloc fun g w' h2 h3 h4 => hK _ _ (hk g w' h2 h3 h4)
theorem Ext.setRow {w w' : World} {g : Nat} {cs : Array Value} (h : Ext w w') (hg : w.heap.size ≤ g) : Ext w (w'.setRow g cs) :=
  Below.trans h ⟨rfl, rfl, rfl, by simp [World.setRow], fun k hk => setRow_other w' g k cs (by omega)⟩
/-- A new variable that is written at once. -/
theorem l_allocN {d : Nat} {t n : TypeId} {zc : List Value} [i : TZer P t zc] [r : TRow P t n] {y : Operand} {cs : List Value} {ty2 : TypeId} {pos2 : String} {after2 : Array Edge} (hd : ∀ p, (a.put (some d) p).eval (.tmp d) = p) (hy : ∀ p, (a.put (some d) p).eval y = .agg cs.toArray)
    (hn : (cs.length == n && zc.length == n && cs.all (·.oneCell')) = true)
    (hk : ∀ g w', Blk w' g t cs.toArray → Ext w w' → g = w.heap.size → wpList P ops Q rest ((a.put (some d) (.pointer (some ⟨g, 0, none⟩))).put none undef) w') :
    wpList P ops Q (Oper.mk (some d) (.alloc t) ty pos after none :: Oper.mk none (.store t (.tmp d) y) ty2 pos2 after2 none :: rest) a w := by
  simp only [Bool.and_eq_true, beq_iff_eq] at hn
  refine wpList_plain rfl fun K hK => r_alloc fun g w' h2 h3 h4 => hK _ _ ?_
  refine wpList_plain rfl fun K2 hK2 => ?_
  refine wp_store_row t (.tmp d) y rfl g cs.toArray (hd _) (hy _) t zc.toArray h2 (by rw [r.sz]; simp [hn.1.1]) (by simp [hn.1.1, hn.1.2]) (by simp [hn.2]) (hK2 _ _ ?_)
  exact hk g _ (setRow_heap w' g _ _ t _ h2) (Ext.setRow h3 (by omega)) h4
def fillL (pl : List (Nat × Nat)) : List Value → List (Nat × Value) → Option (List Value)
  | cells, [] => some cells
  | cells, (i, v) :: r => match pl[i]? with
    | some (off, sz) => if v.cells.toList.length = sz ∧ off + sz ≤ cells.length then fillL pl (cells.take off ++ v.cells.toList ++ cells.drop (off + sz)) r else none
    | none => none
theorem fillL_fill {pl : List (Nat × Nat)} : ∀ (vals : List (Nat × Value)) (cells cs : List Value), fillL pl cells vals = some cs → Instr.fill (pl.toArray[·]?) cells.toArray vals = some cs.toArray
  | [], cells, cs, h => by simp only [fillL, Option.some.injEq] at h; subst h; rfl
  | (i, v) :: r, cells, cs, h => by
    simp only [fillL] at h
    cases hp : pl[i]? with
    | none => rw [hp] at h; cases h
    | some x =>
      obtain ⟨off, sz⟩ := x
      rw [hp] at h
      simp only at h
      split at h
      · rename_i hc
        have ih := fillL_fill r _ cs h
        have hl : v.cells.size = sz := by simpa using hc.1
        have hb : (v.cells.size ≠ sz || decide (off + v.cells.size > cells.toArray.size)) = false := by
          simp [hl]; omega
        simp only [Instr.fill, List.getElem?_toArray, hp]
        rw [if_neg (by rw [hb]; simp)]
        have hfold := foldSet (off := off) v.cells.toList cells.toArray (by simp [hl]; omega)
        simp only [Array.toArray_toList] at hfold
        rw [hfold]
        have e : v.cells.toList.length = sz := hc.1
        rw [e]
        simpa using ih
      · cases h
theorem r_build {t : TypeId} {pl : List (Nat × Nat)} {zc : List Value} [s : TStruct P t pl] [zz : TZer P t zc] {parts : List (Nat × Operand)} {vals : List (Nat × Value)} {cs : List Value} (hx : (parts.map fun x => (x.1, a.eval x.2)) = vals) (hf : fillL pl zc vals = some cs)
    (hk : K (a.put dst (.agg cs.toArray)) w) : (Oper.mk dst (.build t parts.toArray) ty pos after guard).wp P a w K Q := by
  obtain ⟨fs, h1, h2⟩ := s.h
  have hz := zz.h
  refine wp_build t _ rfl ?_ ?_
  all_goals
    have e : P.built t ((parts.toArray.map fun (i, x) => (i, a.eval x)).toList) = some cs.toArray := by
      unfold Program.built
      cases hi : P.info? t with
      | none => simp [hi] at hz
      | some inf =>
        cases hzz : inf.zero with
        | none => simp [hi, hzz] at hz
        | some z =>
          have hzc : z.cells.toList = zc := by simpa [hi, hzz] using hz
          have hzc' : z.cells = zc.toArray := by rw [← hzc]
          simp only [h1, hzz, h2, hzc']
          have := fillL_fill vals zc cs hf
          rw [← hx] at this
          simpa using this
  · simp only [e, Option.isSome_some]
  · simp only [e, Option.getD_some]
    exact hk
theorem l_build {t : TypeId} {pl : List (Nat × Nat)} {zc : List Value} [s : TStruct P t pl] [zz : TZer P t zc] {parts : List (Nat × Operand)} {vals : List (Nat × Value)} {cs : List Value} (hx : (parts.map fun x => (x.1, a.eval x.2)) = vals) (hf : fillL pl zc vals = some cs)
    (hr : wpList P ops Q rest (a.put dst (.agg cs.toArray)) w) : wpList P ops Q (Oper.mk dst (.build t parts.toArray) ty pos after none :: rest) a w :=
  wpList_plain rfl fun _ hK => r_build hx hf (hK _ _ hr)
theorem p_build {t : TypeId} {pl : List (Nat × Nat)} {zc : List Value} [s : TStruct P t pl] [zz : TZer P t zc] {parts : List (Nat × Operand)} {vals : List (Nat × Value)} {cs : List Value} (hx : (parts.map fun x => (x.1, a.eval x.2)) = vals) (hf : fillL pl zc vals = some cs)
    (hr : ParSteps P ops Q w rest ss (fs ++ [fun _ => True]) (a.put dst (.agg cs.toArray))) : ParSteps P ops Q w (Oper.mk dst (.build t parts.toArray) ty pos after none :: rest) (Spec.det (.agg cs.toArray) :: ss) fs a :=
  par_val rfl (fun w1 hw1 K hK => r_build hx hf (hK _ (Ext.refl _))) hr
end
end Go.Proofs.YthbhjladfniboaaDoor
namespace Go.Proofs.YthbhjladfniboaaDoor
set_option linter.unusedSimpArgs false
set_option linter.unusedVariables false
open Go.RowKit

def reachB (l : Array Oper) : Nat → Nat → Nat → Bool
  | 0, _, _ => false
  | f + 1, i, j => match l[i]? with
    | some o => o.after.any fun e => Region.binds .any e && (e.on == j || reachB l f e.on j)
    | none => false
/-- Each operation from m on can only run behind all that stand before it. -/
def tailOk (l : Array Oper) (m : Nat) : Bool := (List.range l.size).all fun i => decide (i < m) || (List.range i).all fun j => reachB l l.size i j
theorem reach_listed {l : Array Oper} {listed : Array Bool} (hcl : ∀ j o, l[j]? = some o → listed.getD j false = true → ∀ e ∈ o.after, Region.binds .any e = true → listed.getD e.on false = true) :
    ∀ (f i : Nat) (o : Oper) (j : Nat), l[i]? = some o → (∀ e ∈ o.after, Region.binds .any e = true → listed.getD e.on false = true) → reachB l f i j = true → listed.getD j false = true
  | 0, _, _, _, _, _, h => by cases h
  | f + 1, i, o, j, ho, hd, h => by
    simp only [reachB, ho] at h
    obtain ⟨e, he, hb⟩ := Array.any_eq_true'.1 h
    simp only [Bool.and_eq_true, Bool.or_eq_true, beq_iff_eq] at hb
    have hl := hd e he hb.1
    rcases hb.2 with h1 | h1
    · rw [← h1]; exact hl
    · cases f with
      | zero => cases h1
      | succ f =>
        cases hq : l[e.on]? with
        | none => simp [reachB, hq] at h1
        | some p => exact reach_listed hcl (f + 1) e.on p j hq (hcl e.on p hq hl) h1
theorem count_lt : ∀ (listed : Array Bool) (k : Nat), k ≤ listed.size → (∀ j, listed.getD j false = decide (j < k)) → listed.toList.countP (fun x => x) = k := by
  intro ⟨l⟩ k hk h
  simp only [List.size_toArray] at hk
  have e : l = List.replicate k true ++ List.replicate (l.length - k) false := by
    apply List.ext_getElem?
    intro i
    have hi := h i
    by_cases hil : i < l.length
    · have : l[i] = decide (i < k) := by simpa [hil] using hi
      rw [List.getElem?_eq_getElem hil, this]
      by_cases hik : i < k
      · rw [List.getElem?_append_left (by simpa using hik)]
        simp [List.getElem?_replicate, hik]
      · rw [List.getElem?_append_right (by simp; omega)]
        simp [List.getElem?_replicate, hik]
        omega
    · rw [List.getElem?_eq_none (by omega), List.getElem?_eq_none (by simp; omega)]
  show l.countP (fun x => x) = k
  rw [e, List.countP_append, List.countP_replicate, List.countP_replicate]
  simp
section
variable {P : Program} {Q : Exit → Act → World → Prop}
def tailQ (P : Program) (l : List Oper) (m : Nat) (Q : Exit → Act → World → Prop) : Exit → Act → World → Prop
  | .normal, a, w => wpList P l.toArray (NoPanic Q) (l.drop m) a w
  | e, a, w => Q e a w
theorem wp_otherQ {o : Oper} {a : Act} {w : World} {K : Act → World → Prop} {Q1 Q2 : Exit → Act → World → Prop} (hp : ∀ c a w, Q1 (.panic c) a w → Q2 (.panic c) a w) (ho : LetsOut Q1 → LetsOut Q2)
    (h : o.wp P a w K Q1) : o.wp P a w K Q2 := by
  unfold Oper.wp at *
  generalize (execOp a.eval o).run P w = r at *
  cases r with
  | ok n w' =>
    cases n <;> simp only [Oper.upon] at h ⊢ <;> first
      | exact h
      | (refine Calls.mono h fun e w'' hh => ?_
         cases e <;> first | exact hh | exact hp _ _ _ hh | exact ho hh)
  | halt x w' =>
    cases x <;> simp only [Oper.upon] at h ⊢ <;> first | exact h | exact hp _ _ _ h
theorem stepAt_tail {ops : Array Oper} {l : List Oper} {m : Nat} {o : Oper} {s : Spec} {a : Act} {w : World} (h : StepAt P ops (tailQ P l m Q) o s a w) : StepAt P ops Q o s a w := by
  have hp : ∀ c a w, NoPanic (tailQ P l m Q) (.panic c) a w → NoPanic Q (.panic c) a w := fun _ _ _ h => h
  have ho : LetsOut (NoPanic (tailQ P l m Q)) → LetsOut (NoPanic Q) := fun ⟨a, w, h⟩ => ⟨a, w, h⟩
  unfold StepAt at *
  split
  · rename_i hw
    rw [if_pos hw] at h
    intro K hK
    rcases h K hK with h1 | h1
    · exact .inl (wp_otherQ hp ho h1)
    · exact .inr ⟨h1.1, ho h1.2⟩
  · rename_i hw
    rw [if_neg hw] at h
    exact h
theorem any_of_list {l : List Oper} {m : Nat} (hok : parOk l.toArray = true) (htl : tailOk l.toArray m = true) : ∀ (k fuel : Nat) (listed : Array Bool) (b : Act) (w : World), m ≤ k → k ≤ l.length → listed.size = l.length →
    (∀ j, listed.getD j false = decide (j < k)) → l.length ≤ fuel + k → wpList P l.toArray Q (l.drop k) b w → wpAny P .any l.toArray Q fuel listed b w := by
  have hops : ∀ i : Nat, l.toArray[i]? = l[i]? := fun i => by simp
  have only : ∀ (k : Nat) (listed : Array Bool), m ≤ k → listed.size = l.length → (∀ j, listed.getD j false = decide (j < k)) → ∀ i ∈ Region.ready .any l.toArray listed, i = k ∧ k < l.length := by
    intro k listed hmk hsz hl i hi
    obtain ⟨h0, o, ho', hall⟩ := mem_ready.1 hi
    have hil : i < l.length := by have := (Array.getElem?_eq_some_iff.1 ho').1; simpa using this
    have his : i < listed.size := by omega
    have hun : listed.getD i false = false := by
      simp [his] at h0 ⊢
      exact h0
    have hik : k ≤ i := by
      rw [hl i] at hun
      simpa using hun
    rcases Nat.lt_or_ge k i with h1 | h1
    · exfalso
      have h2 := List.all_eq_true.1 htl i (by simpa using hil)
      simp only [Bool.or_eq_true, decide_eq_true_eq, List.all_eq_true, List.mem_range] at h2
      rcases h2 with h2 | h2
      · omega
      · have h3 := reach_listed (l := l.toArray) (listed := listed) (fun j p hp hj e he hbd => by
          have h4 := parOk_before hok hp he hbd
          rw [hl j] at hj
          rw [hl e.on]
          simp only [decide_eq_true_eq] at hj ⊢
          omega) _ i o k ho' hall (h2 k h1)
        rw [hl k] at h3
        simp at h3
    · exact ⟨by omega, by omega⟩
  have none : ∀ (k : Nat) (listed : Array Bool), k ≤ l.length → listed.size = l.length → (∀ j, listed.getD j false = decide (j < k)) → Region.ready .any l.toArray listed = [] → l.length ≤ k := by
    intro k listed hk hsz hl hr
    rcases Nat.lt_or_ge k l.length with h1 | h1
    · exfalso
      have hm : k ∈ Region.ready .any l.toArray listed := by
        rw [mem_ready]
        refine ⟨?_, l[k], by simp [h1], fun e he hbd => ?_⟩
        · have hks : k < listed.size := by omega
          have h2 := hl k
          simp [hks] at h2 ⊢
          exact h2
        · have h4 := parOk_before hok (i := k) (o := l[k]) (by simp [h1]) he hbd
          rw [hl e.on]
          simpa using h4
      rw [hr] at hm
      cases hm
    · exact h1
  intro k fuel
  induction fuel generalizing k with
  | zero =>
    intro listed b w hmk hk hsz hl hfu h
    have hlk : l.length ≤ k := by omega
    refine ⟨?_, ?_⟩
    · rw [List.eq_nil_iff_forall_not_mem]
      intro i hi
      have := only k listed hmk hsz hl i hi
      omega
    · rw [List.drop_of_length_le hlk] at h
      exact h
  | succ fuel ih =>
    intro listed b w hmk hk hsz hl hfu h
    refine ⟨fun hr => ?_, fun i hi => ?_⟩
    · rw [List.drop_of_length_le (none k listed hk hsz hl hr)] at h
      exact h
    · obtain ⟨hik, hkl⟩ := only k listed hmk hsz hl i hi
      subst hik
      have hd : l.drop i = l[i] :: l.drop (i + 1) := List.drop_eq_getElem_cons hkl
      rw [hd] at h
      have hset : ∀ j, (listed.setIfInBounds i true).getD j false = decide (j < i + 1) := by
        intro j
        by_cases hji : j = i
        · subst hji
          have hjs : j < listed.size := by omega
          simp [hjs]
        · rw [getD_set_ne false (Ne.symm hji), hl j]
          simp only [decide_eq_decide]
          omega
      have next : ∀ b w, wpList P l.toArray Q (l.drop (i + 1)) b w → wpAny P .any l.toArray Q fuel (listed.setIfInBounds i true) b w := fun b w hh =>
        ih (i + 1) _ b w (by omega) (by omega) (by simpa using hsz) hset (by omega) hh
      unfold wpOp
      have hoi : l.toArray[i]? = some l[i] := by simp [hkl]
      rw [hoi]
      simp only
      unfold wpList at h
      split
      · rename_i hw
        rw [if_pos hw] at h
        rcases h with h | h
        · exact .inl (Oper.wp_mono next h)
        · exact .inr h
      · rename_i hw
        rw [if_neg hw] at h
        exact next _ _ h
/-- THE RULE. -/
theorem wp_region_tail {id : Nat} (m : Nat) {l : List Oper} {a : Act} {w : World} (hm : P.follows .mixedOrders = true) (hok : parOk l.toArray = true) (htl : tailOk l.toArray m = true) (hml : m ≤ l.length)
    (hin : (l.all fun o => match o.dst with | some d => decide (d < a.tmps.size) | none => true) = true) {ss : List Spec}
    (h : ParSteps P l.toArray (tailQ P l m Q) w (l.take m) ss [] a) : (Code.region id l.toArray true).wp P Q a w := by
  refine wp_region_noPanic (wp_region_any hm ?_)
  have hops : ∀ i : Nat, l.toArray[i]? = l[i]? := fun i => by simp
  obtain ⟨L, hL⟩ : ∃ L, L = l.take m := ⟨_, rfl⟩
  rw [← hL] at h
  have hLl : L.length = m := by rw [hL, List.length_take]; omega
  have hLi : ∀ i o, L[i]? = some o → l[i]? = some o ∧ i < m := fun i o ho => by
    have hi : i < L.length := (List.getElem?_eq_some_iff.1 ho).1
    rw [hL, List.getElem?_take] at ho
    split at ho
    · exact ⟨ho, by omega⟩
    · cases ho
  have hLo : ∀ i o, i < m → l[i]? = some o → L[i]? = some o := fun i o hi ho => by rw [hL, List.getElem?_take, if_pos hi]; exact ho
  have hlen : ∀ (i : Nat) (o : Oper), L[i]? = some o → ∃ s, ss[i]? = some s := fun i o ho => by
    obtain ⟨s, hs, _⟩ := par_at (env := fun _ => default) L ss [] 0 a h rfl i o ho
    exact ⟨s, hs⟩
  have inb : ∀ (i : Nat) (o : Oper), l[i]? = some o → ∀ d, o.dst = some d → d < a.tmps.size := fun i o ho d hd => by
    have := List.all_eq_true.1 hin o (List.mem_of_getElem? ho)
    simpa [hd] using this
  have key : ∀ (fuel : Nat) (listed : Array Bool) (b : Act) (w1 : World) (env : Nat → Unk), listed.size = l.length → l.length ≤ fuel + listed.toList.countP (fun x => x) → Ext w w1 →
      b = fillD env (fun j => listed.getD j false) L ss 0 a → (∀ j (s : Spec), listed.getD j false = true → ss[j]? = some s → s.fact (env j) w1) →
      (∀ j o, l[j]? = some o → listed.getD j false = true → ∀ e ∈ o.after, Region.binds .any e = true → listed.getD e.on false = true) → (∀ j, m ≤ j → listed.getD j false = false) →
      wpAny P .any l.toArray (NoPanic Q) fuel listed b w1 := by
    intro fuel
    have finish : ∀ (listed : Array Bool) (b : Act) (w1 : World) (env : Nat → Unk), (∀ j, j < m → listed.getD j false = true) → Ext w w1 →
        b = fillD env (fun j => listed.getD j false) L ss 0 a → (∀ j (s : Spec), listed.getD j false = true → ss[j]? = some s → s.fact (env j) w1) → wpList P l.toArray (NoPanic Q) (l.drop m) b w1 := by
      intro listed b w1 env hall hw hb hf
      have e : fillD env (fun j => listed.getD j false) L ss 0 a = fillD env (fun _ => true) L ss 0 a := by
        refine act_ext (by rw [fillD_defers, fillD_defers]) fun t => fillD_agree L ss 0 a a rfl rfl fun j o ho _ => ?_
        simp only [Nat.zero_add]
        exact hall j (hLi j o ho).2
      rw [hb, e]
      exact par_end (Q := tailQ P l m Q) (env := env) L ss [] 0 a h w1 hw (by simp) (fun j s hj hs => by
        simp only [Nat.zero_add]
        exact hf j s (hall j (by omega)) hs)
    have fin : ∀ (listed : Array Bool) (b : Act) (w1 : World) (env : Nat → Unk), (∀ j, j < l.length → listed.getD j false = true) → (∀ j, m ≤ j → listed.getD j false = false) → Ext w w1 →
        b = fillD env (fun j => listed.getD j false) L ss 0 a → (∀ j (s : Spec), listed.getD j false = true → ss[j]? = some s → s.fact (env j) w1) → NoPanic Q .normal b w1 := by
      intro listed b w1 env hall hnt hw hb hf
      have hlm : l.length ≤ m := by
        rcases Nat.lt_or_ge m l.length with h1 | h1
        · have h2 := hall m h1
          rw [hnt m (Nat.le_refl _)] at h2
          cases h2
        · exact h1
      have := finish listed b w1 env (fun j hj => hall j (by omega)) hw hb hf
      rw [List.drop_of_length_le hlm] at this
      exact this
    have allOf : ∀ listed : Array Bool, listed.size = l.length → Region.ready .any l.toArray listed = [] → ∀ j, j < l.length → listed.getD j false = true := by
      intro listed hsz hr j
      induction j using Nat.strongRecOn with
      | _ j ih =>
        intro hj
        cases hb : listed.getD j false with
        | true => rfl
        | false =>
          exfalso
          have hm : j ∈ Region.ready .any l.toArray listed := by
            rw [mem_ready]
            refine ⟨?_, l[j], by simp [hj], fun e he hbd => ih e.on (parOk_before hok (by simp [hj]) he hbd) ?_⟩
            · have hjs : j < listed.size := by omega
              simp [hjs] at hb ⊢
              exact hb
            · have := parOk_before hok (i := j) (o := l[j]) (by simp [hj]) he hbd
              omega
          rw [hr] at hm
          cases hm
    induction fuel with
    | zero =>
      intro listed b w1 env hsz hfu hw hb hf hcl hnt
      have hall : ∀ j, j < l.length → listed.getD j false = true := by
        intro j hj
        have hc : listed.toList.countP (fun x => x) = listed.toList.length := by
          have := List.countP_le_length (p := fun x => x) (l := listed.toList)
          simp only [Array.length_toList] at *
          omega
        have := List.countP_eq_length.1 hc
        have hjs : j < listed.size := by omega
        simp [hjs]
        exact this _ (by simp)
      refine ⟨?_, fin listed b w1 env hall hnt hw hb hf⟩
      rw [List.eq_nil_iff_forall_not_mem]
      intro j hj
      obtain ⟨h0, o, ho, _⟩ := mem_ready.1 hj
      have hjl : j < l.length := by have := (Array.getElem?_eq_some_iff.1 ho).1; simpa using this
      have h1 := hall j hjl
      have hjs : j < listed.size := by omega
      simp [hjs] at h0 h1
      rw [h0] at h1
      cases h1
    | succ fuel ih =>
      intro listed b w1 env hsz hfu hw hb hf hcl hnt
      refine ⟨fun hr => fin listed b w1 env (allOf listed hsz hr) hnt hw hb hf, fun i hi => ?_⟩
      obtain ⟨h0, o, ho', hall⟩ := mem_ready.1 hi
      have ho : l[i]? = some o := by rw [← hops]; exact ho'
      have hil : i < l.length := (List.getElem?_eq_some_iff.1 ho).1
      have his : i < listed.size := by omega
      have hun : listed.getD i false = false := by
        simp [his] at h0 ⊢
        exact h0
      rcases Nat.lt_or_ge i m with him | him
      case inr =>
        have hpre : ∀ j, j < i → listed.getD j false = true := by
          intro j hj
          have h1 := List.all_eq_true.1 htl i (by simpa using hil)
          simp only [Bool.or_eq_true, decide_eq_true_eq, List.all_eq_true, List.mem_range] at h1
          rcases h1 with h1 | h1
          · omega
          · exact reach_listed (l := l.toArray) (fun j o ho => hcl j o (by rw [← hops]; exact ho)) _ i o j ho' hall (h1 j hj)
        have hie : i = m := by
          rcases Nat.lt_or_ge m i with h1 | h1
          · have h2 := hpre m h1
            rw [hnt m (Nat.le_refl _)] at h2
            cases h2
          · omega
        subst hie
        have hw3 := finish listed b w1 env (fun j hj => hpre j hj) hw hb hf
        have hall' : ∀ j, listed.getD j false = decide (j < i) := fun j => by
          by_cases hj : j < i
          · rw [hpre j hj]; simp [hj]
          · rw [hnt j (by omega)]; simp [hj]
        have hcnt : listed.toList.countP (fun x => x) = i := count_lt listed i (by omega) hall'
        have := (any_of_list (P := P) (Q := NoPanic Q) hok htl i (fuel + 1) listed b w1 (Nat.le_refl _) (by omega) hsz hall' (by omega) hw3).2 i hi
        exact this
      have hoL := hLo i o him ho
      obtain ⟨s, hs, gs, hgl, hg, hstep⟩ := par_at (env := env) L ss [] 0 a h rfl i o hoL
      have hb4 : ∀ e ∈ o.after, Region.binds .any e = true → e.on < i := fun e he hbd => parOk_before hok ho' he hbd
      have hst := hstep w1 hw (fun e he hbd => by
        have he' : e ∈ o.after := by simpa using he
        have hlt := hb4 e he' hbd
        obtain ⟨sj, hsj⟩ := hlen e.on (L[e.on]'(by omega)) (by simp)
        have hge := hg e.on sj hlt hsj
        simp only [List.nil_append, List.getD_eq_getElem?_getD, hge, Option.getD_some, Nat.zero_add]
        exact hf e.on sj (hall e he' hbd) hsj)
      simp only [Nat.zero_add] at hst
      -- the canonical frame and the frame at hand agree on what the operation looks at
      have hag : ∀ t ∈ o.looksAt l.toArray, b.tmps[t]? = (fillD env (fun j => decide (j < i)) L ss 0 a).tmps[t]? := by
        intro t ht
        rw [hb]
        refine fillD_agree L ss 0 a a rfl rfl fun j p hpL hpt => ?_
        have hp := (hLi j p hpL).1
        simp only [Nat.zero_add]
        by_cases hji : j = i
        · subst hji; rw [hun]; simp
        · have hpair := (parOk_pair hok ho' (by rw [hops]; exact hp) hji hpt).2 ht
          rcases hpair with hd | hd
          · obtain ⟨e, he, hbd, hej⟩ := depOn_spec hd
            rw [← hej, hall e he hbd]
            simp [hb4 e he hbd]
          · obtain ⟨e, he, hbd, hej⟩ := depOn_spec hd
            have hij : i < j := by rw [← hej]; exact parOk_before hok (by rw [hops]; exact hp) he hbd
            have : listed.getD j false = false := by
              cases hlj : listed.getD j false with
              | false => rfl
              | true => have := hcl j p hp hlj e he hbd; rw [hej, hun] at this; cases this
            rw [this]
            simp; omega
      have hev : ∀ x ∈ o.op.operands, b.eval x = (fillD env (fun j => decide (j < i)) L ss 0 a).eval x := by
        intro x hx
        cases x with
        | tmp t =>
          have := hag t (List.mem_append_left _ (List.mem_filterMap.2 ⟨.tmp t, by simpa using hx, rfl⟩))
          simp [Act.eval, this]
        | _ => rfl
      have hexe : execOp b.eval o = execOp (fillD env (fun j => decide (j < i)) L ss 0 a).eval o :=
        execOp_congr o (fun cs bb => Region.noSelect_spec (parOk_noSelect hok) i o cs bb ho') hev
      have hwan : Region.wanted o (yielded l.toArray b.tmps) = Region.wanted o (yielded l.toArray (fillD env (fun j => decide (j < i)) L ss 0 a).tmps) := by
        unfold Region.wanted
        cases hgd : o.guard with
        | none => rfl
        | some gw =>
          obtain ⟨g, want⟩ := gw
          simp only
          congr 1
          unfold yielded
          cases ht : (l.toArray[g]?).bind (·.dst) with
          | none => rfl
          | some t =>
            have e2 := hag t (List.mem_append_right _ (by simp only [hgd]; rw [ht]; simp))
            simp only [Option.bind_some]
            rw [e2]
      -- what follows behind the operation
      have next : ∀ u w2, s.fact u w2 → Ext w1 w2 → wpAny P .any l.toArray (NoPanic Q) fuel (listed.setIfInBounds i true) (b.put o.dst (s.shape u)) w2 := by
        intro u w2 hfu2 hx
        let env' : Nat → Unk := fun j => if j = i then u else env j
        have hset : ∀ j, (listed.setIfInBounds i true).getD j false = (decide (j = i) || listed.getD j false) := by
          intro j
          by_cases hji : j = i
          · subst hji; simp [his]
          · rw [getD_set_ne false (Ne.symm hji)]; simp [hji]
        have henv : ∀ (l : List Oper) (ss : List Spec) (k : Nat) (a : Act), fillD env (fun j => listed.getD j false) l ss k a = fillD env' (fun j => listed.getD j false) l ss k a := by
          intro l
          induction l with
          | nil => intro ss k a; simp [fillD]
          | cons o r ihl => intro ss k a; cases ss with
            | nil => simp [fillD]
            | cons s ss =>
              simp only [fillD]
              by_cases hki : k = i
              · subst hki
                rw [if_neg (by rw [hun]; simp), if_neg (by rw [hun]; simp)]
                exact ihl _ _ _
              · have : env' k = env k := if_neg hki
                rw [this]
                exact ihl _ _ _
        refine ih _ _ w2 env' (by simpa using hsz) ?_ (hw.trans hx) ?_ (fun j s' hj hs' => ?_) (fun j p hp hj e he hbd => ?_) (fun j hj => by rw [hset, hnt j hj]; simp; omega)
        · have hc : (listed.setIfInBounds i true).toList.countP (fun x => x) = listed.toList.countP (fun x => x) + 1 := by
            have hi' : i < listed.toList.length := by simpa using his
            simp only [Array.toList_setIfInBounds]
            rw [List.countP_set (h := hi')]
            have : listed.toList[i] = false := by
              have := hun
              simp [his] at this
              simpa using this
            rw [this]
            simp
          rw [hc]
          omega
        · rw [hb, henv]
          refine act_ext (by rw [put_defers, fillD_defers, fillD_defers]) fun t => ?_
          by_cases hdt : o.dst = some t
          · rw [hdt, put_eq, fillD_size]
            rw [fillD_at (env := env') L ss 0 a i o s hoL hs hdt (by rw [Nat.zero_add, hset]; simp) (fun j p hpL hji => by
              have hp := (hLi j p hpL).1
              intro hpd
              have h2 := (parOk_pair hok ho' (by rw [hops]; exact hp) hji hpd).1
              exact h2 hdt)]
            simp only [Nat.zero_add]
            have : env' i = u := if_pos rfl
            rw [this]
          · rw [put_ne _ _ _ _ hdt]
            refine fillD_agree L ss 0 a a rfl rfl fun j p hpL hpt => ?_
            have hp := (hLi j p hpL).1
            rw [Nat.zero_add, hset]
            by_cases hji : j = i
            · subst hji; rw [ho] at hp; cases hp; exact absurd hpt hdt
            · simp [hji]
        · rw [hset] at hj
          by_cases hji : j = i
          · subst hji
            rw [hs] at hs'
            cases hs'
            have : env' j = u := if_pos rfl
            rw [this]
            exact hfu2
          · have : env' j = env j := if_neg hji
            rw [this]
            exact s'.mono _ _ _ hx (hf j s' (by simpa [hji] using hj) hs')
        · rw [hset] at hj ⊢
          by_cases hji : j = i
          · subst hji
            rw [ho] at hp
            cases hp
            rw [hall e he hbd]
            simp
          · rw [hcl j p hp (by simpa [hji] using hj) e he hbd]
            simp
      -- the step
      unfold wpOp
      simp only [ho']
      replace hst := stepAt_tail hst
      unfold StepAt at hst
      rw [hwan]
      split
      · rename_i hw'
        rw [if_pos hw'] at hst
        rcases hst (fun a' w' => ∃ v, a' = (fillD env (fun j => decide (j < i)) L ss 0 a).put o.dst v ∧ ∃ u, v = s.shape u ∧ s.fact u w' ∧ Ext w1 w') (fun u w' h1 h2 => ⟨_, rfl, u, rfl, h1, h2⟩) with hs1 | hs1
        · refine .inl (Oper.wp_mono (fun a' w' hh => ?_) (wp_frame hexe (fun d hd => by rw [fillD_size]; exact inb i o ho d hd) hs1))
          obtain ⟨v, rfl, u, rfl, h1, h2⟩ := hh
          exact next u w' h1 h2
        · refine .inr ⟨?_, hs1.2⟩
          have := hs1.1
          unfold Oper.asks at this ⊢
          rw [hexe]
          exact this
      · rename_i hw'
        rw [if_neg hw'] at hst
        obtain ⟨u, hu, h1⟩ := hst
        rw [← hu]
        exact next u w1 h1 (Ext.refl _)
  refine key l.toArray.size _ a _ (fun _ => default) (by simp) (by simp) (Ext.drew w) ?_ (fun j s hj => ?_) (fun j o _ hj => ?_) (fun j _ => ?_)
  · have hnone : ∀ (m : List Oper) (ss : List Spec) (k : Nat) (a : Act), fillD (fun _ => default) (fun j => (Array.replicate l.toArray.size false).getD j false) m ss k a = a := by
      intro m
      induction m with
      | nil => intro ss k a; simp [fillD]
      | cons o r ih => intro ss k a; cases ss with
        | nil => simp [fillD]
        | cons s ss =>
          simp only [fillD]
          rw [if_neg (by simp [Array.getElem?_replicate]; split <;> simp)]
          exact ih ss (k + 1) a
    exact (hnone L ss 0 a).symm
  · exfalso
    simp [Array.getElem?_replicate] at hj
    split at hj <;> simp at hj
  · exfalso
    simp [Array.getElem?_replicate] at hj
    split at hj <;> simp at hj
  · simp [Array.getElem?_replicate]
    split <;> simp

end
end Go.Proofs.YthbhjladfniboaaDoor
namespace Go.Proofs.YthbhjladfniboaaDoor
set_option linter.unusedSimpArgs false
set_option linter.unusedVariables false
open Go.RowKit

/-- The slice v is the call's own (its block is B or later), and holds these rows. -/
structure Own (w : World) (B : Nat) (e : TypeId) (sz : Nat) (v : Value) (rows : List (List Value)) : Prop where
  own : w.ownsRow B e sz v rows.length rows.flatten
  each : ∀ r ∈ rows, r.length = sz
theorem Own.nil (w : World) (B : Nat) (e : TypeId) (sz : Nat) : Own w B e sz (.slice none 0 0) [] := ⟨World.ownsRow_nil w B e sz, by simp⟩
theorem grown_of_ext {w w' : World} (h : Ext w w') (row : Option Nat) : w.grownBy w' row :=
  ⟨h.os, h.tape, h.output, h.size, fun k hk _ => h.block k hk⟩
theorem Own.ext {w w' : World} {B : Nat} {e : TypeId} {sz : Nat} {v : Value} {rows : List (List Value)} (h : Own w B e sz v rows) (hx : Ext w w') : Own w' B e sz v rows :=
  ⟨h.own.kept (grown_of_ext hx none) (by cases v.ownBlock <;> simp), h.each⟩
theorem flat_row : ∀ {rows : List (List Value)} {sz : Nat}, (∀ r ∈ rows, r.length = sz) → ∀ (k : Nat) (r : List Value), rows[k]? = some r → ∀ j, j < sz → rows.flatten[k * sz + j]? = r[j]?
  | [], _, _, k, r, h, _, _ => by simp at h
  | x :: rows, sz, hall, 0, r, h, j, hj => by
    simp only [List.getElem?_cons_zero, Option.some.injEq] at h
    subst h
    have hx := hall x (by simp)
    simp only [Nat.zero_mul, Nat.zero_add, List.flatten_cons]
    rw [List.getElem?_append_left (by omega)]
  | x :: rows, sz, hall, k + 1, r, h, j, hj => by
    have hx := hall x (by simp)
    simp only [List.flatten_cons]
    rw [List.getElem?_append_right (by rw [hx, Nat.add_mul]; omega)]
    have e : (k + 1) * sz + j - x.length = k * sz + j := by rw [hx, Nat.add_mul]; omega
    rw [e]
    exact flat_row (fun r hr => hall r (by simp [hr])) k r (by simpa using h) j hj
theorem Own.slr {w : World} {B : Nat} {e : TypeId} {sz : Nat} {v : Value} {rows : List (List Value)} (h : Own w B e sz v rows) : SlR w sz v rows := by
  obtain ⟨h1, h2⟩ := h.own
  rcases h2 with ⟨rfl, hn⟩ | ⟨g, cap, cur, rfl, _, hg, hnc, hcm, hcs, htake⟩
  · have : rows = [] := List.eq_nil_of_length_eq_zero hn
    subst this
    exact ⟨none, 0, rfl, Nat.le_refl _, by omega, fun _ => rfl, fun k r hr => by simp at hr⟩
  · refine ⟨some ⟨g, 0, none⟩, cap, rfl, hnc, by unfold maxLen at hcm; omega, fun h => (by cases h), fun k r hr => ?_⟩
    have hlen := h.each r (List.mem_of_getElem? hr)
    refine ⟨hlen, g, 0, rfl, fun j u hu => ?_⟩
    have hj : j < sz := by rw [← hlen]; exact (List.getElem?_eq_some_iff.1 hu).1
    have hf := flat_row h.each k r hr j hj
    rw [hu, ← htake, List.getElem?_take] at hf
    split at hf
    · rw [Nat.zero_add, cell_of_row w g _ cur e (0, 0) hg]
      simpa using hf
    · cases hf
/-- A slice that was just written out is the call's own. -/
theorem Own.blk {w : World} {B g n : Nat} {e : TypeId} {sz : Nat} {cs : List Value} (h : Blk w g e cs.toArray) (hB : B ≤ g) (rows : List (List Value)) (hr : rows.flatten = cs) (hn : rows.length = n) (he : (rows.all fun r => r.length == sz) = true) (hm : n ≤ 9223372036854775807) : Own w B e sz (.slice (some ⟨g, 0, none⟩) n n) rows := by
  have hall : ∀ r ∈ rows, r.length = sz := fun r hr' => by simpa using List.all_eq_true.1 he r hr'
  have hfl : ∀ (l : List (List Value)), (∀ r ∈ l, r.length = sz) → l.flatten.length = l.length * sz := by
    intro l
    induction l with
    | nil => intro _; simp
    | cons r l ih => intro h; simp only [List.flatten_cons, List.length_append, List.length_cons, h r (by simp), ih (fun q hq => h q (by simp [hq])), Nat.add_mul]; omega
  have hl := hfl rows hall
  refine ⟨⟨hl, .inr ⟨g, n, cs.toArray, by rw [hn], hB, h, by omega, by unfold maxLen; omega, by rw [← hr, ← hn]; simpa using hl, ?_⟩⟩, hall⟩
  rw [← hr]
  simp only [List.take_of_length_le (Nat.le_of_eq hl)]
theorem Own.blk1 {w : World} {B g : Nat} {e : TypeId} {sz : Nat} {r : List Value} (h : Blk w g e r.toArray) (hB : B ≤ g) (he : (r.length == sz) = true) : Own w B e sz (.slice (some ⟨g, 0, none⟩) 1 1) [r] :=
  Own.blk h hB [r] (by simp) rfl (by simpa using he) (by omega)
class TElem (P : Program) (e : TypeId) (n : outParam Nat) (bytes : outParam Nat) (zc : outParam (List Value)) : Prop where
  h : ∃ i z, P.info? e = some i ∧ i.zero = some z ∧ i.size = n ∧ i.bytes = bytes ∧ z.cells.size = n ∧ 0 < n
theorem TElem.of {P : Program} {e n bytes : Nat} {zc : List Value} (h : ((P.info? e).map fun i => (i.zero.map (·.cells.toList), i.size, i.bytes)) = some (some zc, n, bytes)) (hz : zc.length = n) (hn : 0 < n) : TElem P e n bytes zc := ⟨by
  cases hi : P.info? e with
  | none => simp [hi] at h
  | some i =>
    cases hq : i.zero with
    | none => simp [hi, hq] at h
    | some z =>
      simp only [hi, hq, Option.map_some, Option.some.injEq, Prod.mk.injEq] at h
      obtain ⟨h1, h2, h3⟩ := h
      exact ⟨i, z, rfl, hq, h2, h3, by rw [← h2, h2, ← hz, ← h1]; simp, hn⟩⟩
section
variable {P : Program} {Q : Exit → Act → World → Prop} {K : Act → World → Prop} {a : Act} {w : World}
  {dst : Option Tmp} {ty : TypeId} {pos : String} {after : Array Edge} {guard : Option (Nat × Bool)} {ops : Array Oper} {rest : List Oper} {ss : List Spec} {fs : List (World → Prop)}
theorem r_append {s x : Operand} {t e n bytes B g p m c : Nat} {zc : List Value} [i : TSlice P t e] [z : TElem P e n bytes zc] {v : Value} {rows news : List (List Value)} (hs : a.eval s = v) (hown : Own w B e n v rows)
    (hx : a.eval x = .slice (some ⟨g, p, none⟩) m c) (hm : news.length = m) (hrow : RowAt w g p news.flatten) (hn : (news.all fun r => r.length == n && r.all (·.oneCell')) = true) (hB : B ≤ w.heap.size) (hlen : rows.length + m ≤ 1000000000) (hby : bytes ≤ 1000)
    (hk : ∀ v' w', Own w' B e n v' (rows ++ news) → Below B w w' → K (a.put dst v') w') : (Oper.mk dst (.call ⟨.builtin .append, #[s, x], #[t, t]⟩) ty pos after guard).wp P a w K Q := by
  obtain ⟨inf, z0, h1, h2, h3, h4, h5, h6⟩ := z.h
  have hall : ∀ r ∈ news, r.length = n ∧ ∀ u ∈ r, u.oneCell' = true := fun r hr => by
    have := List.all_eq_true.1 hn r hr
    simp only [Bool.and_eq_true, beq_iff_eq, List.all_eq_true] at this
    exact this
  have hfl : ∀ (l : List (List Value)), (∀ r ∈ l, r.length = n) → l.flatten.length = l.length * n := by
    intro l
    induction l with
    | nil => intro _; simp
    | cons r l ih => intro h; simp only [List.flatten_cons, List.length_append, List.length_cons, h r (by simp), ih (fun q hq => h q (by simp [hq])), Nat.add_mul]; omega
  have hmul : (rows.length + m) * bytes ≤ 1000000000 * 1000 := Nat.mul_le_mul hlen hby
  refine wp_append_own w s x t rfl B e inf z0 n bytes i.h h1 h2 h3 h4 h5 h6 v rows.length rows.flatten hs hown.own ⟨g, p, none⟩ m c news.flatten hx ?_ ?_ ?_ ?_ ?_ hB ?_
  · rw [hfl news (fun r hr => (hall r hr).1), hm]
  · intro j u hu
    have hadd : (⟨g, p, none⟩ : Addr).add j = ⟨g, p + j, none⟩ := by unfold Addr.add; split <;> simp_all
    rw [hadd]
    exact hrow j u hu
  · intro u hu
    obtain ⟨r, hr, hur⟩ := List.mem_flatten.1 hu
    exact (hall r hr).2 u hur
  · unfold maxLen; omega
  · omega
  · intro v' w' h7 h8 _
    refine hk v' w' ⟨?_, ?_⟩ ((Below.refl B w).grown h8 hB fun k hk' => (hown.own.lt k hk').1)
    · rw [List.length_append, hm, List.flatten_append]; exact h7
    · intro r hr
      rcases List.mem_append.1 hr with hr | hr
      · exact hown.each r hr
      · exact (hall r hr).1
theorem l_append {s x : Operand} {t e n bytes B g p m c : Nat} {zc : List Value} [i : TSlice P t e] [z : TElem P e n bytes zc] {v : Value} {rows news : List (List Value)} (hs : a.eval s = v) (hown : Own w B e n v rows)
    (hx : a.eval x = .slice (some ⟨g, p, none⟩) m c) (hm : news.length = m) (hrow : RowAt w g p news.flatten) (hn : (news.all fun r => r.length == n && r.all (·.oneCell')) = true) (hB : B ≤ w.heap.size) (hlen : rows.length + m ≤ 1000000000) (hby : bytes ≤ 1000)
    (hk : ∀ v' w', Own w' B e n v' (rows ++ news) → Below B w w' → wpList P ops Q rest (a.put dst v') w') : wpList P ops Q (Oper.mk dst (.call ⟨.builtin .append, #[s, x], #[t, t]⟩) ty pos after none :: rest) a w :=
  wpList_plain rfl fun _ hK => r_append hs hown hx hm hrow hn hB hlen hby fun v' w' h1 h2 => hK _ _ (hk v' w' h1 h2)
/-- One element. -/
theorem l_append1 {s x : Operand} {t e n bytes B g p c : Nat} {zc : List Value} [i : TSlice P t e] [z : TElem P e n bytes zc] {v : Value} {rows : List (List Value)} {r : List Value} (hs : a.eval s = v) (hown : Own w B e n v rows)
    (hx : a.eval x = .slice (some ⟨g, p, none⟩) 1 c) (hrow : RowAt w g p r) (hn : (r.length == n && r.all (·.oneCell')) = true) (hB : B ≤ w.heap.size) (hlen : rows.length + 1 ≤ 1000000000) (hby : bytes ≤ 1000)
    (hk : ∀ v' w', Own w' B e n v' (rows ++ [r]) → Below B w w' → wpList P ops Q rest (a.put dst v') w') : wpList P ops Q (Oper.mk dst (.call ⟨.builtin .append, #[s, x], #[t, t]⟩) ty pos after none :: rest) a w :=
  l_append (news := [r]) hs hown hx rfl (by simpa using hrow) (by simpa using hn) hB hlen hby hk
/-- Elements of one cell each. -/
theorem l_appendC {s x : Operand} {t e bytes B g p m c : Nat} {zc : List Value} [i : TSlice P t e] [z : TElem P e 1 bytes zc] {v : Value} {rows : List (List Value)} {vs : List Value} (hs : a.eval s = v) (hown : Own w B e 1 v rows)
    (hx : a.eval x = .slice (some ⟨g, p, none⟩) m c) (hrow : RowAt w g p vs) (hm : vs.length = m) (hn : (vs.all (·.oneCell')) = true) (hB : B ≤ w.heap.size) (hlen : rows.length + m ≤ 1000000000) (hby : bytes ≤ 1000)
    (hk : ∀ v' w', Own w' B e 1 v' (rows ++ vs.map fun u => [u]) → Below B w w' → wpList P ops Q rest (a.put dst v') w') : wpList P ops Q (Oper.mk dst (.call ⟨.builtin .append, #[s, x], #[t, t]⟩) ty pos after none :: rest) a w := by
  have hf : (vs.map fun u => [u]).flatten = vs := by
    clear hk hn hm hrow hx
    induction vs with
    | nil => rfl
    | cons u l ih => simp only [List.map_cons, List.flatten_cons, ih]; rfl
  refine l_append (news := vs.map fun u => [u]) hs hown hx (by simpa using hm) (by rw [hf]; exact hrow) ?_ hB hlen hby hk
  rw [List.all_map]
  simpa using hn
/-- All elements of another slice. -/
theorem l_appendS {s x : Operand} {t e n bytes B : Nat} {zc : List Value} [i : TSlice P t e] [z : TElem P e n bytes zc] {v u : Value} {rows news : List (List Value)} (hs : a.eval s = v) (hown : Own w B e n v rows)
    (hx : a.eval x = u) (hsrc : SlR w n u news) (hn : ∀ r ∈ news, ∀ y ∈ r, y.oneCell' = true) (hB : B ≤ w.heap.size) (hlen : rows.length + news.length ≤ 1000000000) (hby : bytes ≤ 1000)
    (hk : ∀ v' w', Own w' B e n v' (rows ++ news) → Below B w w' → wpList P ops Q rest (a.put dst v') w') : wpList P ops Q (Oper.mk dst (.call ⟨.builtin .append, #[s, x], #[t, t]⟩) ty pos after none :: rest) a w := by
  obtain ⟨A, c, rfl, hc, hm, h0, hr⟩ := hsrc
  cases A with
  | none =>
    have hc0 := h0 rfl
    subst hc0
    have hl : news = [] := List.eq_nil_of_length_eq_zero (by omega)
    subst hl
    obtain ⟨inf, z0, h1, h2, h3, h4, h5, h6⟩ := z.h
    refine wpList_append_own_none rfl s x t rfl B e inf n i.h h1 v rows.length rows.flatten hs hown.own hx ?_
    have := hk v w (by rw [List.append_nil]; exact hown) (Below.refl _ _)
    exact this
  | some ad =>
    have had : ∃ b o, ad = ⟨b, o, none⟩ ∨ news = [] := by
      cases news with
      | nil => exact ⟨0, 0, .inr rfl⟩
      | cons r l => obtain ⟨_, b, o, h, _⟩ := hr 0 r rfl; exact ⟨b, o, .inl (Option.some.inj h)⟩
    obtain ⟨b, o, had | had⟩ := had
    · subst had
      refine l_append (news := news) hs hown hx rfl ?_ ?_ hB hlen hby hk
      · intro j y hy
        have key : ∀ (l : List (List Value)) (q : Nat), (∀ k r, l[k]? = some r → r.length = n ∧ RowAt w b (q + k * n) r) → ∀ j y, l.flatten[j]? = some y → w.cell? ⟨b, q + j, none⟩ = some y := by
          intro l
          induction l with
          | nil => intro q _ j y h; simp at h
          | cons r l ih =>
            intro q h j y hy
            have hr0 := h 0 r rfl
            simp only [Nat.zero_mul, Nat.add_zero] at hr0
            simp only [List.flatten_cons] at hy
            by_cases hj : j < r.length
            · rw [List.getElem?_append_left hj] at hy
              exact hr0.2 j y hy
            · rw [List.getElem?_append_right (by omega)] at hy
              have := ih (q + n) (fun k r' hk' => by
                have := h (k + 1) r' (by simpa using hk')
                have e : q + (k + 1) * n = q + n + k * n := by rw [Nat.add_mul]; omega
                rw [e] at this
                exact this) _ y hy
              have e : q + n + (j - r.length) = q + j := by omega
              rwa [e] at this
        refine key news o (fun k r hk' => ?_) j y hy
        obtain ⟨g1, b', o', g2, g3⟩ := hr k r hk'
        simp only [Option.some.injEq, Addr.mk.injEq, and_true] at g2
        obtain ⟨rfl, rfl⟩ := g2
        exact ⟨g1, g3⟩
      · simp only [List.all_eq_true, Bool.and_eq_true, beq_iff_eq]
        intro r hr'
        obtain ⟨k, hk', hkr⟩ := List.mem_iff_getElem.1 hr'
        exact ⟨(hr k r (by rw [List.getElem?_eq_getElem hk', hkr])).1, fun y hy => hn r hr' y hy⟩
    · subst had
      obtain ⟨b, o, sp⟩ := ad
      obtain ⟨inf, z0, h1, h2, h3, h4, h5, h6⟩ := z.h
      refine wpList_append_own w rfl s x t rfl B e inf z0 n bytes i.h h1 h2 h3 h4 h5 h6 v rows.length rows.flatten hs hown.own ⟨b, o, sp⟩ 0 c [] hx (by simp) (by simp) (by simp) (by unfold maxLen; simp at hlen ⊢; omega) ?_ hB ?_
      · have : (rows.length + 0) * bytes ≤ 1000000000 * 1000 := Nat.mul_le_mul (by simpa using hlen) hby
        omega
      · intro v' w' h7 h8 _
        exact hk v' w' ⟨by simpa using h7, by simpa using hown.each⟩ ((Below.refl B w).grown h8 hB fun k hk' => (hown.own.lt k hk').1)
end
/-! Facts behind a step that leaves all below B. -/
theorem Below.row {w w' : World} {B b p : Nat} {cs : List Value} (h : Below B w w') (hr : RowAt w b p cs) (hb : b < B) : RowAt w' b p cs := fun j u hu => by
  rw [h.cell (p := ⟨b, p + j, none⟩) hb]; exact hr j u hu
theorem Below.ext {w w' : World} {B : Nat} (h : Below B w w') (hB : w.heap.size ≤ B) : Ext w w' := h.mono hB
theorem xb {a b c : World} (h : Ext a b) (k : Below a.heap.size b c) : Ext a c := Below.trans h k
theorem Ext.bel {w w' : World} {B : Nat} (h : Ext w w') (hB : B ≤ w.heap.size) : Below B w w' := Below.mono h hB
end Go.Proofs.YthbhjladfniboaaDoor
namespace Go.Proofs.YthbhjladfniboaaDoor
set_option linter.unusedSimpArgs false
set_option linter.unusedVariables false
open Go.RowKit

def kindCode : Option TypeDesc → Nat
  | some (.int _) => 0
  | some .string => 1
  | some .bool => 2
  | _ => 3
def veq : Value → Value → Bool
  | .int _ a, .int _ b => a == b
  | .string a, .string b => a.data.toList == b.data.toList
  | .bool a, .bool b => a == b
  | _, _ => false
def veqs : List Value → List Value → Bool
  | x :: xs, y :: ys => veq x y && veqs xs ys
  | _, _ => true
/-- The values are of these kinds. -/
def fitsV : List Nat → List Value → List Value → Bool
  | [], [], [] => true
  | 0 :: ks, .int k _ :: xs, .int k' _ :: ys => k == k' && fitsV ks xs ys
  | 1 :: ks, .string _ :: xs, .string _ :: ys => fitsV ks xs ys
  | 2 :: ks, .bool _ :: xs, .bool _ :: ys => fitsV ks xs ys
  | _, _, _ => false
class TEq (P : Program) (t : TypeId) (ks : outParam (List Nat)) : Prop where
  s : P.underlying t = some (.struct (P.fieldsOf t))
  h : (P.fieldsOf t).toList.map (fun f => (f.name == "_", f.offset, kindCode (P.underlying f.type))) = ks.zipIdx.map fun x => (false, x.2, x.1)
  held : P.stoodInHeld t = false
  guard : P.eqGuardType P.depth t = false
section
variable {P : Program}
theorem eqFields_run (d : Nat) (w : World) : ∀ (fs : List Field) (ks : List Nat) (xs ys px py : List Value), fs.map (fun f => (f.name == "_", f.offset, kindCode (P.underlying f.type))) = (ks.zipIdx px.length).map (fun x => (false, x.2, x.1)) → px.length = py.length → fitsV ks xs ys = true →
    (Op.eqFields (d + 1) (px ++ xs).toArray (py ++ ys).toArray fs).run P w = .ok (veqs xs ys) w
  | [], [], [], [], _, _, _, _, _ => rfl
  | [], _ :: _, _, _, _, _, h, _, _ => by simp at h
  | f :: fs, [], _, _, _, _, h, _, _ => by simp at h
  | [], [], _ :: _, _, _, _, _, _, h => by simp [fitsV] at h
  | [], [], [], _ :: _, _, _, _, _, h => by simp [fitsV] at h
  | f :: fs, k :: ks, xs, ys, px, py, h, hp, hf => by
    simp only [List.map_cons, List.zipIdx_cons, List.cons.injEq, Prod.mk.injEq] at h
    obtain ⟨⟨h1, h2, h3⟩, h4⟩ := h
    have hname : f.name ≠ "_" := by simpa using h1
    have next : ∀ (x y : Value) (xs' ys' : List Value), fitsV ks xs' ys' = true → (Op.eqFields (d + 1) (px ++ x :: xs').toArray (py ++ y :: ys').toArray fs).run P w = .ok (veqs xs' ys') w := fun x y xs' ys' hf' => by
      have := eqFields_run d w fs ks xs' ys' (px ++ [x]) (py ++ [y]) (by simpa using h4) (by simp [hp]) hf'
      simpa using this
    have parts : ∀ (t : TypeDesc) (x y : Value) (xs' ys' : List Value), P.underlying f.type = some t → aggDesc t = false →
        (part f.type (px ++ x :: xs').toArray f.offset).run P w = .ok x w ∧ (part f.type (py ++ y :: ys').toArray f.offset).run P w = .ok y w := fun t x y xs' ys' ht ha => by
      constructor <;> (unfold part; rw [Sem.run_bind, run_isAgg_of ht, ha]; simp [h2, hp])
    have step : ∀ (t : TypeDesc) (x y : Value) (xs' ys' : List Value) (b : Bool), P.underlying f.type = some t → aggDesc t = false → (Op.equalIn (d + 1) f.type x y).run P w = .ok b w → fitsV ks xs' ys' = true →
        (Op.eqFields (d + 1) (px ++ x :: xs').toArray (py ++ y :: ys').toArray (f :: fs)).run P w = .ok (b && veqs xs' ys') w := fun t x y xs' ys' b ht ha hb hf' => by
      obtain ⟨p1, p2⟩ := parts t x y xs' ys' ht ha
      simp only [Op.eqFields, if_pos hname, Sem.run_bind, p1, p2, hb, Result.andThen_ok]
      cases b
      · rfl
      · exact next x y xs' ys' hf'
    cases hu : P.underlying f.type with
    | none => rw [hu] at h3; simp [kindCode] at h3; subst h3; simp [fitsV] at hf
    | some t =>
      rw [hu] at h3
      cases t with
      | int kd =>
        simp only [kindCode] at h3
        subst h3
        match xs, ys, hf with
        | .int k1 a :: xs', .int k2 b :: ys', hf =>
          simp only [fitsV, Bool.and_eq_true, beq_iff_eq] at hf
          obtain ⟨rfl, hf⟩ := hf
          exact step _ _ _ xs' ys' _ hu rfl (run_equalIn_int w d f.type k1 kd a b hu) hf
      | string =>
        simp only [kindCode] at h3
        subst h3
        match xs, ys, hf with
        | .string a :: xs', .string b :: ys', hf =>
          have := run_equalIn_string w d f.type a b hu
          rw [ByteArray.toList_eq, ByteArray.toList_eq] at this
          exact step _ _ _ xs' ys' _ hu rfl this hf
      | bool =>
        simp only [kindCode] at h3
        subst h3
        match xs, ys, hf with
        | .bool a :: xs', .bool b :: ys', hf => exact step _ _ _ xs' ys' _ hu rfl (run_equalIn_bool' w d f.type a b hu) hf
      | _ => simp [kindCode] at h3; subst h3; simp [fitsV] at hf
theorem struct_eq (t : TypeId) {ks : List Nat} [e : TEq P t ks] (w : World) (d : Nat) (xs ys : List Value) (hf : fitsV ks xs ys = true) : (Op.equalIn (d + 2) t (.agg xs.toArray) (.agg ys.toArray)).run P w = .ok (veqs xs ys) w := by
  rw [run_equalIn_struct w (d + 1) t _ _ e.s e.held]
  exact eqFields_run d w _ ks xs ys [] [] (by simpa using e.h) rfl hf
end
section
variable {P : Program} {Q : Exit → Act → World → Prop} {K : Act → World → Prop} {a : Act} {w : World}
  {dst : Option Tmp} {ty : TypeId} {pos : String} {after : Array Edge} {guard : Option (Nat × Bool)} {ops : Array Oper} {rest : List Oper} {ss : List Spec} {fs : List (World → Prop)}
theorem r_structEq {x y : Operand} {t t' : TypeId} {ks : List Nat} {xs ys : List Value} [e : TEq P t ks] (hx : a.eval x = .agg xs.toArray) (hy : a.eval y = .agg ys.toArray) (hf : fitsV ks xs ys = true) (hk : K (a.put dst (.bool (veqs xs ys))) w) : (Oper.mk dst (.binOp .eql t x y t') ty pos after guard).wp P a w K Q := by
  refine wp_run ?_ hk
  have h1 := run_eqGuard_agg (P := P) w .eql t x y xs.toArray ys.toArray e.guard
  have h2 := run_eql_struct (P := P) w t xs.toArray ys.toArray
  rw [struct_eq t w 9998 xs ys hf] at h2
  simp only [execOp, hx, hy, Sem.run_bind, h1, h2, Result.andThen_ok, Sem.run_pure]
theorem r_structNe {x y : Operand} {t t' : TypeId} {ks : List Nat} {xs ys : List Value} [e : TEq P t ks] (hx : a.eval x = .agg xs.toArray) (hy : a.eval y = .agg ys.toArray) (hf : fitsV ks xs ys = true) (hk : K (a.put dst (.bool (!veqs xs ys))) w) : (Oper.mk dst (.binOp .neq t x y t') ty pos after guard).wp P a w K Q := by
  refine wp_run ?_ hk
  have h1 := run_eqGuard_agg (P := P) w .neq t x y xs.toArray ys.toArray e.guard
  have h2 := run_neq_struct (P := P) w t xs.toArray ys.toArray
  rw [struct_eq t w 9998 xs ys hf] at h2
  simp only [execOp, hx, hy, Sem.run_bind, h1, h2, Result.andThen_ok, Sem.run_pure]
theorem l_structEq {x y : Operand} {t t' : TypeId} {ks : List Nat} {xs ys : List Value} [e : TEq P t ks] (hx : a.eval x = .agg xs.toArray) (hy : a.eval y = .agg ys.toArray) (hf : fitsV ks xs ys = true) (hr : wpList P ops Q rest (a.put dst (.bool (veqs xs ys))) w) : wpList P ops Q (Oper.mk dst (.binOp .eql t x y t') ty pos after none :: rest) a w :=
  wpList_plain rfl fun _ hK => r_structEq hx hy hf (hK _ _ hr)
theorem l_structNe {x y : Operand} {t t' : TypeId} {ks : List Nat} {xs ys : List Value} [e : TEq P t ks] (hx : a.eval x = .agg xs.toArray) (hy : a.eval y = .agg ys.toArray) (hf : fitsV ks xs ys = true) (hr : wpList P ops Q rest (a.put dst (.bool (!veqs xs ys))) w) : wpList P ops Q (Oper.mk dst (.binOp .neq t x y t') ty pos after none :: rest) a w :=
  wpList_plain rfl fun _ hK => r_structNe hx hy hf (hK _ _ hr)
theorem p_structEq {x y : Operand} {t t' : TypeId} {ks : List Nat} {xs ys : List Value} [e : TEq P t ks] (hx : a.eval x = .agg xs.toArray) (hy : a.eval y = .agg ys.toArray) (hf : fitsV ks xs ys = true) (hr : ParSteps P ops Q w rest ss (fs ++ [fun _ => True]) (a.put dst (.bool (veqs xs ys)))) : ParSteps P ops Q w (Oper.mk dst (.binOp .eql t x y t') ty pos after none :: rest) (Spec.det (.bool (veqs xs ys)) :: ss) fs a :=
  par_val rfl (fun w1 hw1 K hK => r_structEq hx hy hf (hK _ (Ext.refl _))) hr
theorem p_structNe {x y : Operand} {t t' : TypeId} {ks : List Nat} {xs ys : List Value} [e : TEq P t ks] (hx : a.eval x = .agg xs.toArray) (hy : a.eval y = .agg ys.toArray) (hf : fitsV ks xs ys = true) (hr : ParSteps P ops Q w rest ss (fs ++ [fun _ => True]) (a.put dst (.bool (!veqs xs ys)))) : ParSteps P ops Q w (Oper.mk dst (.binOp .neq t x y t') ty pos after none :: rest) (Spec.det (.bool (!veqs xs ys)) :: ss) fs a :=
  par_val rfl (fun w1 hw1 K hK => r_structNe hx hy hf (hK _ (Ext.refl _))) hr
end
end Go.Proofs.YthbhjladfniboaaDoor
namespace Go.Proofs.YthbhjladfniboaaDoor
set_option linter.unusedSimpArgs false
set_option linter.unusedVariables false
open Go.RowKit

def sameK : IntKind → IntKind → Bool
  | .i8, .i8 | .i16, .i16 | .i32, .i32 | .i64, .i64 | .u8, .u8 | .u16, .u16 | .u32, .u32 | .u64, .u64 => true
  | _, _ => false
theorem sameK_eq {k k' : IntKind} (h : sameK k k' = true) : k = k' := by
  cases k <;> cases k' <;> first | rfl | cases h
/-- What the keys of a map are. -/
inductive KD where
  | int (k : IntKind)
  | str
  | bool
  | st (ks : List Nat)
def sameKs : List Nat → List Nat → Bool
  | [], [] => true
  | x :: xs, y :: ys => Nat.beq x y && sameKs xs ys
  | _, _ => false
theorem sameKs_eq : ∀ {xs ys : List Nat}, sameKs xs ys = true → xs = ys
  | [], [], _ => rfl
  | x :: xs, y :: ys, h => by
    simp only [sameKs, Bool.and_eq_true] at h
    rw [Nat.eq_of_beq_eq_true h.1, sameKs_eq h.2]
  | [], _ :: _, h => by cases h
  | _ :: _, [], h => by cases h
def sameKD : KD → KD → Bool
  | .int k, .int k' => sameK k k'
  | .str, .str | .bool, .bool => true
  | .st ks, .st ks' => sameKs ks ks'
  | _, _ => false
theorem sameKD_eq {k k' : KD} (h : sameKD k k' = true) : k = k' := by
  cases k <;> cases k' <;> first | rfl | (cases h; done) | (simp only [sameKD] at h; rw [sameK_eq h]) | (simp only [sameKD] at h; rw [sameKs_eq h])
/-- Texts and truth values. -/
def fitS : List Nat → List Value → Bool
  | [], [] => true
  | 1 :: ks, .string _ :: xs => fitS ks xs
  | 2 :: ks, .bool _ :: xs => fitS ks xs
  | _, _ => false
/-- Is it a key of this kind? -/
def fitK : KD → Value → Bool
  | .int k, .int k' _ => sameK k k'
  | .str, .string _ => true
  | .bool, .bool _ => true
  | .st ks, .agg cs => fitS ks cs.toList
  | _, _ => false
/-- Are they the same key? -/
def keyEq : Value → Value → Bool
  | .agg xs, .agg ys => veqs xs.toList ys.toList
  | x, y => veq x y
/-- What stands at a key. -/
def findV (k : Value) : List (Value × Value) → Option Value
  | [] => none
  | (k', v) :: r => match keyEq k k' with
    | true => some v
    | false => findV k r
def putV (k v : Value) : List (Value × Value) → List (Value × Value)
  | [] => [(k, v)]
  | (k', v') :: r => match keyEq k k' with
    | true => (k, v) :: r
    | false => (k', v') :: putV k v r
def delV (k : Value) : List (Value × Value) → List (Value × Value)
  | [] => []
  | (k', v') :: r => match keyEq k k' with
    | true => r
    | false => (k', v') :: delV k r
/-- What a value is, without its addresses. -/
inductive D where
  | any
  | int (k : IntKind) (n : Int)
  | bool (b : Bool)
  | str (s : List UInt8)
  | pv (v : Value)
  | nil
  | sl (m sz : Nat) (rows : List (List D))
  | ptr (cells : List D)
  | obj (cells : List D)
  | ref (t off : Nat)
  | gref (c : Bool) (t off : Nat)
  | al (t : Nat)
  | fn (f : Nat) (caps : List D)
  | gd (c : Bool) (d : D)
  | agg (cs : List D)
  | tup (ds : List D)
  | mp (kd : KD) (es : List (Value × Value))
instance : Inhabited D := ⟨.any⟩

/-- A place: 0 nobody's, 1 the result, t + 2 the slot t; within it a way. -/
structure Place where
  r : Nat
  path : List Nat
  deriving DecidableEq
def Place.at (p : Place) (i : Nat) : Place := ⟨p.r, p.path ++ [i]⟩
def Place.slot (t : Nat) : Place := ⟨t + 2, []⟩
def Place.res : Place := ⟨1, []⟩
def Place.dead : Place := ⟨0, []⟩
/-- Who may write a block, and from which cell on; where the object of a slot lies. -/
structure Sig where
  own : Nat → Option (Place × Nat)
  loc : Nat → Nat
def Sig.lim (S : Sig) (b : Nat) : Option Nat := (S.own b).map (·.2)
def OkC (lim : Nat → Option Nat) (b off : Nat) : Prop := ∀ s, lim b = some s → off < s

/-- What never changes any more. -/
inductive Fz (lim : Nat → Option Nat) (w : World) : Value → D → Prop
  | any (v : Value) : Fz lim w v .any
  | int (k : IntKind) (n : Int) : Fz lim w (.int k n) (.int k n)
  | bool (b : Bool) : Fz lim w (.bool b) (.bool b)
  | str (s : List UInt8) : Fz lim w (.string ⟨s.toArray⟩) (.str s)
  | pv (v : Value) : Fz lim w v (.pv v)
  | nil : Fz lim w (.slice none 0 0) .nil
  | slNil (m sz : Nat) : Fz lim w (.slice none 0 0) (.sl m sz [])
  | slE (A : Addr) (sz : Nat) : Fz lim w (.slice (some A) 0 0) (.sl 0 sz [])
  | sl {b o cap sz : Nat} {rows : List (List D)} (cv : Nat → Nat → Value) (hc : rows.length ≤ cap) (hm : cap ≤ maxLen) (hr : ∀ (k : Nat) (r : List D), rows[k]? = some r → r.length = sz)
      (h : ∀ (k : Nat) (r : List D) (j : Nat) (d : D), rows[k]? = some r → r[j]? = some d → w.cell? ⟨b, o + k * sz + j, none⟩ = some (cv k j) ∧ OkC lim b (o + k * sz + j) ∧ (cv k j).oneCell' = true)
      (ih : ∀ (k : Nat) (r : List D) (j : Nat) (d : D), rows[k]? = some r → r[j]? = some d → Fz lim w (cv k j) d) : Fz lim w (.slice (some ⟨b, o, none⟩) rows.length cap) (.sl 0 sz rows)
  | ptr {b o : Nat} {cs : List D} (cv : Nat → Value) (h : ∀ (j : Nat) (d : D), cs[j]? = some d → w.cell? ⟨b, o + j, none⟩ = some (cv j) ∧ OkC lim b (o + j) ∧ (cv j).oneCell' = true)
      (ih : ∀ (j : Nat) (d : D), cs[j]? = some d → Fz lim w (cv j) d) : Fz lim w (.pointer (some ⟨b, o, none⟩)) (.ptr cs)
  | fn {f : Nat} {ds : List D} (vs : List Value) (hl : vs.length = ds.length) (ih : ∀ (j : Nat) (d : D) (v : Value), ds[j]? = some d → vs[j]? = some v → Fz lim w v d) : Fz lim w (.func (.func f) #[] vs.toArray) (.fn f ds)
  | gd {v : Value} {c : Bool} {d : D} (h1 : c = true → Fz lim w v d) (h0 : c = false → v = undef) : Fz lim w v (.gd c d)
  | agg {cs : List D} (vs : List Value) (hl : vs.length = cs.length) (h1 : ∀ v : Value, v ∈ vs → v.oneCell' = true) (ih : ∀ (j : Nat) (d : D) (v : Value), cs[j]? = some d → vs[j]? = some v → Fz lim w v d) : Fz lim w (.agg vs.toArray) (.agg cs)
  | tup {ds : List D} (vs : List Value) (hl : vs.length = ds.length) (ih : ∀ (j : Nat) (d : D) (v : Value), ds[j]? = some d → vs[j]? = some v → Fz lim w v d) : Fz lim w (.tuple vs.toArray) (.tup ds)

/-- The block of a slice that its place alone may write. -/
structure OwnAt (S : Sig) (w : World) (p : Place) (b cap m sz : Nat) (rows : List (List D)) (cur : Array Value) (e : TypeId) : Prop where
  mode : m = 1 ∨ m = 2
  heap : w.heap[b]? = some (.cells cur e (0, 0))
  le : rows.length ≤ cap
  max : cap ≤ maxLen
  size : cur.size = cap * sz
  each : ∀ r : List D, r ∈ rows → r.length = sz
  own : S.own b = some (p, if m = 2 then 0 else rows.length * sz)
  cells : ∀ (k : Nat) (r : List D) (j : Nat) (d : D), rows[k]? = some r → r[j]? = some d → ∃ v, cur[k * sz + j]? = some v ∧ v.oneCell' = true ∧ Fz S.lim w v d

/-- What a value is at a place. -/
inductive Rep (S : Sig) (w : World) : Place → Value → D → Prop
  | fz {p : Place} {v : Value} {d : D} (h : Fz S.lim w v d) : Rep S w p v d
  | own {p : Place} {b cap m sz : Nat} {rows : List (List D)} {cur : Array Value} {e : TypeId} (h : OwnAt S w p b cap m sz rows cur e) : Rep S w p (.slice (some ⟨b, 0, none⟩) rows.length cap) (.sl m sz rows)
  | obj {t b : Nat} {path : List Nat} {cs : List D} {cur : Array Value} {e : TypeId} (hb : S.own b = some (⟨t, path⟩, 0)) (hp : path = []) (hl : S.loc t = b) (hh : w.heap[b]? = some (.cells cur e (0, 0))) (hs : cs.length = cur.size)
      (h1 : ∀ (i : Nat) (v : Value), cur[i]? = some v → v.oneCell' = true) (ih : ∀ (i : Nat) (d : D) (v : Value), cs[i]? = some d → cur[i]? = some v → Rep S w ⟨t, [i]⟩ v d) : Rep S w ⟨t, path⟩ (.pointer (some ⟨b, 0, none⟩)) (.obj cs)
  | ref {p : Place} {t off : Nat} (h : S.own (S.loc (t + 2)) = some (.slot t, 0)) : Rep S w p (.pointer (some ⟨S.loc (t + 2), off, none⟩)) (.ref t off)
  | gref {p : Place} {t off : Nat} {c : Bool} {v : Value} (h : S.own (S.loc (t + 2)) = some (.slot t, 0)) (hv : v = if c = true then .pointer (some ⟨S.loc (t + 2), off, none⟩) else undef) : Rep S w p v (.gref c t off)
  | fn {p : Place} {f : Nat} {ds : List D} (vs : List Value) (hl : vs.length = ds.length) (ih : ∀ (j : Nat) (d : D) (v : Value), ds[j]? = some d → vs[j]? = some v → Rep S w .dead v d) : Rep S w p (.func (.func f) #[] vs.toArray) (.fn f ds)
  | agg {p : Place} {cs : List D} (vs : List Value) (hl : vs.length = cs.length) (h1 : ∀ v : Value, v ∈ vs → v.oneCell' = true) (ih : ∀ (j : Nat) (d : D) (v : Value), cs[j]? = some d → vs[j]? = some v → Rep S w (p.at j) v d) : Rep S w p (.agg vs.toArray) (.agg cs)
  | tup {p : Place} {ds : List D} (vs : List Value) (hl : vs.length = ds.length) (ih : ∀ (j : Nat) (d : D) (v : Value), ds[j]? = some d → vs[j]? = some v → Rep S w (p.at j) v d) : Rep S w p (.tuple vs.toArray) (.tup ds)
  | mp {p : Place} {b clock : Nat} {kd : KD} {es : List (Value × Value)} {ents : Array MapEntry} (hb : S.own b = some (p, 0)) (hh : w.heap[b]? = some (.map ents clock)) (he : ents.toList.map (fun e => (e.key, e.val)) = es) (hk : ∀ x ∈ es, fitK kd x.1 = true) : Rep S w p (.map (some b)) (.mp kd es)

/-- Nothing is owned that is not there. -/
def WF (S : Sig) (w : World) : Prop := ∀ b x, S.own b = some x → b < w.heap.size

/-- What may become of a block of which the cells below l stay. -/
def Keeps (l : Nat) (o o' : Option Obj) : Prop :=
  ∀ cur e fz, o = some (.cells cur e fz) → ∃ cur', o' = some (.cells cur' e fz) ∧ cur'.size = cur.size ∧ ∀ off, off < l → cur'[off]? = cur[off]?
/-- What the machine leaves: foreign blocks as they were, own ones below their limits. -/
structure Trans (S : Sig) (w : World) (S' : Sig) (w' : World) : Prop where
  os : w'.os = w.os
  tape : w'.tape = w.tape
  output : w'.output = w.output
  size : w.heap.size ≤ w'.heap.size
  free : ∀ b, b < w.heap.size → S.own b = none → w'.heap[b]? = w.heap[b]? ∧ S'.own b = none
  foreign : ∀ b p l, b < w.heap.size → S.own b = some (p, l) → p.r = 0 → w'.heap[b]? = w.heap[b]? ∧ S'.own b = some (p, l)
  held : ∀ b p l, b < w.heap.size → S.own b = some (p, l) → Keeps l w.heap[b]? w'.heap[b]? ∧ ∀ x, S'.own b = some x → l ≤ x.2
  loc2 : S'.loc 2 = S.loc 2
theorem Keeps.refl (l : Nat) (o : Option Obj) : Keeps l o o := fun cur _ _ h => ⟨cur, h, rfl, fun _ _ => rfl⟩
theorem Keeps.of_eq {l : Nat} {o o' : Option Obj} (h : o' = o) : Keeps l o o' := h ▸ Keeps.refl l o
theorem Keeps.trans {l l' : Nat} {a b c : Option Obj} (h : Keeps l a b) (k : Keeps l' b c) (hl : l ≤ l') : Keeps l a c := fun cur e fz ha => by
  obtain ⟨cur', h1, h2, h3⟩ := h cur e fz ha
  obtain ⟨cur'', k1, k2, k3⟩ := k cur' e fz h1
  exact ⟨cur'', k1, k2.trans h2, fun off ho => (k3 off (by omega)).trans (h3 off ho)⟩
theorem Trans.refl (S : Sig) (w : World) : Trans S w S w :=
  ⟨rfl, rfl, rfl, Nat.le_refl _, fun _ _ h => ⟨rfl, h⟩, fun _ _ _ _ h _ => ⟨rfl, h⟩, fun _ _ _ _ h => ⟨Keeps.refl _ _, fun x hx => by rw [h] at hx; cases hx; exact Nat.le_refl _⟩, rfl⟩
theorem Trans.trans {S1 S2 S3 : Sig} {a b c : World} (h : Trans S1 a S2 b) (k : Trans S2 b S3 c) : Trans S1 a S3 c := by
  refine ⟨k.os.trans h.os, k.tape.trans h.tape, k.output.trans h.output, Nat.le_trans h.size k.size, fun i hi hn => ?_, fun i p l hi hs hd => ?_, fun i p l hi hs => ?_, k.loc2.trans h.loc2⟩
  · obtain ⟨h1, h2⟩ := h.free i hi hn
    obtain ⟨k1, k2⟩ := k.free i (Nat.lt_of_lt_of_le hi h.size) h2
    exact ⟨k1.trans h1, k2⟩
  · obtain ⟨h1, h2⟩ := h.foreign i p l hi hs hd
    obtain ⟨k1, k2⟩ := k.foreign i p l (Nat.lt_of_lt_of_le hi h.size) h2 hd
    exact ⟨k1.trans h1, k2⟩
  · obtain ⟨h1, h2⟩ := h.held i p l hi hs
    have hi' := Nat.lt_of_lt_of_le hi h.size
    cases ho : S2.own i with
    | none =>
      obtain ⟨k1, k2⟩ := k.free i hi' ho
      exact ⟨by rw [k1]; exact h1, fun x hx => by rw [k2] at hx; cases hx⟩
    | some y =>
      obtain ⟨q, l'⟩ := y
      have hl := h2 _ ho
      obtain ⟨k1, k2⟩ := k.held i q l' hi' ho
      exact ⟨h1.trans k1 hl, fun x hx => Nat.le_trans hl (k2 x hx)⟩
theorem cell_lt {w : World} {b o : Nat} {v : Value} (h : w.cell? ⟨b, o, none⟩ = some v) : b < w.heap.size := block_lt_of_cell h
/-- A cell below its limit stays. -/
theorem Trans.cell {S S' : Sig} {w w' : World} (h : Trans S w S' w') {b o : Nat} {v : Value} (hc : w.cell? ⟨b, o, none⟩ = some v) (hk : OkC S.lim b o) : w'.cell? ⟨b, o, none⟩ = some v ∧ OkC S'.lim b o := by
  have hb := cell_lt hc
  cases ho : S.own b with
  | none =>
    obtain ⟨h1, h2⟩ := h.free b hb ho
    exact ⟨by rw [World.cell?_of_block (a := ⟨b, o, none⟩) (w := w) h1]; exact hc, fun s hs => by simp [Sig.lim, h2] at hs⟩
  | some x =>
    obtain ⟨p, l⟩ := x
    obtain ⟨h1, h2⟩ := h.held b p l hb ho
    have hol : o < l := hk l (by simp [Sig.lim, ho])
    refine ⟨?_, fun s hs => ?_⟩
    · unfold World.cell? at hc ⊢
      simp only at hc ⊢
      split at hc
      · rename_i cur e fz he
        obtain ⟨cur', k1, _, k3⟩ := h1 cur e fz he
        rw [k1]
        simp only at hc ⊢
        rw [k3 o hol]
        exact hc
      · cases hc
    · cases ho' : S'.own b with
      | none => simp [Sig.lim, ho'] at hs
      | some y =>
        have := h2 y ho'
        simp only [Sig.lim, ho', Option.map_some, Option.some.injEq] at hs
        omega
theorem Fz.trans {S S' : Sig} {w w' : World} {v : Value} {d : D} (hf : Fz S.lim w v d) (h : Trans S w S' w') : Fz S'.lim w' v d := by
  induction hf with
  | any v => exact .any v
  | int k n => exact .int k n
  | bool b => exact .bool b
  | str s => exact .str s
  | pv v => exact .pv v
  | nil => exact .nil
  | slNil m sz => exact .slNil m sz
  | slE A sz => exact .slE A sz
  | sl cv hc hm hr hh _ ih =>
    exact .sl cv hc hm hr (fun k r j d h1 h2 => by
      obtain ⟨g1, g2, g3⟩ := hh k r j d h1 h2
      obtain ⟨q1, q2⟩ := h.cell g1 g2
      exact ⟨q1, q2, g3⟩) ih
  | ptr cv hh _ ih =>
    exact .ptr cv (fun j d h1 => by
      obtain ⟨g1, g2, g3⟩ := hh j d h1
      obtain ⟨q1, q2⟩ := h.cell g1 g2
      exact ⟨q1, q2, g3⟩) ih
  | fn vs hl _ ih => exact .fn vs hl ih
  | gd _ h0 ih => exact .gd ih h0
  | agg vs hl h1 _ ih => exact .agg vs hl h1 ih
  | tup vs hl _ ih => exact .tup vs hl ih
/-- A smaller limit asks less. -/
theorem Fz.mono {lim lim' : Nat → Option Nat} {w : World} {v : Value} {d : D} (hf : Fz lim w v d) (h : ∀ b o v, w.cell? ⟨b, o, none⟩ = some v → OkC lim b o → OkC lim' b o) : Fz lim' w v d := by
  induction hf with
  | any v => exact .any v
  | int k n => exact .int k n
  | bool b => exact .bool b
  | str s => exact .str s
  | pv v => exact .pv v
  | nil => exact .nil
  | slNil m sz => exact .slNil m sz
  | slE A sz => exact .slE A sz
  | sl cv hc hm hr hh _ ih => exact .sl cv hc hm hr (fun k r j d h1 h2 => ⟨(hh k r j d h1 h2).1, h _ _ _ (hh k r j d h1 h2).1 (hh k r j d h1 h2).2.1, (hh k r j d h1 h2).2.2⟩) ih
  | ptr cv hh _ ih => exact .ptr cv (fun j d h1 => ⟨(hh j d h1).1, h _ _ _ (hh j d h1).1 (hh j d h1).2.1, (hh j d h1).2.2⟩) ih
  | fn vs hl _ ih => exact .fn vs hl ih
  | gd _ h0 ih => exact .gd ih h0
  | agg vs hl h1 _ ih => exact .agg vs hl h1 ih
  | tup vs hl _ ih => exact .tup vs hl ih
/-- p lies at or within q. -/
def Place.under (p q : Place) : Prop := p.r = q.r ∧ ∃ l, p.path = q.path ++ l
theorem Place.under_refl (p : Place) : p.under p := ⟨rfl, [], by simp⟩
theorem Place.at_under (p : Place) (i : Nat) : (p.at i).under p := ⟨rfl, [i], rfl⟩
theorem Place.under_trans {p q r : Place} (h : p.under q) (k : q.under r) : p.under r := by
  obtain ⟨h1, l, h2⟩ := h
  obtain ⟨k1, m, k2⟩ := k
  exact ⟨h1.trans k1, m ++ l, by rw [h2, k2, List.append_assoc]⟩
/-- It leads to the object of slot t. -/
inductive Men (t : Nat) : D → Prop
  | ref (off : Nat) : Men t (.ref t off)
  | gref (c : Bool) (off : Nat) : Men t (.gref c t off)
  | fn {f j : Nat} {cs : List D} {d : D} (h : cs[j]? = some d) (hm : Men t d) : Men t (.fn f cs)
  | agg {j : Nat} {cs : List D} {d : D} (h : cs[j]? = some d) (hm : Men t d) : Men t (.agg cs)
  | tup {j : Nat} {cs : List D} {d : D} (h : cs[j]? = some d) (hm : Men t d) : Men t (.tup cs)
  | obj {j : Nat} {cs : List D} {d : D} (h : cs[j]? = some d) (hm : Men t d) : Men t (.obj cs)
theorem lt_of_len {α β : Type} {l : List α} {l' : List β} {j : Nat} {d : β} (h : l.length = l'.length) (hd : l'[j]? = some d) : j < l.length := by
  rw [h]; exact (List.getElem?_eq_some_iff.1 hd).1
theorem Fz.men {lim : Nat → Option Nat} {w : World} {v : Value} {d : D} (h : Fz lim w v d) {t : Nat} : ¬ Men t d := by
  induction h with
  | fn vs hl _ ih =>
    intro hm
    cases hm with | fn hd hm => exact ih _ _ _ hd (List.getElem?_eq_getElem (lt_of_len hl hd)) hm
  | agg vs hl _ _ ih =>
    intro hm
    cases hm with | agg hd hm => exact ih _ _ _ hd (List.getElem?_eq_getElem (lt_of_len hl hd)) hm
  | tup vs hl _ ih =>
    intro hm
    cases hm with | tup hd hm => exact ih _ _ _ hd (List.getElem?_eq_getElem (lt_of_len hl hd)) hm
  | _ => intro hm; cases hm
/-- What is at a place stays, if its own blocks are left alone and the objects that it leads to stay where they are. -/
theorem Rep.trans {S S' : Sig} {w w' : World} {p : Place} {v : Value} {d : D} (hr : Rep S w p v d) (hw : WF S w) (h : Trans S w S' w') (h0 : S'.loc 0 = S.loc 0)
    (ho : ∀ b q l, S.own b = some (q, l) → q.under p → w'.heap[b]? = w.heap[b]? ∧ S'.own b = some (q, l))
    (hp : p.path = [] → S'.loc p.r = S.loc p.r)
    (hl : ∀ t, Men t d → S.own (S.loc (t + 2)) = some (.slot t, 0) → S'.loc (t + 2) = S.loc (t + 2) ∧ S'.own (S.loc (t + 2)) = some (.slot t, 0)) : Rep S' w' p v d := by
  induction hr with
  | fz hf => exact .fz (hf.trans h)
  | @own p b cap m sz rows cur e g =>
    obtain ⟨h1, h2⟩ := ho b p _ g.own (Place.under_refl p)
    exact .own ⟨g.mode, h1.trans g.heap, g.le, g.max, g.size, g.each, h2, fun k r j d k1 k2 => by
      obtain ⟨u, u1, u2, u3⟩ := g.cells k r j d k1 k2
      exact ⟨u, u1, u2, u3.trans h⟩⟩
  | @mp p b clock kd es ents hb hh he hk =>
    obtain ⟨k1, k2⟩ := ho b p _ hb (Place.under_refl p)
    exact .mp k2 (k1.trans hh) he hk
  | @obj t b path cs cur e hb hpath hloc hh hs h1 _ ih =>
    subst hpath
    obtain ⟨k1, k2⟩ := ho b _ _ hb (Place.under_refl _)
    exact .obj k2 rfl ((hp rfl).trans hloc) (k1.trans hh) hs h1 fun i d v hd hv => ih i d v hd hv (fun b' q l hq hu => ho b' q l hq (Place.under_trans hu ⟨rfl, [i], rfl⟩)) (fun e => by cases e) fun t' hm => hl t' (.obj hd hm)
  | @ref p t off g =>
    obtain ⟨q1, q2⟩ := hl t (.ref off) g
    rw [← q1]
    exact .ref (by rw [q1]; exact q2)
  | @gref p t off c v g hv =>
    obtain ⟨q1, q2⟩ := hl t (.gref c off) g
    exact .gref (by rw [q1]; exact q2) (by rw [q1]; exact hv)
  | @fn p f ds vs hln _ ih => exact .fn vs hln fun j d v hd hv => ih j d v hd hv (fun b q l hq hu => h.foreign b q l (hw _ _ hq) hq hu.1) (fun _ => h0) fun t hm => hl t (.fn hd hm)
  | agg vs hln h1 _ ih => exact .agg vs hln h1 fun j d v hd hv => ih j d v hd hv (fun b q l hq hu => ho b q l hq (Place.under_trans hu (Place.at_under _ j))) (fun e => by simp [Place.at] at e) fun t hm => hl t (.agg hd hm)
  | tup vs hln _ ih => exact .tup vs hln fun j d v hd hv => ih j d v hd hv (fun b q l hq hu => ho b q l hq (Place.under_trans hu (Place.at_under _ j))) (fun e => by simp [Place.at] at e) fun t hm => hl t (.tup hd hm)
end Go.Proofs.YthbhjladfniboaaDoor
namespace Go.Proofs.YthbhjladfniboaaDoor
set_option linter.unusedSimpArgs false
set_option linter.unusedVariables false
open Go.RowKit

theorem Fz.tup_inv {lim : Nat → Option Nat} {w : World} {v : Value} {ds : List D} (h : Fz lim w v (.tup ds)) : ∃ vs : List Value, v = .tuple vs.toArray ∧ vs.length = ds.length ∧ ∀ (j : Nat) (d : D) (u : Value), ds[j]? = some d → vs[j]? = some u → Fz lim w u d := by
  cases h with
  | tup vs hl ih => exact ⟨vs, rfl, hl, ih⟩
theorem Fz.agg_inv {lim : Nat → Option Nat} {w : World} {v : Value} {ds : List D} (h : Fz lim w v (.agg ds)) : ∃ vs : List Value, v = .agg vs.toArray ∧ vs.length = ds.length ∧ (∀ u : Value, u ∈ vs → u.oneCell' = true) ∧ ∀ (j : Nat) (d : D) (u : Value), ds[j]? = some d → vs[j]? = some u → Fz lim w u d := by
  cases h with
  | agg vs hl h1 ih => exact ⟨vs, rfl, hl, h1, ih⟩
theorem Rep.agg_inv {S : Sig} {w : World} {p : Place} {v : Value} {ds : List D} (h : Rep S w p v (.agg ds)) : ∃ vs : List Value, v = .agg vs.toArray ∧ vs.length = ds.length ∧ (∀ u : Value, u ∈ vs → u.oneCell' = true) ∧ ∀ (j : Nat) (d : D) (u : Value), ds[j]? = some d → vs[j]? = some u → Rep S w (p.at j) u d := by
  cases h with
  | fz hf =>
    obtain ⟨vs, h1, h2, h3, h4⟩ := hf.agg_inv
    exact ⟨vs, h1, h2, h3, fun j d u hd hu => .fz (h4 j d u hd hu)⟩
  | agg vs hl h1 ih => exact ⟨vs, rfl, hl, h1, ih⟩
theorem Rep.tup_inv {S : Sig} {w : World} {p : Place} {v : Value} {ds : List D} (h : Rep S w p v (.tup ds)) : ∃ vs : List Value, v = .tuple vs.toArray ∧ vs.length = ds.length ∧ ∀ (j : Nat) (d : D) (u : Value), ds[j]? = some d → vs[j]? = some u → Rep S w (p.at j) u d := by
  cases h with
  | fz hf =>
    obtain ⟨vs, h1, h2, h4⟩ := hf.tup_inv
    exact ⟨vs, h1, h2, fun j d u hd hu => .fz (h4 j d u hd hu)⟩
  | tup vs hl ih => exact ⟨vs, rfl, hl, ih⟩
theorem Rep.int_inv {S : Sig} {w : World} {p : Place} {v : Value} {k : IntKind} {n : Int} (h : Rep S w p v (.int k n)) : v = .int k n := by
  cases h with | fz h => cases h; rfl
theorem Rep.bool_inv {S : Sig} {w : World} {p : Place} {v : Value} {b : Bool} (h : Rep S w p v (.bool b)) : v = .bool b := by
  cases h with | fz h => cases h; rfl
theorem Rep.str_inv {S : Sig} {w : World} {p : Place} {v : Value} {s : List UInt8} (h : Rep S w p v (.str s)) : v = .string ⟨s.toArray⟩ := by
  cases h with | fz h => cases h; rfl
theorem Rep.pv_inv {S : Sig} {w : World} {p : Place} {v u : Value} (h : Rep S w p v (.pv u)) : v = u := by
  cases h with | fz h => cases h; rfl
theorem Rep.nil_inv {S : Sig} {w : World} {p : Place} {v : Value} (h : Rep S w p v .nil) : v = .slice none 0 0 := by
  cases h with | fz h => cases h; rfl
theorem Rep.gd_inv {S : Sig} {w : World} {p : Place} {v : Value} {c : Bool} {d : D} (h : Rep S w p v (.gd c d)) : (c = true → Fz S.lim w v d) ∧ (c = false → v = undef) := by
  cases h with | fz h => cases h with | gd h1 h0 => exact ⟨h1, h0⟩

/-- The cells of a slice that is read: nil, frozen, or one's own whose elements stay. -/
theorem OwnAt.fz {S : Sig} {w : World} {p : Place} {b cap sz : Nat} {rows : List (List D)} {cur : Array Value} {e : TypeId} (h : OwnAt S w p b cap 1 sz rows cur e) : Fz S.lim w (.slice (some ⟨b, 0, none⟩) rows.length cap) (.sl 0 sz rows) := by
  have hex : ∀ k j, ∃ v : Value, ∀ r d, rows[k]? = some r → r[j]? = some d → cur[k * sz + j]? = some v ∧ v.oneCell' = true ∧ Fz S.lim w v d := fun k j => by
    cases hr : rows[k]? with
    | none => exact ⟨undef, fun r d h1 => by cases h1⟩
    | some r =>
      cases hd : r[j]? with
      | none => exact ⟨undef, fun r' d h1 h2 => by cases h1; rw [hd] at h2; cases h2⟩
      | some d =>
        obtain ⟨v, hv⟩ := h.cells k r j d hr hd
        exact ⟨v, fun r' d' h1 h2 => by cases h1; rw [hd] at h2; cases h2; exact hv⟩
  let cv : Nat → Nat → Value := fun k j => Classical.choose (hex k j)
  have hcv : ∀ k j r d, rows[k]? = some r → r[j]? = some d → cur[k * sz + j]? = some (cv k j) ∧ (cv k j).oneCell' = true ∧ Fz S.lim w (cv k j) d := fun k j => Classical.choose_spec (hex k j)
  refine .sl cv h.le h.max (fun k r hr => h.each r (List.mem_of_getElem? hr)) (fun k r j d hr hd => ?_) (fun k r j d hr hd => (hcv k j r d hr hd).2.2)
  obtain ⟨h1, h2, _⟩ := hcv k j r d hr hd
  refine ⟨by rw [cell_of_row w b _ cur e (0, 0) h.heap, Nat.zero_add]; exact h1, fun s hs => ?_, h2⟩
  have ho := h.own
  simp only [show ¬ ((1 : Nat) = 2) by decide, if_false] at ho
  simp only [Sig.lim, ho, Option.map_some, Option.some.injEq] at hs
  have hk : k < rows.length := (List.getElem?_eq_some_iff.1 hr).1
  have hj : j < sz := by rw [← h.each r (List.mem_of_getElem? hr)]; exact (List.getElem?_eq_some_iff.1 hd).1
  have : (k + 1) * sz ≤ rows.length * sz := Nat.mul_le_mul_right _ hk
  rw [Nat.add_mul] at this
  omega

/-- What may be forgotten. -/
inductive DLe : D → D → Prop
  | refl (d : D) : DLe d d
  | any (d : D) : DLe d .any
  | nil (m sz : Nat) : DLe .nil (.sl m sz [])
  | own (sz : Nat) (rows : List (List D)) : DLe (.sl 1 sz rows) (.sl 0 sz rows)
  | gd {c : Bool} {d d' : D} (hc : c = true) (h : DLe d d') : DLe (.gd c d) d'
  | agg {ds ds' : List D} (hl : ds'.length = ds.length) (h : ∀ (j : Nat) (d d' : D), ds[j]? = some d → ds'[j]? = some d' → DLe d d') : DLe (.agg ds) (.agg ds')
  | tup {ds ds' : List D} (hl : ds'.length = ds.length) (h : ∀ (j : Nat) (d d' : D), ds[j]? = some d → ds'[j]? = some d' → DLe d d') : DLe (.tup ds) (.tup ds')
theorem Rep.le {S : Sig} {w : World} {d d' : D} (hd : DLe d d') : ∀ {p : Place} {v : Value}, Rep S w p v d → Rep S w p v d' := by
  induction hd with
  | refl d => exact fun h => h
  | any d => exact fun _ => .fz (.any _)
  | nil m sz => intro p v h; rw [h.nil_inv]; exact .fz (.slNil m sz)
  | own sz rows =>
    intro p v h
    cases h with
    | fz h =>
      cases h with
      | slNil => exact .fz (.slNil 0 sz)
    | own g => exact .fz g.fz
  | gd hc _ ih => intro p v h; exact ih (.fz (h.gd_inv.1 hc))
  | @agg ds ds' hl _ ih =>
    intro p v h
    obtain ⟨vs, rfl, h2, h3, h4⟩ := h.agg_inv
    refine .agg vs (h2.trans hl.symm) h3 fun j d' u hd' hu => ?_
    have hj : j < ds.length := by rw [← hl]; exact (List.getElem?_eq_some_iff.1 hd').1
    exact ih j ds[j] d' (List.getElem?_eq_getElem hj) hd' (h4 j _ u (List.getElem?_eq_getElem hj) hu)
  | @tup ds ds' hl _ ih =>
    intro p v h
    obtain ⟨vs, rfl, h2, h4⟩ := h.tup_inv
    refine .tup vs (h2.trans hl.symm) fun j d' u hd' hu => ?_
    have hj : j < ds.length := by rw [← hl]; exact (List.getElem?_eq_some_iff.1 hd').1
    exact ih j ds[j] d' (List.getElem?_eq_getElem hj) hd' (h4 j _ u (List.getElem?_eq_getElem hj) hu)

/-- Data of one cell that owns nothing. -/
def D.one : D → Bool
  | .int _ _ | .bool _ | .str _ | .nil | .sl 0 _ _ | .ptr _ => true
  | .pv v => v.oneCell'
  | _ => false
/-- Its cells, if it owns nothing. -/
def D.cellsOf : D → Option (List D)
  | .agg cs => if cs.all D.one then some cs else none
  | .fn f cs => if cs.all D.one then some [.fn f cs] else none
  | d => if d.one then some [d] else none
def D.plain : D → Bool
  | .agg cs => cs.all D.one
  | .tup ds => ds.all fun d => match d with
    | .agg cs => cs.all D.one
    | d => d.one
  | .any | .gd _ _ | .ref _ _ | .gref _ _ _ => true
  | .fn _ caps => caps.all fun d => match d with
    | .ref _ _ => true
    | d => d.one
  | d => d.one
/-- Does a slot own something? -/
def D.owns : D → Bool
  | .sl (_ + 1) _ _ => true
  | .mp _ _ => true
  | .obj _ => true
  | .agg cs => !(D.agg cs).plain
  | .tup ds => !(D.tup ds).plain
  | _ => false
/-- What leads to an object leads to one that is there. -/
def RefOk (fr : List D) (d : D) : Prop := ∀ t, Men t d → ∃ cs, fr[t]? = some (.obj cs)
/-- What a slot is. -/
def SlotRep (S : Sig) (w : World) (a : Act) (fr : List D) (i : Nat) (v : Value) : D → Prop
  | .al u => a.tmps[u]? = some v ∧ ∃ d', fr[u]? = some d' ∧ d'.owns = true ∧ u ≠ i
  | d => Rep S w (.slot i) v d ∧ RefOk fr d
structure FR (S : Sig) (w : World) (a : Act) (fr : List D) : Prop where
  wf : WF S w
  size : a.tmps.size = fr.length
  defers : a.defers = []
  slot : ∀ (i : Nat) (d : D) (v : Value), fr[i]? = some d → a.tmps[i]? = some v → SlotRep S w a fr i v d
theorem SlotRep.of {S : Sig} {w : World} {a : Act} {fr : List D} {i : Nat} {v : Value} {d : D} (h : Rep S w (.slot i) v d) (hf : RefOk fr d) : SlotRep S w a fr i v d := by
  cases d with
  | al u => cases h with | fz h => cases h
  | _ => exact ⟨h, hf⟩
theorem SlotRep.rep {S : Sig} {w : World} {a : Act} {fr : List D} {i : Nat} {v : Value} {d : D} (h : SlotRep S w a fr i v d) (hn : ∀ u, d ≠ .al u) : Rep S w (.slot i) v d ∧ RefOk fr d := by
  cases d with
  | al u => exact absurd rfl (hn u)
  | _ => exact h
theorem FR.at {S : Sig} {w : World} {a : Act} {fr : List D} (h : FR S w a fr) {i : Nat} {d : D} (hd : fr[i]? = some d) : ∃ v, a.tmps[i]? = some v ∧ SlotRep S w a fr i v d := by
  have hi : i < a.tmps.size := by rw [h.size]; exact (List.getElem?_eq_some_iff.1 hd).1
  exact ⟨a.tmps[i], by simp [hi], h.slot i d _ hd (by simp [hi])⟩
/-- A constant. -/
def ofVal : Value → D
  | .int k n => .int k n
  | .bool b => .bool b
  | .string s => .str s.data.toList
  | .slice none 0 0 => .nil
  | .agg cs => .agg (cs.toList.map fun v => match v with
    | .int k n => .int k n
    | .bool b => .bool b
    | .string s => .str s.data.toList
    | .slice none 0 0 => .nil
    | v => .pv v)
  | v => .pv v
def evalD (fr : List D) : Operand → D
  | .tmp t => match fr[t]? with
    | some (.al u) => (fr[u]?).getD .any
    | some d => d
    | none => .any
  | .const (.agg _) => .any
  | .const v => ofVal v
  | .global _ => .any
  | .func f => .fn f []
theorem ofVal_rep {lim : Nat → Option Nat} {w : World} (v : Value) (hv : ∀ cs, v ≠ .agg cs) : Fz lim w v (ofVal v) := by
  cases v with
  | int k n => exact .int k n
  | bool b => exact .bool b
  | string s => exact .str s.data.toList
  | slice a l c =>
    cases a with
    | some x => exact .pv _
    | none => cases l with
      | succ n => exact .pv _
      | zero => cases c with
        | zero => exact .nil
        | succ n => exact .pv _
  | agg cs => exact absurd rfl (hv cs)
  | _ => exact .pv _
/-- What an operand is. -/
theorem FR.eval {S : Sig} {w : World} {a : Act} {fr : List D} (h : FR S w a fr) (x : Operand) : ∃ q, Rep S w q (a.eval x) (evalD fr x) := by
  cases x with
  | tmp t =>
    unfold evalD Act.eval
    simp only
    cases hd : fr[t]? with
    | none => exact ⟨.dead, .fz (.any _)⟩
    | some d =>
      obtain ⟨v, hv, hr⟩ := h.at hd
      have he : a.tmps.getD t undef = v := by simp [Array.getD_eq_getD_getElem?, hv]
      rw [he]
      cases d with
      | al u =>
        obtain ⟨h1, d', h2, h3, _⟩ := hr
        simp only [h2, Option.getD_some]
        exact ⟨.slot u, ((h.slot u d' v h2 h1).rep (fun u' hu => by subst hu; simp [D.owns] at h3)).1⟩
      | _ => exact ⟨.slot t, hr.1⟩
  | const v =>
    unfold evalD Act.eval
    cases v with
    | agg cs => exact ⟨.dead, .fz (.any _)⟩
    | _ => exact ⟨.dead, .fz (ofVal_rep _ (by intro cs hc; cases hc))⟩
  | global g => exact ⟨.dead, .fz (.any _)⟩
  | func f => exact ⟨.dead, .fz (.fn [] rfl (fun j d v hd => by simp at hd))⟩

/-- A step that only adds. -/
structure PT (S : Sig) (w : World) (S' : Sig) (w' : World) : Prop where
  ext : Ext w w'
  own : ∀ b, b < w.heap.size → S'.own b = S.own b
  loc : S'.loc = S.loc
  wf : WF S' w'
theorem Ext.block {w w' : World} (h : Ext w w') {b : Nat} (hb : b < w.heap.size) : w'.heap[b]? = w.heap[b]? := Below.block h b hb
theorem PT.trans {S S' : Sig} {w w' : World} (h : PT S w S' w') : Trans S w S' w' := by
  refine ⟨h.ext.os, h.ext.tape, h.ext.output, h.ext.sizeOf, fun b hb hn => ⟨h.ext.block hb, by rw [h.own b hb, hn]⟩, fun b p l hb hs _ => ⟨h.ext.block hb, by rw [h.own b hb, hs]⟩, fun b p l hb hs => ⟨Keeps.of_eq (h.ext.block hb), fun x hx => ?_⟩, by rw [h.loc]⟩
  rw [h.own b hb, hs] at hx
  cases hx
  exact Nat.le_refl _
theorem PT.rep {S S' : Sig} {w w' : World} (h : PT S w S' w') (hw : WF S w) {p : Place} {v : Value} {d : D} (hr : Rep S w p v d) : Rep S' w' p v d := by
  refine hr.trans hw h.trans (by rw [h.loc]) (fun b q l hs _ => ⟨h.ext.block (hw _ _ hs), by rw [h.own b (hw _ _ hs), hs]⟩) (fun _ => by rw [h.loc]) fun t _ ht => ?_
  rw [h.loc]
  exact ⟨rfl, by rw [h.own _ (hw _ _ ht), ht]⟩
theorem PT.refl {S : Sig} {w : World} (hw : WF S w) : PT S w S w := ⟨Ext.refl w, fun _ _ => rfl, rfl, hw⟩
theorem PT.comp {S1 S2 S3 : Sig} {a b c : World} (h : PT S1 a S2 b) (k : PT S2 b S3 c) : PT S1 a S3 c :=
  ⟨h.ext.trans k.ext, fun i hi => (k.own i (Nat.lt_of_lt_of_le hi h.ext.sizeOf)).trans (h.own i hi), k.loc.trans h.loc, k.wf⟩
/-- Only memory was added, and nothing is owned anew. -/
theorem PT.ext' {S : Sig} {w w' : World} (hw : WF S w) (h : Ext w w') : PT S w S w' := ⟨h, fun _ _ => rfl, rfl, fun b x hx => Nat.lt_of_lt_of_le (hw b x hx) h.sizeOf⟩
theorem put_tmps_eq {a : Act} {t : Nat} {v : Value} (ht : t < a.tmps.size) : (a.put (some t) v).tmps[t]? = some v := by simp [Act.put, Array.getElem?_setIfInBounds, ht]
theorem put_tmps_ne {a : Act} {t i : Nat} {v : Value} (h : i ≠ t) : (a.put (some t) v).tmps[i]? = a.tmps[i]? := by simp [Act.put, Array.getElem?_setIfInBounds_ne (Ne.symm h)]
/-- A slot that owned nothing takes what a step that only adds has made. -/
theorem FR.put {S S' : Sig} {w w' : World} {a : Act} {fr : List D} (h : FR S w a fr) (hp : PT S w S' w') {t : Nat} {v : Value} {d d0 : D} (h0 : fr[t]? = some d0) (hn : d0.owns = false) (hr : Rep S' w' (.slot t) v d) (hf : RefOk fr d) : FR S' w' (a.put (some t) v) (fr.set t d) := by
  have hlt : t < fr.length := (List.getElem?_eq_some_iff.1 h0).1
  have hrk : ∀ e, RefOk fr e → RefOk (fr.set t d) e := fun e he x hx => by
    obtain ⟨cs, hc⟩ := he x hx
    have hxt : t ≠ x := fun e => by subst e; rw [h0] at hc; cases hc; cases hn
    exact ⟨cs, by rw [List.getElem?_set_ne hxt]; exact hc⟩
  refine ⟨hp.wf, by simp [Act.put, h.size], by simp [Act.put, h.defers], fun i e u hi hu => ?_⟩
  by_cases hit : i = t
  · subst hit
    rw [List.getElem?_set_self hlt] at hi
    rw [put_tmps_eq (by rw [h.size]; exact hlt)] at hu
    cases hi; cases hu
    exact SlotRep.of hr (hrk _ hf)
  · rw [List.getElem?_set_ne (Ne.symm hit)] at hi
    rw [put_tmps_ne hit] at hu
    have := h.slot i e u hi hu
    cases e with
    | al x =>
      obtain ⟨h1, d', h2, h3, h4⟩ := this
      have hxt : x ≠ t := fun e => by subst e; rw [h0] at h2; cases h2; rw [hn] at h3; cases h3
      exact ⟨by rw [put_tmps_ne hxt]; exact h1, d', by rw [List.getElem?_set_ne (Ne.symm hxt)]; exact h2, h3, h4⟩
    | _ => exact ⟨hp.rep h.wf this.1, hrk _ this.2⟩
/-- A value that goes nowhere. -/
theorem FR.drop {S S' : Sig} {w w' : World} {a : Act} {fr : List D} (h : FR S w a fr) (hp : PT S w S' w') : FR S' w' a fr :=
  ⟨hp.wf, h.size, h.defers, fun i e u hi hu => by
    have := h.slot i e u hi hu
    cases e with
    | al x => exact this
    | _ => exact ⟨hp.rep h.wf this.1, this.2⟩⟩
end Go.Proofs.YthbhjladfniboaaDoor
namespace Go.Proofs.YthbhjladfniboaaDoor
set_option linter.unusedSimpArgs false
set_option linter.unusedVariables false
open Go.RowKit

/-- A type of keys. -/
def KFact (P : Program) (k : TypeId) : KD → Prop
  | .int q => P.underlying k = some (.int q)
  | .str => P.underlying k = some .string
  | .bool => P.underlying k = some .bool
  | .st ks => TEq P k ks
class TMap (P : Program) (t : TypeId) (k e : outParam TypeId) (kd : outParam KD) : Prop where
  h : P.underlying t = some (.map k e)
  key : KFact P k kd
/-- The zero of a type of one cell. -/
class TZ1 (P : Program) (t : TypeId) (z : outParam Value) : Prop where
  h : (P.info? t).map (·.zero) = some (some z)
theorem fitS_at : ∀ {ks : List Nat} {xs : List Value}, fitS ks xs = true → ks.length = xs.length ∧ ∀ (j k : Nat), ks[j]? = some k → ∃ x, xs[j]? = some x ∧ ((k = 1 ∧ ∃ s, x = .string s) ∨ (k = 2 ∧ ∃ b, x = .bool b))
  | [], [], _ => ⟨rfl, fun j k h => by simp at h⟩
  | 1 :: ks, .string s :: xs, h => by
    obtain ⟨h1, h2⟩ := fitS_at (ks := ks) (xs := xs) h
    refine ⟨by simp [h1], fun j k hj => ?_⟩
    cases j with
    | zero => cases hj; exact ⟨_, rfl, .inl ⟨rfl, s, rfl⟩⟩
    | succ j => exact h2 j k (by simpa using hj)
  | 2 :: ks, .bool b :: xs, h => by
    obtain ⟨h1, h2⟩ := fitS_at (ks := ks) (xs := xs) h
    refine ⟨by simp [h1], fun j k hj => ?_⟩
    cases j with
    | zero => cases hj; exact ⟨_, rfl, .inr ⟨rfl, b, rfl⟩⟩
    | succ j => exact h2 j k (by simpa using hj)
theorem fitS_two : ∀ {ks : List Nat} {xs ys : List Value}, fitS ks xs = true → fitS ks ys = true → fitsV ks xs ys = true ∧ (veqs xs ys = true → xs = ys)
  | [], [], [], _, _ => ⟨rfl, fun _ => rfl⟩
  | 1 :: ks, .string s :: xs, .string u :: ys, h, k => by
    obtain ⟨h1, h2⟩ := fitS_two (ks := ks) (xs := xs) (ys := ys) h k
    refine ⟨by simpa [fitsV] using h1, fun he => ?_⟩
    simp only [veqs, veq, Bool.and_eq_true, beq_iff_eq] at he
    rw [h2 he.2]
    congr 2
    obtain ⟨⟨s⟩⟩ := s
    obtain ⟨⟨u⟩⟩ := u
    simpa using he.1
  | 2 :: ks, .bool s :: xs, .bool u :: ys, h, k => by
    obtain ⟨h1, h2⟩ := fitS_two (ks := ks) (xs := xs) (ys := ys) h k
    refine ⟨by simpa [fitsV] using h1, fun he => ?_⟩
    simp only [veqs, veq, Bool.and_eq_true, beq_iff_eq] at he
    rw [h2 he.2, he.1]
theorem fitS_veqs : ∀ {ks : List Nat} {xs : List Value}, fitS ks xs = true → veqs xs xs = true
  | [], [], _ => rfl
  | 1 :: ks, .string s :: xs, h => by simpa [veqs, veq] using fitS_veqs (ks := ks) (xs := xs) h
  | 2 :: ks, .bool s :: xs, h => by simpa [veqs, veq] using fitS_veqs (ks := ks) (xs := xs) h
theorem bytes_veq (a b : ByteArray) : (a == b) = (a.data.toList == b.data.toList) := by
  rw [Bool.eq_iff_iff, MapKept.bytes_beq]
  obtain ⟨⟨a⟩⟩ := a
  obtain ⟨⟨b⟩⟩ := b
  simp
/-- Equal keys are the same key. -/
theorem keyEq_eq {kd : KD} {a b : Value} (ha : fitK kd a = true) (hb : fitK kd b = true) (h : keyEq a b = true) : a = b := by
  cases kd with
  | int q =>
    cases a <;> try (cases ha; done)
    cases b <;> try (cases hb; done)
    rw [← sameK_eq ha, ← sameK_eq hb]
    simp only [keyEq, veq, beq_iff_eq] at h
    rw [h]
  | str =>
    cases a <;> try (cases ha; done)
    cases b <;> try (cases hb; done)
    simp only [keyEq, veq] at h
    rw [← bytes_veq] at h
    rw [(MapKept.bytes_beq _ _).1 h]
  | bool =>
    cases a <;> try (cases ha; done)
    cases b <;> try (cases hb; done)
    simp only [keyEq, veq, beq_iff_eq] at h
    rw [h]
  | st ks =>
    cases a <;> try (cases ha; done)
    cases b <;> try (cases hb; done)
    have := (fitS_two ha hb).2 h
    congr 1
    exact Array.ext' this
theorem keyEq_self {kd : KD} {a : Value} (ha : fitK kd a = true) : keyEq a a = true := by
  cases kd <;> cases a <;> first | (cases ha; done) | (simp [keyEq, veq]; done) | exact fitS_veqs ha
def pr (e : MapEntry) : Value × Value := (e.key, e.val)
/-- The number of the entry at a key. -/
def findIx (k : Value) : List MapEntry → Nat → Option (Nat × Value)
  | [], _ => none
  | e :: es, i => match keyEq k e.key with
    | true => some (i, e.val)
    | false => findIx k es (i + 1)
theorem findIx_spec (k : Value) : ∀ (l : List MapEntry) (i : Nat), (findIx k l i = none ∧ findV k (l.map pr) = none ∧ (∀ v, putV k v (l.map pr) = l.map pr ++ [(k, v)]) ∧ delV k (l.map pr) = l.map pr) ∨
    ∃ j e, findIx k l i = some (i + j, e.val) ∧ l[j]? = some e ∧ keyEq k e.key = true ∧ findV k (l.map pr) = some e.val ∧ (∀ v, putV k v (l.map pr) = (l.map pr).set j (k, v)) ∧ delV k (l.map pr) = (l.map pr).eraseIdx j
  | [], i => .inl ⟨rfl, rfl, fun _ => rfl, rfl⟩
  | e :: l, i => by
    cases h : keyEq k e.key with
    | true => exact .inr ⟨0, e, by simp [findIx, h], rfl, h, by simp [findV, pr, h], fun v => by simp [putV, pr, h], by simp [delV, pr, h]⟩
    | false =>
      rcases findIx_spec k l (i + 1) with ⟨h1, h2, h3, h4⟩ | ⟨j, e', h1, h2, h3, h4, h5, h6⟩
      · exact .inl ⟨by simp [findIx, h, h1], by simp [findV, pr, h] at h2 ⊢; exact h2, fun v => by have := h3 v; simp [putV, pr, h] at this ⊢; exact this, by simp [delV, pr, h] at h4 ⊢; exact h4⟩
      · exact .inr ⟨j + 1, e', by simp [findIx, h, h1]; omega, by simpa using h2, h3, by simp [findV, pr, h] at h4 ⊢; exact h4, fun v => by have := h5 v; simp [putV, pr, h] at this ⊢; exact this, by simp [delV, pr, h] at h6 ⊢; exact h6⟩
section
variable {P : Program} {w : World} {k : TypeId}
theorem plain_key {kd : KD} {v : Value} (hK : KFact P k kd) (hv : fitK kd v = true) (hn : ∀ ks, kd ≠ .st ks) : ∃ d, P.underlying k = some d ∧ ∀ u, fitK kd u = true → MapKept.IsKey d u := by
  cases kd with
  | int q => exact ⟨_, hK, fun u hu => by cases u <;> first | (cases hu; done) | exact (sameK_eq hu).symm⟩
  | str => exact ⟨_, hK, fun u hu => by cases u <;> first | (cases hu; done) | trivial⟩
  | bool => exact ⟨_, hK, fun u hu => by cases u <;> first | (cases hu; done) | trivial⟩
  | st ks => exact absurd rfl (hn ks)
theorem eq_field {ks : List Nat} {kt : TypeId} (e : TEq P kt ks) {j : Nat} {f : Field} (hj : (P.fieldsOf kt).toList[j]? = some f) : f.name ≠ "_" ∧ f.offset = j ∧ ∃ c, ks[j]? = some c ∧ kindCode (P.underlying f.type) = c := by
  have h := congrArg (fun l => l[j]?) e.h
  simp only [List.getElem?_map, hj, List.getElem?_zipIdx, Option.map_some] at h
  cases hk : ks[j]? with
  | none => rw [hk] at h; cases h
  | some c =>
    rw [hk] at h
    simp only [Option.map_some, Option.some.injEq, Prod.mk.injEq, Nat.zero_add] at h
    exact ⟨by simpa using h.1, h.2.1, c, rfl, h.2.2⟩
theorem check_str {e : TypeId} {s : ByteArray} (h : kindCode (P.underlying e) = 1) (em : Bool) (n : Nat) : (Instr.checkKey em (n + 1) e (.string s)).run P w = .ok () w := by
  cases hu : P.underlying e with
  | none => rw [hu] at h; cases h
  | some t => rw [hu] at h; cases t <;> first | (simp [kindCode] at h; done) | simp [Instr.checkKey, run_underlying hu]
theorem check_bool {e : TypeId} {s : Bool} (h : kindCode (P.underlying e) = 2) (em : Bool) (n : Nat) : (Instr.checkKey em (n + 1) e (.bool s)).run P w = .ok () w := by
  cases hu : P.underlying e with
  | none => rw [hu] at h; cases h
  | some t => rw [hu] at h; cases t <;> first | (simp [kindCode] at h; done) | simp [Instr.checkKey, run_underlying hu]
theorem check_run {kd : KD} {v : Value} (hK : KFact P k kd) (hv : fitK kd v = true) (em : Bool) : (Instr.checkKey em 10000 k v).run P w = .ok () w := by
  cases kd with
  | st ks =>
    have e : TEq P k ks := hK
    cases v <;> try (cases hv; done)
    rename_i cs
    obtain ⟨hl, hat⟩ := fitS_at (show fitS ks cs.toList = true from hv)
    have each : ∀ f ∈ (P.fieldsOf k).toList, f.name ≠ "_" ∧ ∃ a, (part f.type cs f.offset).run P w = .ok a w ∧ (Instr.checkKey em 9999 f.type a).run P w = .ok () w := fun f hf => by
      obtain ⟨j, hj, rfl⟩ := List.mem_iff_getElem.1 hf
      obtain ⟨h1, h2, c, h3, h4⟩ := eq_field e (List.getElem?_eq_getElem hj)
      obtain ⟨x, hx, hc⟩ := hat j c h3
      refine ⟨h1, x, ?_, ?_⟩
      · have hp : ∀ t, P.underlying ((P.fieldsOf k).toList[j]).type = some t → aggDesc t = false → (part ((P.fieldsOf k).toList[j]).type cs ((P.fieldsOf k).toList[j]).offset).run P w = .ok x w := fun t ht ha => by
          have hx' : cs[j]? = some x := by simpa using hx
          unfold part
          rw [Sem.run_bind, run_isAgg_of ht, ha, h2]
          simp [hx']
        cases hu : P.underlying ((P.fieldsOf k).toList[j]).type with
        | none => rw [hu] at h4; simp only [kindCode] at h4; subst h4; rcases hc with ⟨h, _⟩ | ⟨h, _⟩ <;> cases h
        | some t =>
          refine hp t hu ?_
          rw [hu] at h4
          cases t <;> first | rfl | (simp only [kindCode] at h4; subst h4; rcases hc with ⟨h, _⟩ | ⟨h, _⟩ <;> cases h)
      · rcases hc with ⟨rfl, s, rfl⟩ | ⟨rfl, s, rfl⟩
        · exact check_str h4 em 9998
        · exact check_bool h4 em 9998
    rw [show (10000 : Nat) = 9999 + 1 from rfl, Instr.checkKey]
    simp only [Sem.run_bind, run_underlying e.s, Result.andThen_ok]
    rw [← Array.forIn_toList]
    generalize (P.fieldsOf k).toList = L at each
    clear hv hat hl e
    induction L with
    | nil => simp
    | cons f L ih =>
      obtain ⟨hn, a, p1, p2⟩ := each f (by simp)
      simp only [List.forIn_cons, Sem.run_bind, hn, ne_eq, not_false_eq_true, if_true, Result.andThen_ok, p1, p2, Sem.run_pure]
      exact ih (fun y hy => each y (by simp [hy]))
  | _ =>
    obtain ⟨d, hd, hi⟩ := plain_key hK hv (by intro ks h; cases h)
    exact MapKept.run_checkKey hd (hi v hv) em 9999
theorem find_run {kd : KD} {v : Value} (hK : KFact P k kd) (hv : fitK kd v = true) {es : List MapEntry} (hes : ∀ x ∈ es.map pr, fitK kd x.1 = true) : (Instr.findKey k v es).run P w = .ok (findIx v es 0) w := by
  have hes' : ∀ e ∈ es, fitK kd e.key = true := fun e he => hes (pr e) (List.mem_map.2 ⟨e, he, rfl⟩)
  clear hes
  cases kd with
  | st ks =>
    have e : TEq P k ks := hK
    rw [run_findKey_eq w (by rw [e.s])]
    cases v <;> try (cases hv; done)
    rename_i cs
    generalize 0 = i
    induction es generalizing i with
    | nil => simp [Instr.findAsking, findIx]
    | cons x es ih =>
      have hx := hes' x (by simp)
      cases hkx : x.key <;> rw [hkx] at hx <;> try (cases hx; done)
      rename_i ds
      have h1 : (Op.equal k (.agg cs) (.agg ds)).run P w = .ok (veqs cs.toList ds.toList) w := by
        have := struct_eq (P := P) (e := e) k w 9998 cs.toList ds.toList (fitS_two hv hx).1
        exact this
      have h2 : keyEq (.agg cs) x.key = veqs cs.toList ds.toList := by rw [hkx]; rfl
      simp only [Instr.findAsking, findIx, hkx, Sem.run_bind, h1, Result.andThen_ok]
      rw [hkx] at h2
      rw [h2]
      cases veqs cs.toList ds.toList
      · simp only [Bool.false_eq_true, if_false]
        exact ih (fun e he => hes' e (by simp [he])) _
      · simp
  | _ =>
    obtain ⟨d, hd, hi⟩ := plain_key hK hv (by intro ks h; cases h)
    refine MapKept.run_findKey hd ?_
    have key : ∀ u, fitK _ u = true → Instr.sameNow d v u = some (keyEq v u) := fun u hu => by
      obtain ⟨r, h1, h2⟩ := MapKept.sameNow_of_keys (hi v hv) (hi u hu)
      rw [h1]
      congr 1
      rw [Bool.eq_iff_iff, h2]
      exact ⟨fun e => by subst e; exact keyEq_self hv, fun h => keyEq_eq hv hu h⟩
    generalize 0 = i
    induction es generalizing i with
    | nil => rfl
    | cons x es ih =>
      simp only [Instr.findNow, findIx, key x.key (hes' x (by simp))]
      cases keyEq v x.key
      · simp only
        exact ih (fun e he => hes' e (by simp [he])) _
      · rfl
theorem stays_run {kd : KD} {v : Value} (hv : fitK kd v = true) : (Instr.keyThatStays v v).run P w = .ok v w := by
  have h : Instr.sameBits 10000 v v = true := by
    cases kd with
    | st ks =>
      cases v <;> try (cases hv; done)
      rename_i cs
      obtain ⟨hl, hat⟩ := fitS_at (show fitS ks cs.toList = true from hv)
      show Instr.sameBits (9999 + 1) (.agg cs) (.agg cs) = true
      simp only [Instr.sameBits, beq_self_eq_true, Bool.true_and, List.all_eq_true]
      intro p hp
      obtain ⟨i, hi, e⟩ := List.getElem_of_mem hp
      rw [List.getElem_zip] at e
      rw [← e]
      simp only
      have hi' : i < cs.toList.length := by simp at hi; simpa using hi
      obtain ⟨x, hx, hc⟩ := hat i ks[i] (List.getElem?_eq_getElem (by omega))
      rw [List.getElem?_eq_getElem hi'] at hx
      rw [Option.some.inj hx]
      rcases hc with ⟨_, s, rfl⟩ | ⟨_, s, rfl⟩
      · simp only [Instr.sameBits]
        exact (MapKept.bytes_beq _ _).2 rfl
      · simp [Instr.sameBits]
    | int q => cases v <;> first | (cases hv; done) | simp [Instr.sameBits]
    | str => cases v <;> first | (cases hv; done) | (simp only [Instr.sameBits]; exact (MapKept.bytes_beq _ _).2 rfl)
    | bool => cases v <;> first | (cases hv; done) | simp [Instr.sameBits]
  simp [Instr.keyThatStays, h]
end
section
variable {P : Program} {Q : Exit → Act → World → Prop} {K : Act → World → Prop} {a : Act} {w : World} {dst : Option Tmp} {ty : TypeId} {pos : String} {after : Array Edge} {guard : Option (Nat × Bool)}
theorem r_makeMap {t : TypeId} (hk : K (a.put dst (.map (some w.heap.size))) (w.alloc (.map #[] 0))) : (Oper.mk dst (.makeMap t none) ty pos after guard).wp P a w K Q := by
  unfold Oper.wp
  have e : (execOp a.eval (Oper.mk dst (.makeMap t none) ty pos after guard)).run P w = .ok (.value (.map (some w.heap.size))) (w.alloc (.map #[] 0)) := rfl
  rw [e]
  exact hk
/-- What a lookup gives. -/
def lookV (ok : Bool) (z : Value) (r : Option Value) : Value := if ok then .tuple #[r.getD z, .bool r.isSome] else r.getD z
theorem r_lookup {t kt et : TypeId} {kd : KD} [m : TMap P t kt et kd] {z : Value} [hz : TZ1 P et z] {x y : Operand} {ok : Bool} {b clock : Nat} {ents : Array MapEntry} {es : List (Value × Value)} {kv : Value} (hx : a.eval x = .map (some b)) (hh : w.heap[b]? = some (.map ents clock)) (he : ents.toList.map pr = es) (hes : ∀ x ∈ es, fitK kd x.1 = true)
    (hy : a.eval y = kv) (hkv : fitK kd kv = true) (hk : K (a.put dst (lookV ok z (findV kv es))) w) : (Oper.mk dst (.lookup t x y ok) ty pos after guard).wp P a w K Q := by
  subst he
  refine wp_run (v := lookV ok z (findV kv (ents.toList.map pr))) ?_ hk
  have hf := find_run (w := w) m.key hkv hes
  have hzz : (zeroValue et).run P w = .ok z w := by
    have h1 := hz.h
    cases hi : P.info? et with
    | none => rw [hi] at h1; cases h1
    | some inf =>
      rw [hi] at h1
      have h2 : inf.zero = some z := by simpa using h1
      simp [zeroValue, typeInfo, hi, h2]
  have hl : (Instr.lookup t (.map (some b)) kv ok).run P w = .ok (lookV ok z (findV kv (ents.toList.map pr))) w := by
    rcases findIx_spec kv ents.toList 0 with ⟨h1, h2, _⟩ | ⟨j, e, h1, _, _, h4, _⟩
    · rw [h1] at hf
      rw [h2]
      simp [Instr.lookup, run_underlying m.h, MapKept.run_getObj_map hh, check_run m.key hkv, hf, hzz, Result.andThen, lookV]
    · rw [h1] at hf
      rw [h4]
      simp [Instr.lookup, run_underlying m.h, MapKept.run_getObj_map hh, check_run m.key hkv, hf, Result.andThen, lookV]
  simp only [execOp, hx, hy, Sem.run_bind, hl, Result.andThen_ok, Sem.run_pure]
def World.setMap (w : World) (b : Nat) (o : Obj) : World := { w with heap := w.heap.setIfInBounds b o }
theorem r_mapUpdate {t kt et : TypeId} {kd : KD} [m : TMap P t kt et kd] {x y v : Operand} {b clock : Nat} {ents : Array MapEntry} {es : List (Value × Value)} {kv vv : Value} (hx : a.eval x = .map (some b)) (hh : w.heap[b]? = some (.map ents clock)) (he : ents.toList.map pr = es) (hes : ∀ x ∈ es, fitK kd x.1 = true)
    (hy : a.eval y = kv) (hkv : fitK kd kv = true) (hv : a.eval v = vv) (hk : ∀ ents' clock', ents'.toList.map pr = putV kv vv es → K (a.put dst undef) (World.setMap w b (.map ents' clock'))) : (Oper.mk dst (.mapUpdate t x y v) ty pos after guard).wp P a w K Q := by
  subst he
  have hf := find_run (w := w) m.key hkv hes
  have fin : ∀ o, (∃ ents' clock', o = Obj.map ents' clock' ∧ ents'.toList.map pr = putV kv vv (ents.toList.map pr)) → (Instr.mapUpdate t (.map (some b)) kv vv).run P w = .ok () (World.setMap w b o) → (Oper.mk dst (.mapUpdate t x y v) ty pos after guard).wp P a w K Q := by
    rintro o ⟨ents', clock', rfl, h1⟩ h2
    unfold Oper.wp execOp
    simp only [hx, hy, hv, Sem.run_bind, h2, Result.andThen_ok, Sem.run_pure]
    exact hk _ _ h1
  rcases findIx_spec kv ents.toList 0 with ⟨h1, _, h3, _⟩ | ⟨j, e, h1, h2, h3, _, h5, _⟩
  · rw [h1] at hf
    refine fin (.map (ents.push ⟨kv, vv, clock⟩) (clock + 1)) ⟨_, _, rfl, by rw [h3]; simp [pr]⟩ ?_
    simp [Instr.mapUpdate, run_underlying m.h, MapKept.run_getObj_map hh, check_run m.key hkv, hf, MapKept.run_setObj_map _ hh, Result.andThen, World.setMap]
  · rw [h1] at hf
    have hj : ents[j]? = some e := by simpa using h2
    have hek : fitK kd e.key = true := hes (pr e) (List.mem_map.2 ⟨e, List.mem_of_getElem? h2, rfl⟩)
    have hkk : kv = e.key := keyEq_eq hkv hek h3
    refine fin (.map (ents.modify j fun e => { e with key := kv, val := vv }) clock) ⟨_, _, rfl, ?_⟩ ?_
    · rw [h5]
      apply List.ext_getElem?
      intro i
      simp only [List.getElem?_map, Array.getElem?_toList, Array.getElem?_modify, List.getElem?_set, List.length_map, Array.length_toList]
      by_cases hij : j = i
      · subst hij
        have hlt : j < ents.size := (Array.getElem?_eq_some_iff.1 hj).1
        simp [hlt, pr]
      · simp [hij]
    · simp only [Nat.zero_add] at hf
      simp [Instr.mapUpdate, run_underlying m.h, MapKept.run_getObj_map hh, check_run m.key hkv, hf, hj, ← hkk, stays_run hkv, MapKept.run_setObj_map _ hh, Result.andThen, World.setMap]
theorem r_lenMap {t kt et : TypeId} {kd : KD} [m : TMap P t kt et kd] {x : Operand} {b clock : Nat} {ents : Array MapEntry} (hx : a.eval x = .map (some b)) (hh : w.heap[b]? = some (.map ents clock)) (hk : K (a.put dst (.int .i64 ents.toList.length)) w) : (Oper.mk dst (.call ⟨.builtin .len, #[x], #[t]⟩) ty pos after guard).wp P a w K Q := by
  refine wp_run ?_ hk
  have e : (Builtin.len_ #[t] ty #[.map (some b)]).run P w = .ok (.int .i64 ents.size) w := by simp [Builtin.len_, run_underlying m.h, MapKept.run_getObj_map hh, goInt, Result.andThen]
  simp only [execOp, resolve, invoke, builtin, Sem.run_bind, Sem.run_pure, Result.andThen_ok, List.map_toArray, List.map_cons, List.map_nil, hx, e, Array.length_toList]
theorem wp_delete_run {ts : Array TypeId} {xs : Array Operand} {w' : World} {v : Value} (hr : (Builtin.delete_ ts ty (xs.map a.eval)).run P w = .ok v w') (hk : K (a.put dst v) w') : (Oper.mk dst (.call ⟨.builtin .delete, xs, ts⟩) ty pos after guard).wp P a w K Q := by
  unfold Oper.wp execOp
  simp only [resolve, invoke, builtin, Sem.run_bind, Sem.run_pure, Result.andThen_ok, hr]
  exact hk
theorem r_delete {t kt et : TypeId} {kd : KD} [m : TMap P t kt et kd] {ts : Array TypeId} (hts : ts = #[t, kt]) {x y : Operand} {b clock : Nat} {ents : Array MapEntry} {es : List (Value × Value)} {kv : Value} (hx : a.eval x = .map (some b)) (hh : w.heap[b]? = some (.map ents clock)) (he : ents.toList.map pr = es) (hes : ∀ x ∈ es, fitK kd x.1 = true)
    (hy : a.eval y = kv) (hkv : fitK kd kv = true) (hk : ∀ ents' clock', ents'.toList.map pr = delV kv es → K (a.put dst (.tuple #[])) (World.setMap w b (.map ents' clock'))) : (Oper.mk dst (.call ⟨.builtin .delete, #[x, y], ts⟩) ty pos after guard).wp P a w K Q := by
  subst he; subst hts
  have hf := find_run (w := w) m.key hkv hes
  have hxy : (#[x, y] : Array Operand).map a.eval = #[.map (some b), kv] := by simp [hx, hy]
  rcases findIx_spec kv ents.toList 0 with ⟨h1, _, _, h4⟩ | ⟨j, e, h1, h2, h3, _, _, h6⟩
  · rw [h1] at hf
    refine wp_delete_run (v := .tuple #[]) (w' := World.setMap w b (.map ents clock)) ?_ (hk _ _ h4.symm)
    rw [hxy]
    simp [Builtin.delete_, run_underlying m.h, MapKept.run_getObj_map hh, check_run m.key hkv, hf, MapKept.run_setObj_map _ hh, Result.andThen, World.setMap]
  · rw [h1] at hf
    refine wp_delete_run (v := .tuple #[]) (w' := World.setMap w b (.map (ents.eraseIdxIfInBounds j) clock)) ?_ (hk _ _ ?_)
    · rw [hxy]
      simp only [Nat.zero_add] at hf
      simp [Builtin.delete_, run_underlying m.h, MapKept.run_getObj_map hh, check_run m.key hkv, hf, MapKept.run_setObj_map _ hh, Result.andThen, World.setMap]
    · rw [h6]
      have hjs : j < ents.size := (Array.getElem?_eq_some_iff.1 (show ents[j]? = some e by simpa using h2)).1
      unfold Array.eraseIdxIfInBounds
      rw [dif_pos hjs]
      rw [Array.toList_eraseIdx]
      apply List.ext_getElem?
      intro i
      rw [List.getElem?_map, List.getElem?_eraseIdx, List.getElem?_eraseIdx]
      split <;> simp
end
end Go.Proofs.YthbhjladfniboaaDoor
namespace Go.Proofs.YthbhjladfniboaaDoor
set_option linter.unusedSimpArgs false
set_option linter.unusedVariables false
open Go.RowKit

abbrev Str := List UInt8
abbrev sv (s : Str) : Value := .string ⟨s.toArray⟩
/-- A byte of a text. -/
@[go_sem] theorem ba_get (l : List UInt8) (k : Nat) (h : k < (ByteArray.mk l.toArray).size) : (ByteArray.mk l.toArray)[k]'h = l[k]'(by simpa [ByteArray.size] using h) := rfl
theorem ret_bool {a b : Bool} (h : a = b) : Ending.returned (.bool a) = .returned (.bool b) := by rw [h]
theorem ret_int {k : IntKind} {a b : Int} (h : a = b) : Ending.returned (.int k a) = .returned (.int k b) := by rw [h]

structure Agr where
  fr : Str
  tgt : Str
  msg : Str
  ver : Str
  first : Int
  last : Int
  test : Bool
  reply : Int
  inOrder : Bool
abbrev Agr.cells (a : Agr) : List Value := [sv a.fr, sv a.tgt, sv a.msg, sv a.ver, .int .i64 a.first, .int .i64 a.last, .bool a.test, .int .i64 a.reply, .bool a.inOrder]
abbrev Agr.v (a : Agr) : Value := .agg #[sv a.fr, sv a.tgt, sv a.msg, sv a.ver, .int .i64 a.first, .int .i64 a.last, .bool a.test, .int .i64 a.reply, .bool a.inOrder]
structure Cas where
  fr : Str
  tgt : Str
  msg : Str
  ver : Str
  day : Int
  test : Bool
abbrev Cas.v (a : Cas) : Value := .agg #[sv a.fr, sv a.tgt, sv a.msg, sv a.ver, .int .i64 a.day, .bool a.test]

def outB (n a b : Int) : Bool := decide (n < a) || decide (b < n)
def flagN (b : Bool) : Int := if b then 1 else 0
theorem flagN_bd (b : Bool) : 0 ≤ flagN b ∧ flagN b ≤ 1 := by cases b <;> simp [flagN]
def alikeB (a : Agr) (c : Cas) : Bool := (a.fr == c.fr) && (a.tgt == c.tgt) && (a.msg == [] || a.msg == c.msg) && (a.ver == [] || a.ver == c.ver) && (a.test == c.test)
def appliesB (a : Agr) (c : Cas) : Bool := alikeB a c && !outB c.day a.first a.last
def firstSign : List Int → Int
  | [] => 0
  | d :: r => if d < 0 then -1 else if 0 < d then 1 else firstSign r
theorem firstSign_at : ∀ (l : List Int) (k : Nat), (∀ j, j < k → l.getD j 0 = 0) → k < l.length → (l.getD k 0 < 0 → firstSign l = -1) ∧ (0 < l.getD k 0 → firstSign l = 1)
  | d :: r, 0, _, _ => ⟨fun h => by simp at h; simp [firstSign, h], fun h => by simp at h; simp [firstSign, h]; omega⟩
  | d :: r, k + 1, hz, hk => by
    have h0 : d = 0 := by simpa using hz 0 (by omega)
    have := firstSign_at r k (fun j hj => by simpa using hz (j + 1) (by omega)) (by simpa using hk)
    subst h0
    simpa [firstSign] using this
theorem firstSign_end : ∀ (l : List Int), (∀ j, j < l.length → l.getD j 0 = 0) → firstSign l = 0
  | [], _ => rfl
  | d :: r, hz => by
    have h0 : d = 0 := by simpa using hz 0 (by simp)
    subst h0
    simpa [firstSign] using firstSign_end r (fun j hj => by simpa using hz (j + 1) (by simpa using hj))
def betterN (a b : Agr) : Int := firstSign [flagN (!b.msg.isEmpty) - flagN (!a.msg.isEmpty), flagN (!b.ver.isEmpty) - flagN (!a.ver.isEmpty), b.first - a.first, a.last - b.last]
def rankN (a : Agr) : Int := if !a.ver.isEmpty then 2 else if !a.msg.isEmpty then 1 else 0
theorem rankN_bd (a : Agr) : 0 ≤ rankN a ∧ rankN a ≤ 2 := by unfold rankN; split <;> (try split) <;> omega
def better8N (a b : Agr) : Int := firstSign [rankN b - rankN a, b.first - a.first, a.last - b.last]
theorem better8_eq (a b : Agr) (ha : a.ver ≠ [] → a.msg ≠ []) (hb : b.ver ≠ [] → b.msg ≠ []) : better8N a b = betterN a b := by
  unfold better8N betterN rankN flagN
  cases h1 : a.ver <;> cases h2 : a.msg <;> cases h3 : b.ver <;> cases h4 : b.msg <;> simp_all [firstSign]
/-- A text that can be there. -/
def Str.Ok (s : Str) : Prop := s.length ≤ 9223372036854775807
def nameHead (c : UInt8) : Bool := decide (97 ≤ c.toNat) && decide (c.toNat ≤ 122)
def nameByte (c : UInt8) : Bool := nameHead c || (decide (48 ≤ c.toNat) && decide (c.toNat ≤ 57)) || decide (c.toNat = 45)
def isNameB : Str → Bool
  | [] => false
  | c :: s => decide (s.length < 40) && nameHead c && (c :: s).all nameByte
def isAnyB (s : Str) : Bool := s.isEmpty || isNameB s
def ownFaultN (a : Agr) : Int :=
  if a.fr = a.tgt then 12 else if (!isAnyB a.msg || !isAnyB a.ver) = true then 5 else if (!a.ver.isEmpty && a.msg.isEmpty) = true then 3
  else if (outB a.first 1 3652059 || outB a.last a.first 3652059 || outB a.reply 0 100000000) = true then 1 else 0
structure Agr.Ok (a : Agr) : Prop where
  msg : Str.Ok a.msg
  ver : Str.Ok a.ver
structure Ser where
  first : Int
  last : Int
abbrev Ser.v (s : Ser) : Value := .agg #[.int .i64 s.first, .int .i64 s.last]
def seriesFaultN (s : Ser) : Int := if (outB s.first 0 999999999999999 || outB s.last (s.first + 1) 999999999999999) = true then 1 else 0
def isOfB (s : Ser) (n : Int) : Bool := !outB n s.first s.last
def nextN (s : Ser) (last : Int) : Int × Int :=
  if seriesFaultN s ≠ 0 then (0, seriesFaultN s) else if isOfB s last = false then (0, 1) else if last = s.last then (s.first, 0) else (last + 1, 0)
/-- Days that fit. -/
structure Agr.Fit (a : Agr) : Prop where
  f0 : 0 ≤ a.first
  f1 : a.first ≤ 3652059
  l0 : 0 ≤ a.last
  l1 : a.last ≤ 3652059
theorem fit_of_own {a : Agr} (h : ownFaultN a = 0) : a.Fit ∧ (a.ver ≠ [] → a.msg ≠ []) := by
  unfold ownFaultN at h
  split at h
  · simp at h
  · split at h
    · simp at h
    · split at h
      · simp at h
      · rename_i h1 h2 h3
        split at h
        · simp at h
        · rename_i h4
          simp only [outB, Bool.or_eq_true, not_or, decide_eq_true_eq, Int.not_lt] at h4
          refine ⟨⟨by omega, by omega, by omega, by omega⟩, fun hv hm => h3 ?_⟩
          cases hve : a.ver with
          | nil => exact absurd hve hv
          | cons c t => simp [hm]
def BetterN (a b : Agr) : Int × Int := if ownFaultN a ≠ 0 then (0, ownFaultN a) else if ownFaultN b ≠ 0 then (0, ownFaultN b) else (betterN a b, 0)
end Go.Proofs.YthbhjladfniboaaDoor
