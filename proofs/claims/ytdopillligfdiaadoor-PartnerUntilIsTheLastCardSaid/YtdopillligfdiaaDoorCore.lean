/- The rule for a region whose order Go leaves open, when every operation only adds to memory: one step an operation, whatever the order. -/
import Derived.WalkKit
import Derived.Orders
import Derived.Lib.Hide
import Derived.Deep.DeepCutAuto
import Derived.Deep.CutBlock
import Derived.Deep.RegionHeld3
namespace Go.Proofs.YtdopillligfdiaaDoor
set_option linter.unusedSimpArgs false
set_option linter.unusedVariables false
open Go.RowKit

/-- All that was there is as it was. -/
def Ext (w w' : World) : Prop := Below w.heap.size w w'
theorem Ext.refl (w : World) : Ext w w := Below.refl _ w
theorem Ext.trans {a b c : World} (h : Ext a b) (k : Ext b c) : Ext a c := Below.trans h (Below.mono k h.size)
theorem Ext.drew (w : World) : Ext w w.drew := (Below.refl _ w).drew
theorem Ext.alloc (w : World) (o : Obj) : Ext w (w.alloc o) := (Below.refl _ w).alloc (Nat.le_refl _) o
theorem Ext.cell {w w' : World} (h : Ext w w') {p : Addr} {v : Value} (hc : w.cell? p = some v) : w'.cell? p = some v :=
  (Below.cell h (block_lt_of_cell hc)).trans hc
theorem Ext.sizeOf {w w' : World} (h : Ext w w') : w.heap.size ≤ w'.heap.size := Below.size h
theorem Ext.below {w w' : World} (h : Ext w w') : Below w.heap.size w w' := h

/-- What an operation leaves: a value made of something unknown, and a fact that lasts. -/
abbrev Unk := Nat × Nat × Value
structure Spec where
  shape : Unk → Value
  fact : Unk → World → Prop
  mono : ∀ u w w', Ext w w' → fact u w → fact u w'
def Spec.det (e : Value) : Spec := ⟨fun _ => e, fun _ _ => True, fun _ _ _ _ h => h⟩
/-- A block that is known whole. -/
def Blk (w : World) (g : Nat) (t : TypeId) (cs : Array Value) : Prop := w.heap[g]? = some (.cells cs t (0, 0))
theorem Blk.lt {w : World} {g : Nat} {t : TypeId} {cs : Array Value} (h : Blk w g t cs) : g < w.heap.size := by
  rcases Nat.lt_or_ge g w.heap.size with hlt | hge
  · exact hlt
  · unfold Blk at h; rw [Array.getElem?_eq_none hge] at h; cases h
theorem Blk.ext {w w' : World} {g : Nat} {t : TypeId} {cs : Array Value} (h : Blk w g t cs) (hx : Ext w w') : Blk w' g t cs := (Below.block hx g h.lt).trans h
theorem Blk.cell {w : World} {g : Nat} {t : TypeId} {cs : Array Value} (h : Blk w g t cs) (i : Nat) : w.cell? ⟨g, i, none⟩ = cs[i]? := cell_of_row w g i cs t (0, 0) h
theorem Blk.frozen {w : World} {g : Nat} {t : TypeId} {cs : Array Value} (h : Blk w g t cs) (i : Nat) : w.frozen? ⟨g, i, none⟩ = false := by
  unfold Blk at h
  simp [World.frozen?, h]
theorem Blk.new (w : World) (t : TypeId) (cs : Array Value) : Blk (w.alloc (.cells cs t)) w.heap.size t cs := heap_alloc_new w _
/-- A new block of the operation's own. -/
def Spec.blk (sh : Nat → Value) (t : TypeId) (cs : Array Value) : Spec := ⟨fun u => sh u.1, fun u w => Blk w u.1 t cs, fun _ _ _ h k => k.ext h⟩
/-- A value of which something lasting is known. -/
def Spec.some' (R : Value → World → Prop) (h : ∀ v w w', Ext w w' → R v w → R v w') : Spec := ⟨fun u => u.2.2, fun u w => R u.2.2 w, fun u w w' hx hr => h u.2.2 w w' hx hr⟩
theorem Ext.rules {w w' : World} (h : Ext w w') : (∀ b o, b < w.heap.size → w'.cell? ⟨b, o, none⟩ = w.cell? ⟨b, o, none⟩) ∧ (∀ b o, b < w.heap.size → w'.frozen? ⟨b, o, none⟩ = w.frozen? ⟨b, o, none⟩) :=
  ⟨fun b o hb => Below.cell (p := ⟨b, o, none⟩) h hb, fun b o hb => Below.frozen (p := ⟨b, o, none⟩) h hb⟩

section
variable (P : Program) (ops : Array Oper) (Q : Exit → Act → World → Prop)
def StepAt (o : Oper) (s : Spec) (a : Act) (w : World) : Prop :=
  if Region.wanted o (yielded ops a.tmps) = true then
    ∀ K : Act → World → Prop, (∀ u w', s.fact u w' → Ext w w' → K (a.put o.dst (s.shape u)) w') → o.wp P a w K (NoPanic Q) ∨ (o.asks P a w ∧ LetsOut (NoPanic Q))
  else ∃ u, s.shape u = undef ∧ s.fact u w

def ParSteps (w0 : World) : List Oper → List Spec → List (World → Prop) → Act → Prop
  | [], _, fs, a => ∀ w, Ext w0 w → (∀ f ∈ fs, f w) → Q .normal a w
  | _ :: _, [], _, _ => False
  | o :: r, s :: ss, fs, a =>
    (∀ w, Ext w0 w → (∀ e ∈ o.after.toList, Region.binds .any e = true → (fs.getD e.on (fun _ => True)) w) → StepAt P ops Q o s a w) ∧
    ∀ u, ParSteps w0 r ss (fs ++ [s.fact u]) (a.put o.dst (s.shape u))
end

def depOn (o : Oper) (j : Nat) : Bool := o.after.any fun e => Region.binds .any e && e.on == j
def parOk (ops : Array Oper) : Bool :=
  Region.noSelect ops && (List.range ops.size).all fun i => match ops[i]? with
    | some o => (o.after.all fun e => !Region.binds .any e || decide (e.on < i)) &&
        (List.range ops.size).all fun k => k == i || match ops[k]? with
          | some p => match p.dst with
            | none => true
            | some d => o.dst != some d && (!(o.looksAt ops).contains d || depOn o k || depOn p i)
          | none => true
    | none => true

theorem depOn_spec {o : Oper} {j : Nat} (h : depOn o j = true) : ∃ e ∈ o.after, Region.binds .any e = true ∧ e.on = j := by
  unfold depOn at h
  obtain ⟨e, he, hb⟩ := Array.any_eq_true'.1 h
  simp only [Bool.and_eq_true, beq_iff_eq] at hb
  exact ⟨e, he, hb.1, hb.2⟩

section
variable {ops : Array Oper}
theorem parOk_before (h : parOk ops = true) {i : Nat} {o : Oper} (ho : ops[i]? = some o) {e : Edge} (he : e ∈ o.after) (hb : Region.binds .any e = true) : e.on < i := by
  simp only [parOk, Bool.and_eq_true, List.all_eq_true, List.mem_range] at h
  have h1 := h.2 i (Array.getElem?_eq_some_iff.1 ho).1
  simp only [ho, Bool.and_eq_true] at h1
  have h2 := Array.all_eq_true_iff_forall_mem.1 h1.1 e he
  simpa [hb] using h2
theorem parOk_pair (h : parOk ops = true) {i k : Nat} {o p : Oper} (ho : ops[i]? = some o) (hp : ops[k]? = some p) (hki : k ≠ i) {d : Tmp} (hd : p.dst = some d) :
    o.dst ≠ some d ∧ (d ∈ o.looksAt ops → depOn o k = true ∨ depOn p i = true) := by
  simp only [parOk, Bool.and_eq_true, List.all_eq_true, List.mem_range] at h
  have h1 := h.2 i (Array.getElem?_eq_some_iff.1 ho).1
  simp only [ho, Bool.and_eq_true, List.all_eq_true, List.mem_range] at h1
  have h2 := h1.2 k (Array.getElem?_eq_some_iff.1 hp).1
  simp only [hp, hd, Bool.or_eq_true, beq_iff_eq, hki, false_or, Bool.and_eq_true, bne_iff_ne, ne_eq, Bool.not_eq_true'] at h2
  refine ⟨h2.1, fun hm => ?_⟩
  rcases h2.2 with (h3 | h3) | h3
  · simp [hm] at h3
  · exact .inl h3
  · exact .inr h3
theorem parOk_noSelect (h : parOk ops = true) : Region.noSelect ops = true := by
  simp only [parOk, Bool.and_eq_true] at h
  exact h.1
end

/-- The frame behind those that are done, in the order of the text. -/
def fillD (env : Nat → Unk) (done : Nat → Bool) : List Oper → List Spec → Nat → Act → Act
  | o :: r, s :: ss, k, a => fillD env done r ss (k + 1) (if done k = true then a.put o.dst (s.shape (env k)) else a)
  | _, _, _, a => a

theorem put_defers (a : Act) (d : Option Tmp) (v : Value) : (a.put d v).defers = a.defers := by cases d <;> rfl
theorem put_size (a : Act) (d : Option Tmp) (v : Value) : (a.put d v).tmps.size = a.tmps.size := by cases d <;> simp [Act.put]
theorem put_ne (a : Act) (d : Option Tmp) (v : Value) (t : Tmp) (h : d ≠ some t) : (a.put d v).tmps[t]? = a.tmps[t]? := by
  cases d with
  | none => rfl
  | some x => simp [Act.put, Array.getElem?_setIfInBounds_ne (fun e => h (by rw [e]) : x ≠ t)]
theorem put_eq (a : Act) (v : Value) (t : Tmp) : (a.put (some t) v).tmps[t]? = if t < a.tmps.size then some v else none := by
  simp [Act.put, Array.getElem?_setIfInBounds]
theorem act_ext {a b : Act} (hd : a.defers = b.defers) (ht : ∀ t : Nat, a.tmps[t]? = b.tmps[t]?) : a = b := by
  cases a with | mk x d => cases b with | mk y e =>
    simp only at hd ht
    have : x = y := Array.ext_getElem? ht
    subst this hd
    rfl

section
variable {env : Nat → Unk}
theorem fillD_defers {done : Nat → Bool} : ∀ (l : List Oper) (ss : List Spec) (k : Nat) (a : Act), (fillD env done l ss k a).defers = a.defers
  | [], _, _, _ => by simp [fillD]
  | _ :: _, [], _, _ => by simp [fillD]
  | o :: r, s :: ss, k, a => by
    simp only [fillD]
    rw [fillD_defers r ss]
    split
    · exact put_defers _ _ _
    · rfl
theorem fillD_size {done : Nat → Bool} : ∀ (l : List Oper) (ss : List Spec) (k : Nat) (a : Act), (fillD env done l ss k a).tmps.size = a.tmps.size
  | [], _, _, _ => by simp [fillD]
  | _ :: _, [], _, _ => by simp [fillD]
  | o :: r, s :: ss, k, a => by
    simp only [fillD]
    rw [fillD_size r ss]
    split
    · exact put_size _ _ _
    · rfl
/-- Two sets of what is done that agree on the writers of a slot. -/
theorem fillD_agree {d1 d2 : Nat → Bool} {t : Tmp} : ∀ (l : List Oper) (ss : List Spec) (k : Nat) (a1 a2 : Act), a1.tmps.size = a2.tmps.size → a1.tmps[t]? = a2.tmps[t]? →
    (∀ j o, l[j]? = some o → o.dst = some t → d1 (k + j) = d2 (k + j)) → (fillD env d1 l ss k a1).tmps[t]? = (fillD env d2 l ss k a2).tmps[t]?
  | [], _, _, _, _, _, h, _ => by simpa [fillD] using h
  | _ :: _, [], _, _, _, _, h, _ => by simpa [fillD] using h
  | o :: r, s :: ss, k, a1, a2, hs, h, hd => by
    simp only [fillD]
    refine fillD_agree r ss (k + 1) _ _ ?_ ?_ (fun j o' ho hdst => ?_)
    · split <;> split <;> simp [put_size, hs]
    · by_cases ht : o.dst = some t
      · have h0 := hd 0 o rfl ht
        simp only [Nat.add_zero] at h0
        rw [h0]
        split
        · rw [ht, put_eq, put_eq, hs]
        · exact h
      · split <;> split <;> simp only [put_ne _ _ _ _ ht, h]
    · have := hd (j + 1) o' (by simpa using ho) hdst
      simpa [Nat.add_assoc, Nat.add_comm 1 j] using this
/-- The only writer of a slot is done: the slot holds what it wrote. -/
theorem fillD_at {done : Nat → Bool} {t : Tmp} : ∀ (l : List Oper) (ss : List Spec) (k : Nat) (a : Act) (i : Nat) (o : Oper) (s : Spec), l[i]? = some o → ss[i]? = some s → o.dst = some t → done (k + i) = true →
    (∀ j p, l[j]? = some p → j ≠ i → p.dst ≠ some t) → (fillD env done l ss k a).tmps[t]? = if t < a.tmps.size then some (s.shape (env (k + i))) else none
  | [], _, _, _, i, _, _, h, _, _, _, _ => by simp at h
  | _ :: _, [], _, _, i, _, _, _, h, _, _, _ => by simp at h
  | o' :: r, s' :: ss, k, a, 0, o, s, h, hs, ht, hd, hu => by
    simp only [List.getElem?_cons_zero, Option.some.injEq] at h hs
    subst h hs
    simp only [Nat.add_zero] at hd
    simp only [fillD, hd, if_true, Nat.add_zero]
    have hag := fillD_agree (env := env) (d1 := done) (d2 := fun _ => false) (t := t) r ss (k + 1) (a.put o'.dst (s'.shape (env k))) (a.put o'.dst (s'.shape (env k))) rfl rfl (fun j p hp hdst => absurd hdst (hu (j + 1) p (by simpa using hp) (by omega)))
    rw [hag]
    have hnone : ∀ (l : List Oper) (ss : List Spec) (k : Nat) (a : Act), fillD env (fun _ => false) l ss k a = a := by
      intro l
      induction l with
      | nil => intro ss k a; simp [fillD]
      | cons o r ih => intro ss k a; cases ss with
        | nil => simp [fillD]
        | cons s ss => simp [fillD, ih]
    rw [hnone, ht, put_eq]
  | o' :: r, s' :: ss, k, a, i + 1, o, s, h, hs, ht, hd, hu => by
    simp only [fillD]
    have := fillD_at r ss (k + 1) (if done k = true then a.put o'.dst (s'.shape (env k)) else a) i o s (by simpa using h) (by simpa using hs) ht (by simpa [Nat.add_assoc, Nat.add_comm 1 i] using hd)
      (fun j p hp hji => hu (j + 1) p (by simpa using hp) (by omega))
    rw [this]
    have e : k + 1 + i = k + (i + 1) := by omega
    rw [e]
    have hsz : (if done k = true then a.put o'.dst (s'.shape (env k)) else a).tmps.size = a.tmps.size := by split <;> simp [put_size]
    rw [hsz]
end

/-- The same operation over two frames that agree on what it looks at. -/
theorem wp_frame {P : Program} {Q : Exit → Act → World → Prop} {o : Oper} {a b : Act} {w : World} {K : Value → World → Prop} (he : execOp a.eval o = execOp b.eval o)
    (hin : ∀ d, o.dst = some d → d < b.tmps.size)
    (h : o.wp P b w (fun a' w' => ∃ v, a' = b.put o.dst v ∧ K v w') (NoPanic Q)) : o.wp P a w (fun a' w' => ∃ v, a' = a.put o.dst v ∧ K v w') (NoPanic Q) := by
  unfold Oper.wp at *
  rw [he]
  have key : ∀ v w', (∃ u, b.put o.dst v = b.put o.dst u ∧ K u w') → ∃ u, a.put o.dst v = a.put o.dst u ∧ K u w' := by
    rintro v w' ⟨u, hu, hk⟩
    refine ⟨u, ?_, hk⟩
    cases hd : o.dst with
    | none => rfl
    | some d =>
      rw [hd] at hu
      have hlt := hin d hd
      have := congrArg (fun x : Act => x.tmps[d]?) hu
      simp only [put_eq, hlt, if_true, Option.some.injEq] at this
      rw [this]
  cases hr : (execOp b.eval o).run P w with
  | ok n w' =>
    rw [hr] at h
    cases n with
    | value v => exact key v w' h
    | skip => exact key undef w' h
    | defer d =>
      obtain ⟨v, hv, _⟩ := h
      have := congrArg Act.defers hv
      rw [put_defers, put_defers] at this
      simp at this
    | enter f args => exact Calls.mono h (fun e w'' he => by cases e <;> first | exact key _ _ he | exact he)
    | row row args => exact Rows.mono h (fun v w'' he => key _ _ he)
    | _ => exact h.elim
  | halt x w' =>
    rw [hr] at h
    cases x <;> first | exact h | exact h.elim

section
variable {P : Program} {Q : Exit → Act → World → Prop}
theorem par_at {ops : Array Oper} {w0 : World} {env : Nat → Unk} : ∀ (l : List Oper) (ss : List Spec) (fs : List (World → Prop)) (k : Nat) (a : Act), ParSteps P ops Q w0 l ss fs a → fs.length = k →
    ∀ (i : Nat) (o : Oper), l[i]? = some o → ∃ s, ss[i]? = some s ∧ ∃ gs : List (World → Prop), gs.length = i ∧ (∀ j (sj : Spec), j < i → ss[j]? = some sj → gs[j]? = some (sj.fact (env (k + j)))) ∧
      ∀ w, Ext w0 w → (∀ e ∈ o.after.toList, Region.binds .any e = true → ((fs ++ gs).getD e.on (fun _ => True)) w) → StepAt P ops Q o s (fillD env (fun j => decide (j < k + i)) l ss k a) w
  | [], _, _, _, _, _, _, _, _, h => by simp at h
  | _ :: _, [], _, _, _, h, _, _, _, _ => h.elim
  | o' :: r, s' :: ss, fs, k, a, h, hk, 0, o, ho => by
    simp only [List.getElem?_cons_zero, Option.some.injEq] at ho
    subst ho
    refine ⟨s', rfl, [], rfl, fun j _ hj => by omega, fun w hw hf => ?_⟩
    have hnone : ∀ (l : List Oper) (ss : List Spec) (m : Nat) (a : Act), k ≤ m → fillD env (fun j => decide (j < k + 0)) l ss m a = a := by
      intro l
      induction l with
      | nil => intro ss m a _; simp [fillD]
      | cons o r ih => intro ss m a hm; cases ss with
        | nil => simp [fillD]
        | cons s ss => simp only [fillD]; rw [if_neg (by simp; omega)]; exact ih ss (m + 1) a (by omega)
    rw [hnone _ _ _ _ (Nat.le_refl _)]
    exact h.1 w hw (by simpa using hf)
  | o' :: r, s' :: ss, fs, k, a, h, hk, i + 1, o, ho => by
    obtain ⟨s, hs, gs, hl, hg, hstep⟩ := par_at r ss (fs ++ [s'.fact (env k)]) (k + 1) _ (h.2 (env k)) (by simp [hk]) i o (by simpa using ho)
    refine ⟨s, by simpa using hs, s'.fact (env k) :: gs, by simp [hl], fun j sj hj hsj => ?_, fun w hw hf => ?_⟩
    · cases j with
      | zero => simp at hsj; subst hsj; rfl
      | succ j => have := hg j sj (by omega) (by simpa using hsj); simpa [Nat.add_assoc, Nat.add_comm 1 j] using this
    · have := hstep w hw (by simpa using hf)
      simp only [fillD]
      rw [if_pos (by simp)]
      have e : k + 1 + i = k + (i + 1) := by omega
      rwa [e] at this
theorem par_end {ops : Array Oper} {w0 : World} {env : Nat → Unk} : ∀ (l : List Oper) (ss : List Spec) (fs : List (World → Prop)) (k : Nat) (a : Act), ParSteps P ops Q w0 l ss fs a →
    ∀ w, Ext w0 w → (∀ f ∈ fs, f w) → (∀ j (s : Spec), j < l.length → ss[j]? = some s → s.fact (env (k + j)) w) → Q .normal (fillD env (fun _ => true) l ss k a) w
  | [], _, _, _, _, h, w, hw, hf, _ => by simpa [fillD] using h w hw hf
  | _ :: _, [], _, _, _, h, _, _, _, _ => h.elim
  | o :: r, s :: ss, fs, k, a, h, w, hw, hf, hs => by
    simp only [fillD, if_true]
    refine par_end r ss _ (k + 1) _ (h.2 (env k)) w hw (fun f hm => ?_) (fun j s' hj hs' => ?_)
    · rcases List.mem_append.1 hm with hm | hm
      · exact hf f hm
      · simp only [List.mem_singleton] at hm; subst hm; simpa using hs 0 s (by simp) rfl
    · have := hs (j + 1) s' (by simpa using hj) (by simpa using hs')
      simpa [Nat.add_assoc, Nat.add_comm 1 j] using this

/-- THE RULE. -/
theorem wp_region_par {id : Nat} {l : List Oper} {a : Act} {w : World} (hm : P.follows .mixedOrders = true) (hok : parOk l.toArray = true)
    (hin : (l.all fun o => match o.dst with | some d => decide (d < a.tmps.size) | none => true) = true) {ss : List Spec}
    (h : ParSteps P l.toArray Q w l ss [] a) : (Code.region id l.toArray true).wp P Q a w := by
  refine wp_region_noPanic (wp_region_any hm ?_)
  have hops : ∀ i : Nat, l.toArray[i]? = l[i]? := fun i => by simp
  have hlen : ∀ (i : Nat) (o : Oper), l[i]? = some o → ∃ s, ss[i]? = some s := fun i o ho => by
    obtain ⟨s, hs, _⟩ := par_at (env := fun _ => default) l ss [] 0 a h rfl i o ho
    exact ⟨s, hs⟩
  have inb : ∀ (i : Nat) (o : Oper), l[i]? = some o → ∀ d, o.dst = some d → d < a.tmps.size := fun i o ho d hd => by
    have := List.all_eq_true.1 hin o (List.mem_of_getElem? ho)
    simpa [hd] using this
  have key : ∀ (fuel : Nat) (listed : Array Bool) (b : Act) (w1 : World) (env : Nat → Unk), listed.size = l.length → l.length ≤ fuel + listed.toList.countP (fun x => x) → Ext w w1 →
      b = fillD env (fun j => listed.getD j false) l ss 0 a → (∀ j (s : Spec), listed.getD j false = true → ss[j]? = some s → s.fact (env j) w1) →
      (∀ j o, l[j]? = some o → listed.getD j false = true → ∀ e ∈ o.after, Region.binds .any e = true → listed.getD e.on false = true) →
      wpAny P .any l.toArray (NoPanic Q) fuel listed b w1 := by
    intro fuel
    have finish : ∀ (listed : Array Bool) (b : Act) (w1 : World) (env : Nat → Unk), (∀ j, j < l.length → listed.getD j false = true) → Ext w w1 →
        b = fillD env (fun j => listed.getD j false) l ss 0 a → (∀ j (s : Spec), listed.getD j false = true → ss[j]? = some s → s.fact (env j) w1) → NoPanic Q .normal b w1 := by
      intro listed b w1 env hall hw hb hf
      have e : fillD env (fun j => listed.getD j false) l ss 0 a = fillD env (fun _ => true) l ss 0 a := by
        refine act_ext (by rw [fillD_defers, fillD_defers]) fun t => fillD_agree l ss 0 a a rfl rfl fun j o ho _ => ?_
        simp only [Nat.zero_add]
        exact hall j (List.getElem?_eq_some_iff.1 ho).1
      rw [hb, e]
      exact par_end (env := env) l ss [] 0 a h w1 hw (by simp) (fun j s hj hs => by
        simp only [Nat.zero_add]
        exact hf j s (hall j hj) hs)
    have allOf : ∀ listed : Array Bool, listed.size = l.length → Region.ready .any l.toArray listed = [] → ∀ j, j < l.length → listed.getD j false = true := by
      intro listed hsz hr j
      induction j using Nat.strongRecOn with
      | _ j ih =>
        intro hj
        cases hb : listed.getD j false with
        | true => rfl
        | false =>
          exfalso
          have hm : j ∈ Region.ready .any l.toArray listed := by
            rw [mem_ready]
            refine ⟨?_, l[j], by simp [hj], fun e he hbd => ih e.on (parOk_before hok (by simp [hj]) he hbd) ?_⟩
            · have hjs : j < listed.size := by omega
              simp [hjs] at hb ⊢
              exact hb
            · have := parOk_before hok (i := j) (o := l[j]) (by simp [hj]) he hbd
              omega
          rw [hr] at hm
          cases hm
    induction fuel with
    | zero =>
      intro listed b w1 env hsz hfu hw hb hf hcl
      have hall : ∀ j, j < l.length → listed.getD j false = true := by
        intro j hj
        have hc : listed.toList.countP (fun x => x) = listed.toList.length := by
          have := List.countP_le_length (p := fun x => x) (l := listed.toList)
          simp only [Array.length_toList] at *
          omega
        have := List.countP_eq_length.1 hc
        have hjs : j < listed.size := by omega
        simp [hjs]
        exact this _ (by simp)
      refine ⟨?_, finish listed b w1 env hall hw hb hf⟩
      rw [List.eq_nil_iff_forall_not_mem]
      intro j hj
      obtain ⟨h0, o, ho, _⟩ := mem_ready.1 hj
      have hjl : j < l.length := by have := (Array.getElem?_eq_some_iff.1 ho).1; simpa using this
      have h1 := hall j hjl
      have hjs : j < listed.size := by omega
      simp [hjs] at h0 h1
      rw [h0] at h1
      cases h1
    | succ fuel ih =>
      intro listed b w1 env hsz hfu hw hb hf hcl
      refine ⟨fun hr => finish listed b w1 env (allOf listed hsz hr) hw hb hf, fun i hi => ?_⟩
      obtain ⟨h0, o, ho', hall⟩ := mem_ready.1 hi
      have ho : l[i]? = some o := by rw [← hops]; exact ho'
      have hil : i < l.length := (List.getElem?_eq_some_iff.1 ho).1
      have his : i < listed.size := by omega
      have hun : listed.getD i false = false := by
        simp [his] at h0 ⊢
        exact h0
      obtain ⟨s, hs, gs, hgl, hg, hstep⟩ := par_at (env := env) l ss [] 0 a h rfl i o ho
      have hb4 : ∀ e ∈ o.after, Region.binds .any e = true → e.on < i := fun e he hbd => parOk_before hok ho' he hbd
      have hst := hstep w1 hw (fun e he hbd => by
        have he' : e ∈ o.after := by simpa using he
        have hlt := hb4 e he' hbd
        obtain ⟨sj, hsj⟩ := hlen e.on (l[e.on]'(by omega)) (by simp)
        have hge := hg e.on sj hlt hsj
        simp only [List.nil_append, List.getD_eq_getElem?_getD, hge, Option.getD_some, Nat.zero_add]
        exact hf e.on sj (hall e he' hbd) hsj)
      simp only [Nat.zero_add] at hst
      -- the canonical frame and the frame at hand agree on what the operation looks at
      have hag : ∀ t ∈ o.looksAt l.toArray, b.tmps[t]? = (fillD env (fun j => decide (j < i)) l ss 0 a).tmps[t]? := by
        intro t ht
        rw [hb]
        refine fillD_agree l ss 0 a a rfl rfl fun j p hp hpt => ?_
        simp only [Nat.zero_add]
        by_cases hji : j = i
        · subst hji; rw [hun]; simp
        · have hpair := (parOk_pair hok ho' (by rw [hops]; exact hp) hji hpt).2 ht
          rcases hpair with hd | hd
          · obtain ⟨e, he, hbd, hej⟩ := depOn_spec hd
            rw [← hej, hall e he hbd]
            simp [hb4 e he hbd]
          · obtain ⟨e, he, hbd, hej⟩ := depOn_spec hd
            have hij : i < j := by rw [← hej]; exact parOk_before hok (by rw [hops]; exact hp) he hbd
            have : listed.getD j false = false := by
              cases hlj : listed.getD j false with
              | false => rfl
              | true => have := hcl j p hp hlj e he hbd; rw [hej, hun] at this; cases this
            rw [this]
            simp; omega
      have hev : ∀ x ∈ o.op.operands, b.eval x = (fillD env (fun j => decide (j < i)) l ss 0 a).eval x := by
        intro x hx
        cases x with
        | tmp t =>
          have := hag t (List.mem_append_left _ (List.mem_filterMap.2 ⟨.tmp t, by simpa using hx, rfl⟩))
          simp [Act.eval, this]
        | _ => rfl
      have hexe : execOp b.eval o = execOp (fillD env (fun j => decide (j < i)) l ss 0 a).eval o :=
        execOp_congr o (fun cs bb => Region.noSelect_spec (parOk_noSelect hok) i o cs bb ho') hev
      have hwan : Region.wanted o (yielded l.toArray b.tmps) = Region.wanted o (yielded l.toArray (fillD env (fun j => decide (j < i)) l ss 0 a).tmps) := by
        unfold Region.wanted
        cases hgd : o.guard with
        | none => rfl
        | some gw =>
          obtain ⟨g, want⟩ := gw
          simp only
          congr 1
          unfold yielded
          cases ht : (l.toArray[g]?).bind (·.dst) with
          | none => rfl
          | some t =>
            have e2 := hag t (List.mem_append_right _ (by simp only [hgd]; rw [ht]; simp))
            simp only [Option.bind_some]
            rw [e2]
      -- what follows behind the operation
      have next : ∀ u w2, s.fact u w2 → Ext w1 w2 → wpAny P .any l.toArray (NoPanic Q) fuel (listed.setIfInBounds i true) (b.put o.dst (s.shape u)) w2 := by
        intro u w2 hfu2 hx
        let env' : Nat → Unk := fun j => if j = i then u else env j
        have hset : ∀ j, (listed.setIfInBounds i true).getD j false = (decide (j = i) || listed.getD j false) := by
          intro j
          by_cases hji : j = i
          · subst hji; simp [his]
          · rw [getD_set_ne false (Ne.symm hji)]; simp [hji]
        have henv : ∀ (l : List Oper) (ss : List Spec) (k : Nat) (a : Act), fillD env (fun j => listed.getD j false) l ss k a = fillD env' (fun j => listed.getD j false) l ss k a := by
          intro l
          induction l with
          | nil => intro ss k a; simp [fillD]
          | cons o r ihl => intro ss k a; cases ss with
            | nil => simp [fillD]
            | cons s ss =>
              simp only [fillD]
              by_cases hki : k = i
              · subst hki
                rw [if_neg (by rw [hun]; simp), if_neg (by rw [hun]; simp)]
                exact ihl _ _ _
              · have : env' k = env k := if_neg hki
                rw [this]
                exact ihl _ _ _
        refine ih _ _ w2 env' (by simpa using hsz) ?_ (hw.trans hx) ?_ (fun j s' hj hs' => ?_) (fun j p hp hj e he hbd => ?_)
        · have hc : (listed.setIfInBounds i true).toList.countP (fun x => x) = listed.toList.countP (fun x => x) + 1 := by
            have hi' : i < listed.toList.length := by simpa using his
            simp only [Array.toList_setIfInBounds]
            rw [List.countP_set (h := hi')]
            have : listed.toList[i] = false := by
              have := hun
              simp [his] at this
              simpa using this
            rw [this]
            simp
          rw [hc]
          omega
        · rw [hb, henv]
          refine act_ext (by rw [put_defers, fillD_defers, fillD_defers]) fun t => ?_
          by_cases hdt : o.dst = some t
          · rw [hdt, put_eq, fillD_size]
            rw [fillD_at (env := env') l ss 0 a i o s ho hs hdt (by rw [Nat.zero_add, hset]; simp) (fun j p hp hji => by
              intro hpd
              have h2 := (parOk_pair hok ho' (by rw [hops]; exact hp) hji hpd).1
              exact h2 hdt)]
            simp only [Nat.zero_add]
            have : env' i = u := if_pos rfl
            rw [this]
          · rw [put_ne _ _ _ _ hdt]
            refine fillD_agree l ss 0 a a rfl rfl fun j p hp hpt => ?_
            rw [Nat.zero_add, hset]
            by_cases hji : j = i
            · subst hji; rw [ho] at hp; cases hp; exact absurd hpt hdt
            · simp [hji]
        · rw [hset] at hj
          by_cases hji : j = i
          · subst hji
            rw [hs] at hs'
            cases hs'
            have : env' j = u := if_pos rfl
            rw [this]
            exact hfu2
          · have : env' j = env j := if_neg hji
            rw [this]
            exact s'.mono _ _ _ hx (hf j s' (by simpa [hji] using hj) hs')
        · rw [hset] at hj ⊢
          by_cases hji : j = i
          · subst hji
            rw [ho] at hp
            cases hp
            rw [hall e he hbd]
            simp
          · rw [hcl j p hp (by simpa [hji] using hj) e he hbd]
            simp
      -- the step
      unfold wpOp
      simp only [ho']
      unfold StepAt at hst
      rw [hwan]
      split
      · rename_i hw'
        rw [if_pos hw'] at hst
        rcases hst (fun a' w' => ∃ v, a' = (fillD env (fun j => decide (j < i)) l ss 0 a).put o.dst v ∧ ∃ u, v = s.shape u ∧ s.fact u w' ∧ Ext w1 w') (fun u w' h1 h2 => ⟨_, rfl, u, rfl, h1, h2⟩) with hs1 | hs1
        · refine .inl (Oper.wp_mono (fun a' w' hh => ?_) (wp_frame hexe (fun d hd => by rw [fillD_size]; exact inb i o ho d hd) hs1))
          obtain ⟨v, rfl, u, rfl, h1, h2⟩ := hh
          exact next u w' h1 h2
        · refine .inr ⟨?_, hs1.2⟩
          have := hs1.1
          unfold Oper.asks at this ⊢
          rw [hexe]
          exact this
      · rename_i hw'
        rw [if_neg hw'] at hst
        obtain ⟨u, hu, h1⟩ := hst
        rw [← hu]
        exact next u w1 h1 (Ext.refl _)
  refine key l.toArray.size _ a _ (fun _ => default) (by simp) (by simp) (Ext.drew w) ?_ (fun j s hj => ?_) (fun j o _ hj => ?_)
  · have hnone : ∀ (m : List Oper) (ss : List Spec) (k : Nat) (a : Act), fillD (fun _ => default) (fun j => (Array.replicate l.toArray.size false).getD j false) m ss k a = a := by
      intro m
      induction m with
      | nil => intro ss k a; simp [fillD]
      | cons o r ih => intro ss k a; cases ss with
        | nil => simp [fillD]
        | cons s ss =>
          simp only [fillD]
          rw [if_neg (by simp [Array.getElem?_replicate]; split <;> simp)]
          exact ih ss (k + 1) a
    exact (hnone l ss 0 a).symm
  · exfalso
    simp [Array.getElem?_replicate] at hj
    split at hj <;> simp at hj
  · exfalso
    simp [Array.getElem?_replicate] at hj
    split at hj <;> simp at hj
end

/-! ### The steps, one an operation -/
section
variable {P : Program} {ops : Array Oper} {Q : Exit → Act → World → Prop} {w0 : World} {o : Oper} {r : List Oper} {ss : List Spec} {fs : List (World → Prop)} {a : Act}
/-- An operation whose value is known. -/
theorem par_det {e : Value} (hw : Region.wanted o (yielded ops a.tmps) = true)
    (h : ∀ w, Ext w0 w → (∀ e ∈ o.after.toList, Region.binds .any e = true → (fs.getD e.on (fun _ => True)) w) → ∀ K : Act → World → Prop, (∀ w', Ext w w' → K (a.put o.dst e) w') → o.wp P a w K (NoPanic Q))
    (hr : ParSteps P ops Q w0 r ss (fs ++ [fun _ => True]) (a.put o.dst e)) : ParSteps P ops Q w0 (o :: r) (Spec.det e :: ss) fs a :=
  ⟨fun w hx hf => by unfold StepAt; rw [if_pos hw]; exact fun K hK => .inl (h w hx hf K fun w' h2 => hK default w' trivial h2), fun _ => hr⟩
/-- The same, where what went before it need not be known. -/
theorem par_val {e : Value} (hw : Region.wanted o (yielded ops a.tmps) = true)
    (h : ∀ w, Ext w0 w → ∀ K : Act → World → Prop, (∀ w', Ext w w' → K (a.put o.dst e) w') → o.wp P a w K (NoPanic Q))
    (hr : ParSteps P ops Q w0 r ss (fs ++ [fun _ => True]) (a.put o.dst e)) : ParSteps P ops Q w0 (o :: r) (Spec.det e :: ss) fs a :=
  par_det hw (fun w hx _ => h w hx) hr
/-- An operation that is passed over. -/
theorem par_skip (hw : Region.wanted o (yielded ops a.tmps) = false) (hr : ParSteps P ops Q w0 r ss (fs ++ [fun _ => True]) (a.put o.dst undef)) :
    ParSteps P ops Q w0 (o :: r) (Spec.det undef :: ss) fs a :=
  ⟨fun w _ _ => by unfold StepAt; rw [if_neg (by rw [hw]; simp)]; exact ⟨default, rfl, trivial⟩, fun _ => hr⟩
/-- An operation whose value holds something unknown. -/
theorem par_unk {s : Spec} (hw : Region.wanted o (yielded ops a.tmps) = true)
    (h : ∀ w, Ext w0 w → (∀ e ∈ o.after.toList, Region.binds .any e = true → (fs.getD e.on (fun _ => True)) w) → ∀ K : Act → World → Prop, (∀ u w', s.fact u w' → Ext w w' → K (a.put o.dst (s.shape u)) w') → o.wp P a w K (NoPanic Q))
    (hr : ∀ u, ParSteps P ops Q w0 r ss (fs ++ [s.fact u]) (a.put o.dst (s.shape u))) : ParSteps P ops Q w0 (o :: r) (s :: ss) fs a :=
  ⟨fun w hx hf => by unfold StepAt; rw [if_pos hw]; exact fun K hK => .inl (h w hx hf K hK), hr⟩
theorem par_nil (h : ∀ w, Ext w0 w → (∀ f ∈ fs, f w) → Q .normal a w) : ParSteps P ops Q w0 [] [] fs a := by
  simpa [ParSteps] using h
end
/-! ### The same with a parting of cases: what is left of every operation may hang on the case. -/
section
variable {P : Program} {ops : Array Oper} {Q : Exit → Act → World → Prop} {w0 : World} {o : Oper} {r : List Oper} {fs : List (World → Prop)} {a : Act}
def ParAny (P : Program) (ops : Array Oper) (Q : Exit → Act → World → Prop) (w0 : World) (l : List Oper) (fs : List (World → Prop)) (a : Act) : Prop := ∃ ss, ParSteps P ops Q w0 l ss fs a
theorem pe_val {e : Value} (hw : Region.wanted o (yielded ops a.tmps) = true)
    (h : ∀ w, Ext w0 w → ∀ K : Act → World → Prop, (∀ w', Ext w w' → K (a.put o.dst e) w') → o.wp P a w K (NoPanic Q))
    (hr : ParAny P ops Q w0 r (fs ++ [fun _ => True]) (a.put o.dst e)) : ParAny P ops Q w0 (o :: r) fs a := by
  obtain ⟨ss, hs⟩ := hr
  exact ⟨_, par_val hw h hs⟩
theorem pe_skip (hw : Region.wanted o (yielded ops a.tmps) = false) (hr : ParAny P ops Q w0 r (fs ++ [fun _ => True]) (a.put o.dst undef)) : ParAny P ops Q w0 (o :: r) fs a := by
  obtain ⟨ss, hs⟩ := hr
  exact ⟨_, par_skip hw hs⟩
theorem pe_split {b want : Bool} {j : Nat} (_hg : o.guard = some (j, want)) (_hb : yielded ops a.tmps j = some b) (ht : b = true → ParAny P ops Q w0 (o :: r) fs a) (hf : b = false → ParAny P ops Q w0 (o :: r) fs a) :
    ParAny P ops Q w0 (o :: r) fs a := by
  cases b
  · exact hf rfl
  · exact ht rfl
theorem pe_nil (h : ∀ w, Ext w0 w → Q .normal a w) : ParAny P ops Q w0 [] fs a := ⟨[], par_nil fun w hx _ => h w hx⟩
theorem pe_of {ss : List Spec} {l : List Oper} (h : ParSteps P ops Q w0 l ss fs a) : ParAny P ops Q w0 l fs a := ⟨ss, h⟩
theorem wp_region_pe {id : Nat} {l : List Oper} {a : Act} {w : World} (hm : P.follows .mixedOrders = true) (hok : parOk l.toArray = true)
    (hin : (l.all fun o => match o.dst with | some d => decide (d < a.tmps.size) | none => true) = true)
    (h : ParAny P l.toArray Q w l [] a) : (Code.region id l.toArray true).wp P Q a w := by
  obtain ⟨ss, hs⟩ := h
  exact wp_region_par hm hok hin hs
end
/-! ### A region whose order is fixed, by the same steps -/
section
variable {P : Program} {Q : Exit → Act → World → Prop}
theorem list_of_par {ops : Array Oper} {w0 : World} : ∀ (l : List Oper) (ss : List Spec) (fs : List (World → Prop)) (a : Act), ParSteps P ops Q w0 l ss fs a →
    (∀ f ∈ fs, ∀ w w', Ext w w' → f w → f w') → ∀ w, Ext w0 w → (∀ f ∈ fs, f w) → wpList P ops (NoPanic Q) l a w
  | [], _, _, _, h, _, w, hw, hf => wpList_nil (h w hw hf)
  | _ :: _, [], _, _, h, _, _, _, _ => h.elim
  | o :: r, s :: ss, fs, a, h, hm, w, hw, hf => by
    have hst := h.1 w hw (fun e _ _ => by
      cases hg : fs[e.on]? with
      | none => simp [hg]
      | some f => simp only [List.getD_eq_getElem?_getD, hg, Option.getD_some]; exact hf f (List.mem_of_getElem? hg))
    have next : ∀ u w', s.fact u w' → Ext w w' → wpList P ops (NoPanic Q) r (a.put o.dst (s.shape u)) w' := fun u w' h1 h2 =>
      list_of_par r ss _ _ (h.2 u) (fun f hm' => by
        rcases List.mem_append.1 hm' with hm' | hm'
        · exact hm f hm'
        · simp only [List.mem_singleton] at hm'; subst hm'; exact fun w w' => s.mono u w w') w' (hw.trans h2) (fun f hm' => by
        rcases List.mem_append.1 hm' with hm' | hm'
        · exact hm f hm' w w' h2 (hf f hm')
        · simp only [List.mem_singleton] at hm'; subst hm'; exact h1)
    unfold wpList
    unfold StepAt at hst
    split
    · rename_i hwa
      rw [if_pos hwa] at hst
      exact hst _ next
    · rename_i hwa
      rw [if_neg hwa] at hst
      obtain ⟨u, hu, h1⟩ := hst
      rw [← hu]
      exact next u w h1 (Ext.refl _)
theorem wp_region_seq {id : Nat} {l : List Oper} {a : Act} {w : World} {ss : List Spec} (h : ParSteps P l.toArray Q w l ss [] a) : (Code.region id l.toArray false).wp P Q a w :=
  wp_region_noPanic (wp_region_lit (list_of_par l ss [] a h (by simp) w (Ext.refl _) (by simp)))
end

/-! ### Operations that are carried out only if a test says so: what they leave is written with the test, and no cases are parted -/
/-- The value if it was reckoned. -/
def G (c : Bool) (v : Value) : Value := if c then v else undef
theorem G_true (v : Value) : G true v = v := rfl
theorem G_false (v : Value) : G false v = undef := rfl
theorem GS : (∀ v, G true v = v) ∧ (∀ v, G false v = undef) ∧ (∀ b, (true && b) = b) ∧ (∀ b, (b && true) = b) ∧ (∀ b, (false && b) = false) ∧ (∀ b, (b && false) = false) ∧ ((!true) = false) ∧ ((!false) = true) ∧ (decide True = true) ∧ (decide False = false) ∧
    (∀ b, (true || b) = true) ∧ (∀ b, (b || true) = true) ∧ (∀ b, (false || b) = b) ∧ (∀ b, (b || false) = b) ∧ (∀ b, (!!b) = b) := by
  refine ⟨fun _ => rfl, fun _ => rfl, ?_, ?_, ?_, ?_, rfl, rfl, by simp, by simp, ?_, ?_, ?_, ?_, ?_⟩ <;> intro b <;> cases b <;> rfl
section
variable {P : Program} {ops : Array Oper} {Q : Exit → Act → World → Prop} {w0 : World} {o : Oper} {r : List Oper} {ss : List Spec} {fs : List (World → Prop)} {a : Act}
theorem par_c {e : Value} {c : Bool} (hw : Region.wanted o (yielded ops a.tmps) = c)
    (h : c = true → ∀ w, Ext w0 w → ∀ K : Act → World → Prop, (∀ w', Ext w w' → K (a.put o.dst e) w') → o.wp P a w K (NoPanic Q))
    (hr : ParSteps P ops Q w0 r ss (fs ++ [fun _ => True]) (a.put o.dst (G c e))) : ParSteps P ops Q w0 (o :: r) (Spec.det (G c e) :: ss) fs a := by
  cases c
  · exact par_skip hw hr
  · exact par_val hw (h rfl) hr
def boolOf : Value → Option Bool
  | .bool b => some b
  | _ => none
theorem wanted_at {j : Nat} {want c : Bool} {v : Value} (hg : o.guard = some (j, want)) (hy : ((ops[j]?).bind (·.dst)).bind (a.tmps[·]?) = some v)
    (hc : boolOf v = some want ↔ c = true) : Region.wanted o (yielded ops a.tmps) = c := by
  unfold Region.wanted yielded
  rw [hg]
  simp only
  rw [hy, Bool.eq_iff_iff]
  simp only [beq_iff_eq]
  rw [← hc]
  cases v <;> rfl
theorem par_ct {e : Value} {b : Bool} {j : Nat} (hg : o.guard = some (j, true)) (hy : ((ops[j]?).bind (·.dst)).bind (a.tmps[·]?) = some (.bool b))
    (h : b = true → ∀ w, Ext w0 w → ∀ K : Act → World → Prop, (∀ w', Ext w w' → K (a.put o.dst e) w') → o.wp P a w K (NoPanic Q))
    (hr : ParSteps P ops Q w0 r ss (fs ++ [fun _ => True]) (a.put o.dst (G b e))) : ParSteps P ops Q w0 (o :: r) (Spec.det (G b e) :: ss) fs a :=
  par_c (wanted_at hg hy (by simp [boolOf])) h hr
theorem par_cf {e : Value} {b : Bool} {j : Nat} (hg : o.guard = some (j, false)) (hy : ((ops[j]?).bind (·.dst)).bind (a.tmps[·]?) = some (.bool b))
    (h : b = false → ∀ w, Ext w0 w → ∀ K : Act → World → Prop, (∀ w', Ext w w' → K (a.put o.dst e) w') → o.wp P a w K (NoPanic Q))
    (hr : ParSteps P ops Q w0 r ss (fs ++ [fun _ => True]) (a.put o.dst (G (!b) e))) : ParSteps P ops Q w0 (o :: r) (Spec.det (G (!b) e) :: ss) fs a :=
  par_c (wanted_at hg hy (by simp [boolOf])) (fun hb => h (by simpa using hb)) hr
theorem par_gt {e : Value} {d b : Bool} {j : Nat} (hg : o.guard = some (j, true)) (hy : ((ops[j]?).bind (·.dst)).bind (a.tmps[·]?) = some (G d (.bool b)))
    (h : d = true → b = true → ∀ w, Ext w0 w → ∀ K : Act → World → Prop, (∀ w', Ext w w' → K (a.put o.dst e) w') → o.wp P a w K (NoPanic Q))
    (hr : ParSteps P ops Q w0 r ss (fs ++ [fun _ => True]) (a.put o.dst (G (d && b) e))) : ParSteps P ops Q w0 (o :: r) (Spec.det (G (d && b) e) :: ss) fs a :=
  par_c (wanted_at hg hy (by cases d <;> simp [G, undef, boolOf])) (fun hb => by rw [Bool.and_eq_true] at hb; exact h hb.1 hb.2) hr
theorem par_gf {e : Value} {d b : Bool} {j : Nat} (hg : o.guard = some (j, false)) (hy : ((ops[j]?).bind (·.dst)).bind (a.tmps[·]?) = some (G d (.bool b)))
    (h : d = true → b = false → ∀ w, Ext w0 w → ∀ K : Act → World → Prop, (∀ w', Ext w w' → K (a.put o.dst e) w') → o.wp P a w K (NoPanic Q))
    (hr : ParSteps P ops Q w0 r ss (fs ++ [fun _ => True]) (a.put o.dst (G (d && !b) e))) : ParSteps P ops Q w0 (o :: r) (Spec.det (G (d && !b) e) :: ss) fs a :=
  par_c (wanted_at hg hy (by cases d <;> simp [G, undef, boolOf])) (fun hb => by rw [Bool.and_eq_true] at hb; exact h hb.1 (by simpa using hb.2)) hr
theorem execOp_pick (ρ : Operand → Value) (dst : Option Tmp) (c x y : Operand) (ty : TypeId) (pos : String) (after : Array Edge) (guard : Option (Nat × Bool)) (b : Bool) (h : ρ c = .bool b) (w : World) :
    (execOp ρ { dst, op := .pick c x y, type := ty, pos, after, guard }).run P w = .ok (.value (if b then ρ x else ρ y)) w := by
  cases b <;> simp [execOp, h, asBool]
/-- 'x && y'. -/
theorem wp_and {w : World} {K : Act → World → Prop} {c x : Operand} {b p : Bool} (ho : o.op = .pick c x (.const (.bool false))) (hc : a.eval c = .bool b) (hx : a.eval x = G b (.bool p))
    (hk : K (a.put o.dst (.bool (b && p))) w) : o.wp P a w K Q := by
  obtain ⟨dst, op, ty, pos, after, guard⟩ := o
  simp only at ho
  subst ho
  unfold Oper.wp
  rw [execOp_pick _ _ _ _ _ _ _ _ _ b hc]
  rw [hx]
  cases b <;> exact hk
/-- 'x || y'. -/
theorem wp_or {w : World} {K : Act → World → Prop} {c y : Operand} {b p : Bool} (ho : o.op = .pick c (.const (.bool true)) y) (hc : a.eval c = .bool b) (hy : a.eval y = G (!b) (.bool p))
    (hk : K (a.put o.dst (.bool (b || p))) w) : o.wp P a w K Q := by
  obtain ⟨dst, op, ty, pos, after, guard⟩ := o
  simp only at ho
  subst ho
  unfold Oper.wp
  rw [execOp_pick _ _ _ _ _ _ _ _ _ b hc]
  rw [hy]
  cases b <;> exact hk
end
/-- Cells in a row hold these values. -/
def RowAt (w : World) (b p : Nat) (cs : List Value) : Prop := ∀ j u, cs[j]? = some u → w.cell? ⟨b, p + j, none⟩ = some u
theorem RowAt.ext {w w' : World} {b p : Nat} {cs : List Value} (h : RowAt w b p cs) (hx : Ext w w') : RowAt w' b p cs := fun j u hu => hx.cell (h j u hu)
theorem RowAt.lt {w : World} {b p : Nat} {c : Value} {cs : List Value} (h : RowAt w b p (c :: cs)) : b < w.heap.size := block_lt_of_cell (a := ⟨b, p + 0, none⟩) (h 0 c rfl)
/-- A slice whose elements have so many cells each. -/
def SlR (w : World) (sz : Nat) (v : Value) (rows : List (List Value)) : Prop :=
  ∃ (A : Option Addr) (c : Nat), v = .slice A rows.length c ∧ rows.length ≤ c ∧ c ≤ 9223372036854775807 ∧ (A = none → c = 0) ∧
    ∀ k r, rows[k]? = some r → r.length = sz ∧ ∃ b o, A = some ⟨b, o, none⟩ ∧ RowAt w b (o + k * sz) r
theorem SlR.ext {w w' : World} {sz : Nat} {v : Value} {rows : List (List Value)} (h : SlR w sz v rows) (hx : Ext w w') : SlR w' sz v rows := by
  obtain ⟨A, c, h1, h2, h3, h0, h4⟩ := h
  exact ⟨A, c, h1, h2, h3, h0, fun k r hr => by
    obtain ⟨g1, b, o, g2, g3⟩ := h4 k r hr
    exact ⟨g1, b, o, g2, g3.ext hx⟩⟩
section
variable {P : Program}
theorem run_loadVar_at (w : World) (b p : Nat) (ty : TypeId) (cs : List Value) (d : TypeDesc) (hr : RowAt w b p cs)
    (hu : P.underlying ty = some d) (hd : (match d with | .struct _ | .array _ _ => true | _ => false) = true) (hi : (P.info? ty).map (·.size) = some cs.length) :
    (loadVar ty ⟨b, p, none⟩).run P w = .ok (.agg cs.toArray) w := by
  have hl : (loadCells ⟨b, p, none⟩ cs.length).run P w = .ok cs.toArray w :=
    run_loadCells_list (P := P) w ⟨b, p, none⟩ cs (fun j v hv => by
      have hadd : (⟨b, p, none⟩ : Addr).add j = ⟨b, p + j, none⟩ := by unfold Addr.add; split <;> simp_all
      rw [hadd]
      exact hr j v hv)
  cases hq : P.info? ty with
  | none => simp [hq] at hi
  | some i =>
    have hs : i.size = cs.length := by simpa [hq] using hi
    have hagg : (isAgg ty).run P w = .ok true w := by
      unfold isAgg
      rw [Sem.run_bind, run_underlying hu w]
      cases d <;> simp_all
    simp [loadVar, Sem.run_bind, hagg, sizeOf, typeInfo, hq, hs, hl]
theorem wp_load_at {o : Oper} {a : Act} {w : World} {K : Act → World → Prop} {Q : Exit → Act → World → Prop} (ty : TypeId) (x : Operand) (b p : Nat) (cs : List Value) (d : TypeDesc) (ho : o.op = .load ty x)
    (hx : a.eval x = .pointer (some ⟨b, p, none⟩)) (hr : RowAt w b p cs) (hu : P.underlying ty = some d) (hd : (match d with | .struct _ | .array _ _ => true | _ => false) = true) (hi : (P.info? ty).map (·.size) = some cs.length)
    (h : K (a.put o.dst (.agg cs.toArray)) w) : o.wp P a w K Q := by
  unfold Oper.wp execOp
  simp only [ho, hx, Instr.loadAt, Instr.sureAddr, Sem.run_bind, Sem.run_pure, Result.andThen_ok, run_loadVar_at w b p ty cs d hr hu hd hi]
  exact h
theorem wpList_load_at {ops : Array Oper} {rest : List Oper} {o : Oper} {a : Act} {w : World} {Q : Exit → Act → World → Prop} (ty : TypeId) (x : Operand) (b p : Nat) (cs : List Value) (d : TypeDesc) (hgd : o.guard = none) (ho : o.op = .load ty x)
    (hx : a.eval x = .pointer (some ⟨b, p, none⟩)) (hr : RowAt w b p cs) (hu : P.underlying ty = some d) (hd : (match d with | .struct _ | .array _ _ => true | _ => false) = true) (hi : (P.info? ty).map (·.size) = some cs.length)
    (h : wpList P ops Q rest (a.put o.dst (.agg cs.toArray)) w) : wpList P ops Q (o :: rest) a w :=
  wpList_plain hgd fun _ hK => wp_load_at ty x b p cs d ho hx hr hu hd hi (hK _ _ h)
end
theorem RowAt.box (w : World) (t : TypeId) (cs : List Value) : RowAt (w.alloc (.cells cs.toArray t)) w.heap.size 0 cs := fun j u hu => by
  rw [cell_of_row _ _ _ _ _ _ (heap_alloc_new w _)]
  simpa using hu
/-- The cells of a row, as a rule. -/
theorem RowAt.rule {w : World} {b : Nat} {cs : List Value} (h : RowAt w b 0 cs) : ∀ j, j < cs.length → w.cell? ⟨b, j, none⟩ = cs[j]? := fun j hj => by
  have := h j cs[j] (by simp [hj])
  rw [Nat.zero_add] at this
  rw [this]
  simp [hj]
theorem RowAt.ruleAt {w : World} {b p : Nat} {cs : List Value} (h : RowAt w b p cs) : ∀ j, j < cs.length → w.cell? ⟨b, p + j, none⟩ = cs[j]? := fun j hj => by
  rw [h j cs[j] (by simp [hj])]
  simp [hj]
theorem RowAt.left {w : World} {b p : Nat} {xs ys : List Value} (h : RowAt w b p (xs ++ ys)) : RowAt w b p xs := fun j u hj => h j u (by
  rw [List.getElem?_append_left (List.getElem?_eq_some_iff.1 hj).1]; exact hj)
theorem RowAt.right {w : World} {b p : Nat} {xs ys : List Value} (h : RowAt w b p (xs ++ ys)) : RowAt w b (p + xs.length) ys := fun j u hj => by
  have := h (xs.length + j) u (by rw [List.getElem?_append_right (by omega)]; simpa using hj)
  rwa [← Nat.add_assoc] at this
end Go.Proofs.YtdopillligfdiaaDoor
