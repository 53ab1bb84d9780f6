/- Maps whose keys and elements are numbers, texts, truth values or structs of texts: single operations. -/
import Derived.Test.YtdopillligfdiaaDoorM2
import Derived.MapKept
import Derived.WideKeyRuns
namespace Go.Proofs.YtdopillligfdiaaDoor
set_option linter.unusedSimpArgs false
set_option linter.unusedVariables false
open Go.RowKit

/-- A type of keys. -/
def KFact (P : Program) (k : TypeId) : KD → Prop
  | .int q => P.underlying k = some (.int q)
  | .str => P.underlying k = some .string
  | .bool => P.underlying k = some .bool
  | .st ks => TEq P k ks
class TMap (P : Program) (t : TypeId) (k e : outParam TypeId) (kd : outParam KD) : Prop where
  h : P.underlying t = some (.map k e)
  key : KFact P k kd
/-- The zero of a type of one cell. -/
class TZ1 (P : Program) (t : TypeId) (z : outParam Value) : Prop where
  h : (P.info? t).map (·.zero) = some (some z)
theorem fitS_at : ∀ {ks : List Nat} {xs : List Value}, fitS ks xs = true → ks.length = xs.length ∧ ∀ (j k : Nat), ks[j]? = some k → ∃ x, xs[j]? = some x ∧ ((k = 1 ∧ ∃ s, x = .string s) ∨ (k = 2 ∧ ∃ b, x = .bool b))
  | [], [], _ => ⟨rfl, fun j k h => by simp at h⟩
  | 1 :: ks, .string s :: xs, h => by
    obtain ⟨h1, h2⟩ := fitS_at (ks := ks) (xs := xs) h
    refine ⟨by simp [h1], fun j k hj => ?_⟩
    cases j with
    | zero => cases hj; exact ⟨_, rfl, .inl ⟨rfl, s, rfl⟩⟩
    | succ j => exact h2 j k (by simpa using hj)
  | 2 :: ks, .bool b :: xs, h => by
    obtain ⟨h1, h2⟩ := fitS_at (ks := ks) (xs := xs) h
    refine ⟨by simp [h1], fun j k hj => ?_⟩
    cases j with
    | zero => cases hj; exact ⟨_, rfl, .inr ⟨rfl, b, rfl⟩⟩
    | succ j => exact h2 j k (by simpa using hj)
theorem fitS_two : ∀ {ks : List Nat} {xs ys : List Value}, fitS ks xs = true → fitS ks ys = true → fitsV ks xs ys = true ∧ (veqs xs ys = true → xs = ys)
  | [], [], [], _, _ => ⟨rfl, fun _ => rfl⟩
  | 1 :: ks, .string s :: xs, .string u :: ys, h, k => by
    obtain ⟨h1, h2⟩ := fitS_two (ks := ks) (xs := xs) (ys := ys) h k
    refine ⟨by simpa [fitsV] using h1, fun he => ?_⟩
    simp only [veqs, veq, Bool.and_eq_true, beq_iff_eq] at he
    rw [h2 he.2]
    congr 2
    obtain ⟨⟨s⟩⟩ := s
    obtain ⟨⟨u⟩⟩ := u
    simpa using he.1
  | 2 :: ks, .bool s :: xs, .bool u :: ys, h, k => by
    obtain ⟨h1, h2⟩ := fitS_two (ks := ks) (xs := xs) (ys := ys) h k
    refine ⟨by simpa [fitsV] using h1, fun he => ?_⟩
    simp only [veqs, veq, Bool.and_eq_true, beq_iff_eq] at he
    rw [h2 he.2, he.1]
theorem fitS_veqs : ∀ {ks : List Nat} {xs : List Value}, fitS ks xs = true → veqs xs xs = true
  | [], [], _ => rfl
  | 1 :: ks, .string s :: xs, h => by simpa [veqs, veq] using fitS_veqs (ks := ks) (xs := xs) h
  | 2 :: ks, .bool s :: xs, h => by simpa [veqs, veq] using fitS_veqs (ks := ks) (xs := xs) h
theorem bytes_veq (a b : ByteArray) : (a == b) = (a.data.toList == b.data.toList) := by
  rw [Bool.eq_iff_iff, MapKept.bytes_beq]
  obtain ⟨⟨a⟩⟩ := a
  obtain ⟨⟨b⟩⟩ := b
  simp
/-- Equal keys are the same key. -/
theorem keyEq_eq {kd : KD} {a b : Value} (ha : fitK kd a = true) (hb : fitK kd b = true) (h : keyEq a b = true) : a = b := by
  cases kd with
  | int q =>
    cases a <;> try (cases ha; done)
    cases b <;> try (cases hb; done)
    rw [← sameK_eq ha, ← sameK_eq hb]
    simp only [keyEq, veq, beq_iff_eq] at h
    rw [h]
  | str =>
    cases a <;> try (cases ha; done)
    cases b <;> try (cases hb; done)
    simp only [keyEq, veq] at h
    rw [← bytes_veq] at h
    rw [(MapKept.bytes_beq _ _).1 h]
  | bool =>
    cases a <;> try (cases ha; done)
    cases b <;> try (cases hb; done)
    simp only [keyEq, veq, beq_iff_eq] at h
    rw [h]
  | st ks =>
    cases a <;> try (cases ha; done)
    cases b <;> try (cases hb; done)
    have := (fitS_two ha hb).2 h
    congr 1
    exact Array.ext' this
theorem keyEq_self {kd : KD} {a : Value} (ha : fitK kd a = true) : keyEq a a = true := by
  cases kd <;> cases a <;> first | (cases ha; done) | (simp [keyEq, veq]; done) | exact fitS_veqs ha
def pr (e : MapEntry) : Value × Value := (e.key, e.val)
/-- The number of the entry at a key. -/
def findIx (k : Value) : List MapEntry → Nat → Option (Nat × Value)
  | [], _ => none
  | e :: es, i => match keyEq k e.key with
    | true => some (i, e.val)
    | false => findIx k es (i + 1)
theorem findIx_spec (k : Value) : ∀ (l : List MapEntry) (i : Nat), (findIx k l i = none ∧ findV k (l.map pr) = none ∧ (∀ v, putV k v (l.map pr) = l.map pr ++ [(k, v)]) ∧ delV k (l.map pr) = l.map pr) ∨
    ∃ j e, findIx k l i = some (i + j, e.val) ∧ l[j]? = some e ∧ keyEq k e.key = true ∧ findV k (l.map pr) = some e.val ∧ (∀ v, putV k v (l.map pr) = (l.map pr).set j (k, v)) ∧ delV k (l.map pr) = (l.map pr).eraseIdx j
  | [], i => .inl ⟨rfl, rfl, fun _ => rfl, rfl⟩
  | e :: l, i => by
    cases h : keyEq k e.key with
    | true => exact .inr ⟨0, e, by simp [findIx, h], rfl, h, by simp [findV, pr, h], fun v => by simp [putV, pr, h], by simp [delV, pr, h]⟩
    | false =>
      rcases findIx_spec k l (i + 1) with ⟨h1, h2, h3, h4⟩ | ⟨j, e', h1, h2, h3, h4, h5, h6⟩
      · exact .inl ⟨by simp [findIx, h, h1], by simp [findV, pr, h] at h2 ⊢; exact h2, fun v => by have := h3 v; simp [putV, pr, h] at this ⊢; exact this, by simp [delV, pr, h] at h4 ⊢; exact h4⟩
      · exact .inr ⟨j + 1, e', by simp [findIx, h, h1]; omega, by simpa using h2, h3, by simp [findV, pr, h] at h4 ⊢; exact h4, fun v => by have := h5 v; simp [putV, pr, h] at this ⊢; exact this, by simp [delV, pr, h] at h6 ⊢; exact h6⟩
section
variable {P : Program} {w : World} {k : TypeId}
theorem plain_key {kd : KD} {v : Value} (hK : KFact P k kd) (hv : fitK kd v = true) (hn : ∀ ks, kd ≠ .st ks) : ∃ d, P.underlying k = some d ∧ ∀ u, fitK kd u = true → MapKept.IsKey d u := by
  cases kd with
  | int q => exact ⟨_, hK, fun u hu => by cases u <;> first | (cases hu; done) | exact (sameK_eq hu).symm⟩
  | str => exact ⟨_, hK, fun u hu => by cases u <;> first | (cases hu; done) | trivial⟩
  | bool => exact ⟨_, hK, fun u hu => by cases u <;> first | (cases hu; done) | trivial⟩
  | st ks => exact absurd rfl (hn ks)
theorem eq_field {ks : List Nat} {kt : TypeId} (e : TEq P kt ks) {j : Nat} {f : Field} (hj : (P.fieldsOf kt).toList[j]? = some f) : f.name ≠ "_" ∧ f.offset = j ∧ ∃ c, ks[j]? = some c ∧ kindCode (P.underlying f.type) = c := by
  have h := congrArg (fun l => l[j]?) e.h
  simp only [List.getElem?_map, hj, List.getElem?_zipIdx, Option.map_some] at h
  cases hk : ks[j]? with
  | none => rw [hk] at h; cases h
  | some c =>
    rw [hk] at h
    simp only [Option.map_some, Option.some.injEq, Prod.mk.injEq, Nat.zero_add] at h
    exact ⟨by simpa using h.1, h.2.1, c, rfl, h.2.2⟩
theorem check_str {e : TypeId} {s : ByteArray} (h : kindCode (P.underlying e) = 1) (em : Bool) (n : Nat) : (Instr.checkKey em (n + 1) e (.string s)).run P w = .ok () w := by
  cases hu : P.underlying e with
  | none => rw [hu] at h; cases h
  | some t => rw [hu] at h; cases t <;> first | (simp [kindCode] at h; done) | simp [Instr.checkKey, run_underlying hu]
theorem check_bool {e : TypeId} {s : Bool} (h : kindCode (P.underlying e) = 2) (em : Bool) (n : Nat) : (Instr.checkKey em (n + 1) e (.bool s)).run P w = .ok () w := by
  cases hu : P.underlying e with
  | none => rw [hu] at h; cases h
  | some t => rw [hu] at h; cases t <;> first | (simp [kindCode] at h; done) | simp [Instr.checkKey, run_underlying hu]
theorem check_run {kd : KD} {v : Value} (hK : KFact P k kd) (hv : fitK kd v = true) (em : Bool) : (Instr.checkKey em 10000 k v).run P w = .ok () w := by
  cases kd with
  | st ks =>
    have e : TEq P k ks := hK
    cases v <;> try (cases hv; done)
    rename_i cs
    obtain ⟨hl, hat⟩ := fitS_at (show fitS ks cs.toList = true from hv)
    have each : ∀ f ∈ (P.fieldsOf k).toList, f.name ≠ "_" ∧ ∃ a, (part f.type cs f.offset).run P w = .ok a w ∧ (Instr.checkKey em 9999 f.type a).run P w = .ok () w := fun f hf => by
      obtain ⟨j, hj, rfl⟩ := List.mem_iff_getElem.1 hf
      obtain ⟨h1, h2, c, h3, h4⟩ := eq_field e (List.getElem?_eq_getElem hj)
      obtain ⟨x, hx, hc⟩ := hat j c h3
      refine ⟨h1, x, ?_, ?_⟩
      · have hp : ∀ t, P.underlying ((P.fieldsOf k).toList[j]).type = some t → aggDesc t = false → (part ((P.fieldsOf k).toList[j]).type cs ((P.fieldsOf k).toList[j]).offset).run P w = .ok x w := fun t ht ha => by
          have hx' : cs[j]? = some x := by simpa using hx
          unfold part
          rw [Sem.run_bind, run_isAgg_of ht, ha, h2]
          simp [hx']
        cases hu : P.underlying ((P.fieldsOf k).toList[j]).type with
        | none => rw [hu] at h4; simp only [kindCode] at h4; subst h4; rcases hc with ⟨h, _⟩ | ⟨h, _⟩ <;> cases h
        | some t =>
          refine hp t hu ?_
          rw [hu] at h4
          cases t <;> first | rfl | (simp only [kindCode] at h4; subst h4; rcases hc with ⟨h, _⟩ | ⟨h, _⟩ <;> cases h)
      · rcases hc with ⟨rfl, s, rfl⟩ | ⟨rfl, s, rfl⟩
        · exact check_str h4 em 9998
        · exact check_bool h4 em 9998
    rw [show (10000 : Nat) = 9999 + 1 from rfl, Instr.checkKey]
    simp only [Sem.run_bind, run_underlying e.s, Result.andThen_ok]
    rw [← Array.forIn_toList]
    generalize (P.fieldsOf k).toList = L at each
    clear hv hat hl e
    induction L with
    | nil => simp
    | cons f L ih =>
      obtain ⟨hn, a, p1, p2⟩ := each f (by simp)
      simp only [List.forIn_cons, Sem.run_bind, hn, ne_eq, not_false_eq_true, if_true, Result.andThen_ok, p1, p2, Sem.run_pure]
      exact ih (fun y hy => each y (by simp [hy]))
  | _ =>
    obtain ⟨d, hd, hi⟩ := plain_key hK hv (by intro ks h; cases h)
    exact MapKept.run_checkKey hd (hi v hv) em 9999
theorem find_run {kd : KD} {v : Value} (hK : KFact P k kd) (hv : fitK kd v = true) {es : List MapEntry} (hes : ∀ x ∈ es.map pr, fitK kd x.1 = true) : (Instr.findKey k v es).run P w = .ok (findIx v es 0) w := by
  have hes' : ∀ e ∈ es, fitK kd e.key = true := fun e he => hes (pr e) (List.mem_map.2 ⟨e, he, rfl⟩)
  clear hes
  cases kd with
  | st ks =>
    have e : TEq P k ks := hK
    rw [run_findKey_eq w (by rw [e.s])]
    cases v <;> try (cases hv; done)
    rename_i cs
    generalize 0 = i
    induction es generalizing i with
    | nil => simp [Instr.findAsking, findIx]
    | cons x es ih =>
      have hx := hes' x (by simp)
      cases hkx : x.key <;> rw [hkx] at hx <;> try (cases hx; done)
      rename_i ds
      have h1 : (Op.equal k (.agg cs) (.agg ds)).run P w = .ok (veqs cs.toList ds.toList) w := by
        have := struct_eq (P := P) (e := e) k w 9998 cs.toList ds.toList (fitS_two hv hx).1
        exact this
      have h2 : keyEq (.agg cs) x.key = veqs cs.toList ds.toList := by rw [hkx]; rfl
      simp only [Instr.findAsking, findIx, hkx, Sem.run_bind, h1, Result.andThen_ok]
      rw [hkx] at h2
      rw [h2]
      cases veqs cs.toList ds.toList
      · simp only [Bool.false_eq_true, if_false]
        exact ih (fun e he => hes' e (by simp [he])) _
      · simp
  | _ =>
    obtain ⟨d, hd, hi⟩ := plain_key hK hv (by intro ks h; cases h)
    refine MapKept.run_findKey hd ?_
    have key : ∀ u, fitK _ u = true → Instr.sameNow d v u = some (keyEq v u) := fun u hu => by
      obtain ⟨r, h1, h2⟩ := MapKept.sameNow_of_keys (hi v hv) (hi u hu)
      rw [h1]
      congr 1
      rw [Bool.eq_iff_iff, h2]
      exact ⟨fun e => by subst e; exact keyEq_self hv, fun h => keyEq_eq hv hu h⟩
    generalize 0 = i
    induction es generalizing i with
    | nil => rfl
    | cons x es ih =>
      simp only [Instr.findNow, findIx, key x.key (hes' x (by simp))]
      cases keyEq v x.key
      · simp only
        exact ih (fun e he => hes' e (by simp [he])) _
      · rfl
theorem stays_run {kd : KD} {v : Value} (hv : fitK kd v = true) : (Instr.keyThatStays v v).run P w = .ok v w := by
  have h : Instr.sameBits 10000 v v = true := by
    cases kd with
    | st ks =>
      cases v <;> try (cases hv; done)
      rename_i cs
      obtain ⟨hl, hat⟩ := fitS_at (show fitS ks cs.toList = true from hv)
      show Instr.sameBits (9999 + 1) (.agg cs) (.agg cs) = true
      simp only [Instr.sameBits, beq_self_eq_true, Bool.true_and, List.all_eq_true]
      intro p hp
      obtain ⟨i, hi, e⟩ := List.getElem_of_mem hp
      rw [List.getElem_zip] at e
      rw [← e]
      simp only
      have hi' : i < cs.toList.length := by simp at hi; simpa using hi
      obtain ⟨x, hx, hc⟩ := hat i ks[i] (List.getElem?_eq_getElem (by omega))
      rw [List.getElem?_eq_getElem hi'] at hx
      rw [Option.some.inj hx]
      rcases hc with ⟨_, s, rfl⟩ | ⟨_, s, rfl⟩
      · simp only [Instr.sameBits]
        exact (MapKept.bytes_beq _ _).2 rfl
      · simp [Instr.sameBits]
    | int q => cases v <;> first | (cases hv; done) | simp [Instr.sameBits]
    | str => cases v <;> first | (cases hv; done) | (simp only [Instr.sameBits]; exact (MapKept.bytes_beq _ _).2 rfl)
    | bool => cases v <;> first | (cases hv; done) | simp [Instr.sameBits]
  simp [Instr.keyThatStays, h]
end
section
variable {P : Program} {Q : Exit → Act → World → Prop} {K : Act → World → Prop} {a : Act} {w : World} {dst : Option Tmp} {ty : TypeId} {pos : String} {after : Array Edge} {guard : Option (Nat × Bool)}
theorem r_makeMap {t : TypeId} (hk : K (a.put dst (.map (some w.heap.size))) (w.alloc (.map #[] 0))) : (Oper.mk dst (.makeMap t none) ty pos after guard).wp P a w K Q := by
  unfold Oper.wp
  have e : (execOp a.eval (Oper.mk dst (.makeMap t none) ty pos after guard)).run P w = .ok (.value (.map (some w.heap.size))) (w.alloc (.map #[] 0)) := rfl
  rw [e]
  exact hk
/-- What a lookup gives. -/
def lookV (ok : Bool) (z : Value) (r : Option Value) : Value := if ok then .tuple #[r.getD z, .bool r.isSome] else r.getD z
theorem r_lookup {t kt et : TypeId} {kd : KD} [m : TMap P t kt et kd] {z : Value} [hz : TZ1 P et z] {x y : Operand} {ok : Bool} {b clock : Nat} {ents : Array MapEntry} {es : List (Value × Value)} {kv : Value} (hx : a.eval x = .map (some b)) (hh : w.heap[b]? = some (.map ents clock)) (he : ents.toList.map pr = es) (hes : ∀ x ∈ es, fitK kd x.1 = true)
    (hy : a.eval y = kv) (hkv : fitK kd kv = true) (hk : K (a.put dst (lookV ok z (findV kv es))) w) : (Oper.mk dst (.lookup t x y ok) ty pos after guard).wp P a w K Q := by
  subst he
  refine wp_run (v := lookV ok z (findV kv (ents.toList.map pr))) ?_ hk
  have hf := find_run (w := w) m.key hkv hes
  have hzz : (zeroValue et).run P w = .ok z w := by
    have h1 := hz.h
    cases hi : P.info? et with
    | none => rw [hi] at h1; cases h1
    | some inf =>
      rw [hi] at h1
      have h2 : inf.zero = some z := by simpa using h1
      simp [zeroValue, typeInfo, hi, h2]
  have hl : (Instr.lookup t (.map (some b)) kv ok).run P w = .ok (lookV ok z (findV kv (ents.toList.map pr))) w := by
    rcases findIx_spec kv ents.toList 0 with ⟨h1, h2, _⟩ | ⟨j, e, h1, _, _, h4, _⟩
    · rw [h1] at hf
      rw [h2]
      simp [Instr.lookup, run_underlying m.h, MapKept.run_getObj_map hh, check_run m.key hkv, hf, hzz, Result.andThen, lookV]
    · rw [h1] at hf
      rw [h4]
      simp [Instr.lookup, run_underlying m.h, MapKept.run_getObj_map hh, check_run m.key hkv, hf, Result.andThen, lookV]
  simp only [execOp, hx, hy, Sem.run_bind, hl, Result.andThen_ok, Sem.run_pure]
def World.setMap (w : World) (b : Nat) (o : Obj) : World := { w with heap := w.heap.setIfInBounds b o }
theorem r_mapUpdate {t kt et : TypeId} {kd : KD} [m : TMap P t kt et kd] {x y v : Operand} {b clock : Nat} {ents : Array MapEntry} {es : List (Value × Value)} {kv vv : Value} (hx : a.eval x = .map (some b)) (hh : w.heap[b]? = some (.map ents clock)) (he : ents.toList.map pr = es) (hes : ∀ x ∈ es, fitK kd x.1 = true)
    (hy : a.eval y = kv) (hkv : fitK kd kv = true) (hv : a.eval v = vv) (hk : ∀ ents' clock', ents'.toList.map pr = putV kv vv es → K (a.put dst undef) (World.setMap w b (.map ents' clock'))) : (Oper.mk dst (.mapUpdate t x y v) ty pos after guard).wp P a w K Q := by
  subst he
  have hf := find_run (w := w) m.key hkv hes
  have fin : ∀ o, (∃ ents' clock', o = Obj.map ents' clock' ∧ ents'.toList.map pr = putV kv vv (ents.toList.map pr)) → (Instr.mapUpdate t (.map (some b)) kv vv).run P w = .ok () (World.setMap w b o) → (Oper.mk dst (.mapUpdate t x y v) ty pos after guard).wp P a w K Q := by
    rintro o ⟨ents', clock', rfl, h1⟩ h2
    unfold Oper.wp execOp
    simp only [hx, hy, hv, Sem.run_bind, h2, Result.andThen_ok, Sem.run_pure]
    exact hk _ _ h1
  rcases findIx_spec kv ents.toList 0 with ⟨h1, _, h3, _⟩ | ⟨j, e, h1, h2, h3, _, h5, _⟩
  · rw [h1] at hf
    refine fin (.map (ents.push ⟨kv, vv, clock⟩) (clock + 1)) ⟨_, _, rfl, by rw [h3]; simp [pr]⟩ ?_
    simp [Instr.mapUpdate, run_underlying m.h, MapKept.run_getObj_map hh, check_run m.key hkv, hf, MapKept.run_setObj_map _ hh, Result.andThen, World.setMap]
  · rw [h1] at hf
    have hj : ents[j]? = some e := by simpa using h2
    have hek : fitK kd e.key = true := hes (pr e) (List.mem_map.2 ⟨e, List.mem_of_getElem? h2, rfl⟩)
    have hkk : kv = e.key := keyEq_eq hkv hek h3
    refine fin (.map (ents.modify j fun e => { e with key := kv, val := vv }) clock) ⟨_, _, rfl, ?_⟩ ?_
    · rw [h5]
      apply List.ext_getElem?
      intro i
      simp only [List.getElem?_map, Array.getElem?_toList, Array.getElem?_modify, List.getElem?_set, List.length_map, Array.length_toList]
      by_cases hij : j = i
      · subst hij
        have hlt : j < ents.size := (Array.getElem?_eq_some_iff.1 hj).1
        simp [hlt, pr]
      · simp [hij]
    · simp only [Nat.zero_add] at hf
      simp [Instr.mapUpdate, run_underlying m.h, MapKept.run_getObj_map hh, check_run m.key hkv, hf, hj, ← hkk, stays_run hkv, MapKept.run_setObj_map _ hh, Result.andThen, World.setMap]
theorem r_lenMap {t kt et : TypeId} {kd : KD} [m : TMap P t kt et kd] {x : Operand} {b clock : Nat} {ents : Array MapEntry} (hx : a.eval x = .map (some b)) (hh : w.heap[b]? = some (.map ents clock)) (hk : K (a.put dst (.int .i64 ents.toList.length)) w) : (Oper.mk dst (.call ⟨.builtin .len, #[x], #[t]⟩) ty pos after guard).wp P a w K Q := by
  refine wp_run ?_ hk
  have e : (Builtin.len_ #[t] ty #[.map (some b)]).run P w = .ok (.int .i64 ents.size) w := by simp [Builtin.len_, run_underlying m.h, MapKept.run_getObj_map hh, goInt, Result.andThen]
  simp only [execOp, resolve, invoke, builtin, Sem.run_bind, Sem.run_pure, Result.andThen_ok, List.map_toArray, List.map_cons, List.map_nil, hx, e, Array.length_toList]
theorem wp_delete_run {ts : Array TypeId} {xs : Array Operand} {w' : World} {v : Value} (hr : (Builtin.delete_ ts ty (xs.map a.eval)).run P w = .ok v w') (hk : K (a.put dst v) w') : (Oper.mk dst (.call ⟨.builtin .delete, xs, ts⟩) ty pos after guard).wp P a w K Q := by
  unfold Oper.wp execOp
  simp only [resolve, invoke, builtin, Sem.run_bind, Sem.run_pure, Result.andThen_ok, hr]
  exact hk
theorem r_delete {t kt et : TypeId} {kd : KD} [m : TMap P t kt et kd] {ts : Array TypeId} (hts : ts = #[t, kt]) {x y : Operand} {b clock : Nat} {ents : Array MapEntry} {es : List (Value × Value)} {kv : Value} (hx : a.eval x = .map (some b)) (hh : w.heap[b]? = some (.map ents clock)) (he : ents.toList.map pr = es) (hes : ∀ x ∈ es, fitK kd x.1 = true)
    (hy : a.eval y = kv) (hkv : fitK kd kv = true) (hk : ∀ ents' clock', ents'.toList.map pr = delV kv es → K (a.put dst (.tuple #[])) (World.setMap w b (.map ents' clock'))) : (Oper.mk dst (.call ⟨.builtin .delete, #[x, y], ts⟩) ty pos after guard).wp P a w K Q := by
  subst he; subst hts
  have hf := find_run (w := w) m.key hkv hes
  have hxy : (#[x, y] : Array Operand).map a.eval = #[.map (some b), kv] := by simp [hx, hy]
  rcases findIx_spec kv ents.toList 0 with ⟨h1, _, _, h4⟩ | ⟨j, e, h1, h2, h3, _, _, h6⟩
  · rw [h1] at hf
    refine wp_delete_run (v := .tuple #[]) (w' := World.setMap w b (.map ents clock)) ?_ (hk _ _ h4.symm)
    rw [hxy]
    simp [Builtin.delete_, run_underlying m.h, MapKept.run_getObj_map hh, check_run m.key hkv, hf, MapKept.run_setObj_map _ hh, Result.andThen, World.setMap]
  · rw [h1] at hf
    refine wp_delete_run (v := .tuple #[]) (w' := World.setMap w b (.map (ents.eraseIdxIfInBounds j) clock)) ?_ (hk _ _ ?_)
    · rw [hxy]
      simp only [Nat.zero_add] at hf
      simp [Builtin.delete_, run_underlying m.h, MapKept.run_getObj_map hh, check_run m.key hkv, hf, MapKept.run_setObj_map _ hh, Result.andThen, World.setMap]
    · rw [h6]
      have hjs : j < ents.size := (Array.getElem?_eq_some_iff.1 (show ents[j]? = some e by simpa using h2)).1
      unfold Array.eraseIdxIfInBounds
      rw [dif_pos hjs]
      rw [Array.toList_eraseIdx]
      apply List.ext_getElem?
      intro i
      rw [List.getElem?_map, List.getElem?_eraseIdx, List.getElem?_eraseIdx]
      split <;> simp
end
end Go.Proofs.YtdopillligfdiaaDoor
