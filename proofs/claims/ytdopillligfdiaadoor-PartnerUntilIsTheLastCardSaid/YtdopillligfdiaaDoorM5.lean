/- Single operations on data: structs and slices written out, parts of slices. -/
import Derived.Test.YtdopillligfdiaaDoorM4
namespace Go.Proofs.YtdopillligfdiaaDoor
set_option linter.unusedSimpArgs false
set_option linter.unusedVariables false
open Go.RowKit

/-- Cells in a row that nobody writes. -/
structure CR (lim : Nat → Option Nat) (w : World) (us : List Value) (ds : List D) : Prop where
  len : us.length = ds.length
  one : ∀ u : Value, u ∈ us → u.oneCell' = true
  fz : ∀ (j : Nat) (d : D) (u : Value), ds[j]? = some d → us[j]? = some u → Fz lim w u d
theorem CR.of {S : Sig} {w : World} {q : Place} {v : Value} {d : D} {cs : List D} (h : Rep S w q v d) (hc : d.cellsOf = some cs) : CR S.lim w v.cells.toList cs := by
  obtain ⟨h1, h2, h3⟩ := Fz.cells h hc
  exact ⟨h1, h2, h3⟩
theorem CR.append {lim : Nat → Option Nat} {w : World} {us vs : List Value} {ds es : List D} (h : CR lim w us ds) (k : CR lim w vs es) : CR lim w (us ++ vs) (ds ++ es) := by
  refine ⟨by simp [h.len, k.len], fun u hu => ?_, fun j d u hd hu => ?_⟩
  · rcases List.mem_append.1 hu with hu | hu
    · exact h.one u hu
    · exact k.one u hu
  · by_cases hj : j < ds.length
    · rw [List.getElem?_append_left hj] at hd
      rw [List.getElem?_append_left (by rw [h.len]; exact hj)] at hu
      exact h.fz j d u hd hu
    · rw [List.getElem?_append_right (by omega)] at hd
      rw [List.getElem?_append_right (by rw [h.len]; omega), h.len] at hu
      exact k.fz _ d u hd hu
theorem CR.take {lim : Nat → Option Nat} {w : World} {us : List Value} {ds : List D} (h : CR lim w us ds) (n : Nat) : CR lim w (us.take n) (ds.take n) := by
  refine ⟨by simp [h.len], fun u hu => h.one u (List.mem_of_mem_take hu), fun j d u hd hu => ?_⟩
  rw [List.getElem?_take] at hd hu
  split at hd
  · rename_i hj
    rw [if_pos hj] at hu
    exact h.fz j d u hd hu
  · cases hd
theorem CR.drop {lim : Nat → Option Nat} {w : World} {us : List Value} {ds : List D} (h : CR lim w us ds) (n : Nat) : CR lim w (us.drop n) (ds.drop n) := by
  refine ⟨by simp [h.len], fun u hu => h.one u (List.mem_of_mem_drop hu), fun j d u hd hu => ?_⟩
  rw [List.getElem?_drop] at hd hu
  exact h.fz _ d u hd hu
theorem CR.agg {lim : Nat → Option Nat} {w : World} {us : List Value} {ds : List D} (h : CR lim w us ds) : Fz lim w (.agg us.toArray) (.agg ds) := .agg us h.len h.one h.fz
/-- The zero of a type. -/
def zeroD (zc : List Value) : List D := zc.map ofVal
theorem CR.zero {lim : Nat → Option Nat} {w : World} {zc : List Value} (h : zc.all Value.oneCell' = true) : CR lim w zc (zeroD zc) := by
  have h1 : ∀ u : Value, u ∈ zc → u.oneCell' = true := fun u hu => List.all_eq_true.1 h u hu
  refine ⟨by simp [zeroD], h1, fun j d u hd hu => ?_⟩
  rw [zeroD, List.getElem?_map, hu] at hd
  cases hd
  refine ofVal_rep u fun cs hc => ?_
  have := h1 u (List.mem_of_getElem? hu)
  rw [hc] at this
  cases this
def fillR (pl : List (Nat × Nat)) : List D → List (Nat × Option (List D)) → Option (List D)
  | cells, [] => some cells
  | cells, (i, some cs) :: r => match pl[i]? with
    | some (off, sz) => if cs.length = sz ∧ off + sz ≤ cells.length then fillR pl (cells.take off ++ cs ++ cells.drop (off + sz)) r else none
    | none => none
  | _, (_, none) :: _ => none
theorem fillR_sound {S : Sig} {w : World} {pl : List (Nat × Nat)} : ∀ (vals : List (Nat × Value)) (parts : List (Nat × Option (List D))) (cells : List Value) (cellsD cs : List D), fillR pl cellsD parts = some cs → CR S.lim w cells cellsD →
    vals.length = parts.length → (∀ (j : Nat) (x : Nat × Value) (y : Nat × Option (List D)), vals[j]? = some x → parts[j]? = some y → x.1 = y.1 ∧ ∀ ds, y.2 = some ds → CR S.lim w x.2.cells.toList ds) → ∃ us, fillL pl cells vals = some us ∧ CR S.lim w us cs
  | [], [], cells, cellsD, cs, h, hc, _, _ => by
    simp only [fillR, Option.some.injEq] at h
    subst h
    exact ⟨cells, rfl, hc⟩
  | (i, v) :: vals, (i', none) :: parts, _, _, _, h, _, _, _ => by simp [fillR] at h
  | (i, v) :: vals, (i', some ds) :: parts, cells, cellsD, cs, h, hc, hl, hr => by
    obtain ⟨rfl, h1⟩ := hr 0 _ _ rfl rfl
    have hds := h1 ds rfl
    simp only [fillR] at h
    cases hp : pl[i]? with
    | none => rw [hp] at h; cases h
    | some x =>
      obtain ⟨off, sz⟩ := x
      rw [hp] at h
      simp only at h
      split at h
      · rename_i hcnd
        obtain ⟨us, k1, k2⟩ := fillR_sound vals parts (cells.take off ++ v.cells.toList ++ cells.drop (off + sz)) _ cs h (((hc.take off).append hds).append (hc.drop (off + sz))) (by simpa using hl) (fun j x y hx hy => hr (j + 1) x y (by simpa using hx) (by simpa using hy))
        refine ⟨us, ?_, k2⟩
        simp only [fillL, hp]
        rw [if_pos ⟨by rw [hds.len]; exact hcnd.1, by rw [hc.len]; exact hcnd.2⟩]
        exact k1
      · cases h
def sequ : List (Option (List D)) → Option (List (List D))
  | [] => some []
  | none :: _ => none
  | some x :: r => (sequ r).map (x :: ·)
theorem sequ_spec : ∀ (l : List (Option (List D))) (rows : List (List D)), sequ l = some rows → rows.length = l.length ∧ ∀ (j : Nat) (r : List D), rows[j]? = some r → l[j]? = some (some r)
  | [], rows, h => by cases h; exact ⟨rfl, fun j r h => by simp at h⟩
  | none :: _, rows, h => by cases h
  | some x :: l, rows, h => by
    simp only [sequ, Option.map_eq_some_iff] at h
    obtain ⟨rows', h1, rfl⟩ := h
    obtain ⟨k1, k2⟩ := sequ_spec l rows' h1
    refine ⟨by simp [k1], fun j r hr => ?_⟩
    cases j with
    | zero => cases hr; rfl
    | succ j => simpa using k2 j r (by simpa using hr)
section
variable {P : Program} {dst : Option Tmp} {ty : TypeId} {pos : String} {after : Array Edge} {guard : Option (Nat × Bool)} {ρ : Operand → D}
theorem ok_build {t : TypeId} {pl : List (Nat × Nat)} {zc : List Value} [TStruct P t pl] [TZer P t zc] {parts : Array (Nat × Operand)} {cs : List D} (hz : zc.all Value.oneCell' = true) (hf : fillR pl (zeroD zc) (parts.toList.map fun x => (x.1, (ρ x.2).cellsOf)) = some cs) :
    OpOk P (Oper.mk dst (.build t parts) ty pos after guard) ρ (.agg cs) :=
  .still fun S w a _ hr => by
    obtain ⟨us, h1, h2⟩ := fillR_sound (S := S) (w := w) (parts.toList.map fun x => (x.1, a.eval x.2)) _ zc (zeroD zc) cs hf (CR.zero hz) (by simp) (fun j x y hx hy => by
      rw [List.getElem?_map] at hx hy
      cases hp : parts.toList[j]? with
      | none => rw [hp] at hx; cases hx
      | some z =>
        rw [hp] at hx hy
        cases hx; cases hy
        refine ⟨rfl, fun ds hd => ?_⟩
        obtain ⟨q, h⟩ := hr z.2 (by simp only [Op.operands, List.mem_map]; exact ⟨z, List.mem_of_getElem? hp, rfl⟩)
        exact CR.of h hd)
    refine ⟨_, .fz h2.agg, fun K Q hk => ?_⟩
    have := r_build (P := P) (dst := dst) (ty := ty) (pos := pos) (after := after) (guard := guard) (Q := Q) (t := t) (parts := parts.toList) rfl h1 hk
    simpa using this
/-- A slice written out: nobody else has its block. -/
theorem ok_buildSlice {t e n m : Nat} {zc : List Value} [TSlice P t e] [TSize P e n] [TZer P e zc] {parts : Array (Nat × Operand)} {rows : List (List D)} (hi : parts.toList.map (·.1) = List.range m) (hr0 : sequ (parts.toList.map fun x => (ρ x.2).cellsOf) = some rows)
    (hn : (rows.all fun r => r.length == n) = true) (hz : (decide (0 < n) && decide (m * n ≤ 16777216)) = true) : OpOk P (Oper.mk dst (.buildSlice t m parts) ty pos after guard) ρ (.sl 2 n rows) := by
  intro S w a p hw hr K Q hK
  have hlen : parts.toList.length = m := by have := congrArg List.length hi; simpa using this
  have hp : parts = ((parts.toList.map (·.2)).zipIdx.map fun x => (x.2, x.1)).toArray := by
    apply Array.ext'
    simp only []
    apply List.ext_getElem?
    intro j
    rw [List.getElem?_map, List.getElem?_zipIdx, List.getElem?_map]
    cases hj : parts.toList[j]? with
    | none => rfl
    | some x =>
      have h1 : (parts.toList.map (·.1))[j]? = some x.1 := by rw [List.getElem?_map, hj]; rfl
      have hjm : j < m := by rw [← hlen]; exact (List.getElem?_eq_some_iff.1 hj).1
      rw [hi, List.getElem?_range hjm] at h1
      simp only [Option.some.injEq] at h1
      obtain ⟨x1, x2⟩ := x
      simp only at h1
      subst h1
      simp
  have hrl : rows.length = m := by
    have := (sequ_spec _ _ hr0).1
    rw [this, List.length_map, hlen]
  have hcr : ∀ (j : Nat) (x : Nat × Operand) (r : List D), parts.toList[j]? = some x → rows[j]? = some r → CR S.lim w (a.eval x.2).cells.toList r := fun j x r hx hrj => by
    have hc : (ρ x.2).cellsOf = some r := by
      have := (sequ_spec _ _ hr0).2 j r hrj
      rw [List.getElem?_map, hx] at this
      exact Option.some.inj this
    obtain ⟨q, h⟩ := hr x.2 (by simp only [Op.operands, List.mem_map]; exact ⟨x, List.mem_of_getElem? hx, rfl⟩)
    exact CR.of h hc
  have hallD : ∀ r ∈ rows, r.length = n := fun r hr' => by simpa using List.all_eq_true.1 hn r hr'
  let vrows : List (List Value) := (parts.toList.map (·.2)).map fun x => (a.eval x).cells.toList
  have hvl : vrows.length = rows.length := by simp only [vrows, List.length_map, hlen, hrl]
  have hcv : ∀ (j : Nat) (u : List Value) (r : List D), vrows[j]? = some u → rows[j]? = some r → CR S.lim w u r := fun j u r hu hrj => by
    simp only [vrows, List.map_map, List.getElem?_map] at hu
    cases hp : parts.toList[j]? with
    | none => rw [hp] at hu; cases hu
    | some x => rw [hp] at hu; cases hu; exact hcr j x r hp hrj
  have hallV : ∀ u ∈ vrows, u.length = n := fun u hu => by
    obtain ⟨j, hj, rfl⟩ := List.mem_iff_getElem.1 hu
    have hj' : j < rows.length := by omega
    have := (hcv j _ rows[j] (List.getElem?_eq_getElem hj) (List.getElem?_eq_getElem hj')).len
    rw [this]
    exact hallD _ (List.getElem_mem hj')
  refine r_buildSlice (rows := vrows) hp (by simpa using hlen) rfl (by simp [vrows]) (by rw [List.all_eq_true]; intro u hu; simpa using hallV u hu) hz fun g w' hb hx hg => ?_
  let S' : Sig := ⟨fun b => if b = g then some (p, 0) else S.own b, S.loc⟩
  have hpt : PT S w S' w' := ⟨hx, fun b hb' => if_neg (by omega), rfl, fun b x hbx => by
    by_cases hbg : b = g
    · subst hbg; exact hb.lt
    · have : S.own b = some x := by simpa [S', hbg] using hbx
      exact Nat.lt_of_lt_of_le (hw b x this) hx.sizeOf⟩
  refine hK _ S' w' hpt ?_ (fun t ht => by cases ht)
  have hfl : ∀ (l : List (List Value)), (∀ r ∈ l, r.length = n) → l.flatten.length = l.length * n := by
    intro l
    induction l with
    | nil => intro _; simp
    | cons r l ih => intro h; simp only [List.flatten_cons, List.length_append, List.length_cons, h r (by simp), ih (fun q hq => h q (by simp [hq])), Nat.add_mul]; omega
  have hmn : n ≤ m * n ∨ m = 0 := by
    rcases Nat.eq_zero_or_pos m with h | h
    · exact .inr h
    · exact .inl (Nat.le_mul_of_pos_left n h)
  simp only [Bool.and_eq_true, decide_eq_true_eq] at hz
  have hmm : m ≤ m * n := Nat.le_mul_of_pos_right m hz.1
  have ho : OwnAt S' w' p g m 2 n rows vrows.flatten.toArray e := by
    refine ⟨.inr rfl, hb, by omega, by unfold maxLen; omega, by simp only [List.size_toArray]; rw [hfl vrows hallV, hvl, hrl], hallD, by simp [S'], fun k r j d hk hd => ?_⟩
    have hkr : k < rows.length := (List.getElem?_eq_some_iff.1 hk).1
    have hkv : k < vrows.length := by omega
    have hj : j < n := by rw [← hallD r (List.mem_of_getElem? hk)]; exact (List.getElem?_eq_some_iff.1 hd).1
    have hcrk := hcv k vrows[k] r (List.getElem?_eq_getElem hkv) hk
    have hjv : j < vrows[k].length := by rw [hallV _ (List.getElem_mem hkv)]; exact hj
    refine ⟨vrows[k][j], ?_, hcrk.one _ (List.getElem_mem hjv), (hcrk.fz j d _ hd (List.getElem?_eq_getElem hjv)).trans hpt.trans⟩
    have := flat_row hallV k vrows[k] (List.getElem?_eq_getElem hkv) j hj
    simpa [List.getElem?_eq_getElem hjv] using this
  have hfin := Rep.own ho
  rw [hrl] at hfin
  exact hfin
/-! parts of slices -/
/-- A bound of a slice, as a value. -/
def BndV (a : Act) (x : Option Operand) (dflt n : Nat) : Prop := match x with
  | none => n = dflt
  | some o => ∃ k : IntKind, a.eval o = .int k (n : Int)
theorem r_slice_sl {t e sz : Nat} [i : TSlice P t e] [z : TSize P e sz] {x : Operand} {lo hi : Option Operand} {A : Option Addr} {len cap l h : Nat} {Q : Exit → Act → World → Prop} {K : Act → World → Prop} {a : Act} {w : World} (hx : a.eval x = .slice A len cap)
    (hl : BndV a lo 0 l) (hh : BndV a hi len h) (h1 : l ≤ h) (h2 : h ≤ len) (h3 : len ≤ cap)
    (hk : K (a.put dst (.slice (if cap = l then A else A.map (·.add (l * sz))) (h - l) (cap - l))) w) : (Oper.mk dst (.slice t x lo hi none) ty pos after guard).wp P a w K Q := by
  refine wp_run (v := .slice (if cap = l then A else A.map (·.add (l * sz))) (h - l) (cap - l)) ?_ hk
  have hs := run_sizeOf_of (P := P) (w := w) z.sz
  have hb : ∀ (k : IntKind) (n y : Nat) (c : BoundsCode), n ≤ y → (Instr.sliceBound (.int k (n : Int)) y c).run P w = .ok n w := fun k n y c hn => by
    rw [run_sliceBound w k n y c (by omega) (by omega)]
    simp
  cases lo with
  | none =>
    simp only [BndV] at hl
    subst hl
    cases hi with
    | none =>
      simp only [BndV] at hh
      subst hh
      simp [execOp, hx, Instr.sliceAt, Instr.slice, Instr.sliceBounds, run_underlying i.h, hs]
    | some o =>
      obtain ⟨k, hk'⟩ := hh
      simp [execOp, hx, hk', Instr.sliceAt, Instr.slice, Instr.sliceBounds, run_underlying i.h, hs, hb k h cap _ (by omega)]
  | some o' =>
    obtain ⟨k2, hk2⟩ := hl
    cases hi with
    | none =>
      simp only [BndV] at hh
      subst hh
      simp [execOp, hx, hk2, Instr.sliceAt, Instr.slice, Instr.sliceBounds, run_underlying i.h, hs, hb k2 l h _ (by omega)]
    | some o =>
      obtain ⟨k, hk'⟩ := hh
      simp [execOp, hx, hk', hk2, Instr.sliceAt, Instr.slice, Instr.sliceBounds, run_underlying i.h, hs, hb k h cap _ (by omega), hb k2 l h _ (by omega)]
theorem ok_sliceSl {t e sz : Nat} [TSlice P t e] [TSize P e sz] {x : Operand} {lo hi : Option Operand} {rows : List (List D)} {l h : Int} (hx : ρ x = .sl 0 sz rows) (hl : BndOk ρ lo 0 l) (hh : BndOk ρ hi rows.length h) (h0 : 0 ≤ l) (h1 : l ≤ h) (h2 : h ≤ rows.length) : OpOk P (Oper.mk dst (.slice t x lo hi none) ty pos after guard) ρ (.sl 0 sz ((rows.take h.toNat).drop l.toNat)) :=
  .still fun S w a _ hr => by
    obtain ⟨q, hq⟩ := arg hr hx (by simp [Op.operands])
    have hf := D.one_fz hq rfl
    have blo : BndV a lo 0 l.toNat := by
      cases lo with
      | none => simp only [BndOk] at hl; simp only [BndV]; omega
      | some o =>
        obtain ⟨k, hk'⟩ := hl
        exact ⟨k, by rw [Int.toNat_of_nonneg h0]; exact argI hr hk' (by simp [Op.operands])⟩
    have bhi : ∀ n : Nat, n = rows.length → BndV a hi n h.toNat := by
      intro n hn
      cases hi with
      | none => simp only [BndOk] at hh; simp only [BndV]; omega
      | some o =>
        obtain ⟨k, hk'⟩ := hh
        exact ⟨k, by rw [Int.toNat_of_nonneg (by omega)]; exact argI hr hk' (by simp [Op.operands])⟩
    generalize hv : a.eval x = v at hf
    cases hf with
    | slNil =>
      have e1 : h.toNat = 0 := by simp at h2; omega
      have e2 : l.toNat = 0 := by omega
      refine ⟨.slice none 0 0, .fz (by rw [e1, e2]; exact .slNil 0 sz), fun K Q hk => r_slice_sl hv blo (bhi 0 rfl) (by omega) (by omega) (Nat.le_refl _) ?_⟩
      rw [e1, e2]
      simpa using hk
    | slE A =>
      have e1 : h.toNat = 0 := by simp at h2; omega
      have e2 : l.toNat = 0 := by omega
      refine ⟨.slice (some A) 0 0, .fz (by rw [e1, e2]; exact .slE A sz), fun K Q hk => r_slice_sl hv blo (bhi 0 rfl) (by omega) (by omega) (Nat.le_refl _) ?_⟩
      rw [e1, e2]
      simpa using hk
    | @sl b o cap _ _ cv hc hm hrw hcell ih =>
      have hlen : ((rows.take h.toNat).drop l.toNat).length = h.toNat - l.toNat := by simp; omega
      have hat : ∀ (k : Nat) (r : List D), ((rows.take h.toNat).drop l.toNat)[k]? = some r → rows[l.toNat + k]? = some r := fun k r hk => by
        rw [List.getElem?_drop, List.getElem?_take] at hk
        split at hk
        · exact hk
        · cases hk
      by_cases hcl : cap = l.toNat
      · have hnil : (rows.take h.toNat).drop l.toNat = [] := List.eq_nil_of_length_eq_zero (by omega)
        refine ⟨.slice (some ⟨b, o, none⟩) 0 0, .fz (by rw [hnil]; exact .slE _ sz), fun K Q hk => r_slice_sl hv blo (bhi _ rfl) (by omega) (by omega) hc ?_⟩
        rw [if_pos hcl, show h.toNat - l.toNat = 0 by omega, show cap - l.toNat = 0 by omega]
        exact hk
      · refine ⟨.slice (some ⟨b, o + l.toNat * sz, none⟩) ((rows.take h.toNat).drop l.toNat).length (cap - l.toNat), .fz (.sl (fun k j => cv (l.toNat + k) j) (by omega) (by omega) (fun k r hk => hrw _ r (hat k r hk)) (fun k r j d hk hd => ?_) fun k r j d hk hd => ih _ r j d (hat k r hk) hd), fun K Q hk => r_slice_sl hv blo (bhi _ rfl) (by omega) (by omega) hc ?_⟩
        · have := hcell _ r j d (hat k r hk) hd
          rw [Nat.add_mul, ← Nat.add_assoc] at this
          exact this
        · rw [if_neg hcl, ← hlen]
          have ha : (⟨b, o, none⟩ : Addr).add (l.toNat * sz) = ⟨b, o + l.toNat * sz, none⟩ := by unfold Addr.add; split <;> simp_all
          simp only [Option.map_some, ha]
          exact hk
/-! maps -/
/-- A value, if the datum says it wholly. -/
def D.val : D → Option Value
  | .int k n => some (.int k n)
  | .bool b => some (.bool b)
  | .str s => some (.string ⟨s.toArray⟩)
  | .pv v => some v
  | _ => none
def valsOf : List D → Option (List Value)
  | [] => some []
  | d :: ds => match d.val with
    | some v => match valsOf ds with
      | some vs => some (v :: vs)
      | none => none
    | none => none
def D.keyV : D → Option Value
  | .agg cs => match valsOf cs with
    | some vs => some (.agg vs.toArray)
    | none => none
  | d => d.val
theorem val_eq {S : Sig} {w : World} {q : Place} {v u : Value} {d : D} (h : Rep S w q v d) (hd : d.val = some u) : v = u := by
  cases d with
  | int k n => cases hd; exact h.int_inv
  | bool b => cases hd; exact h.bool_inv
  | str s => cases hd; exact h.str_inv
  | pv x => cases hd; exact h.pv_inv
  | _ => cases hd
theorem vals_eq {S : Sig} {w : World} {q : Nat → Place} : ∀ {ds : List D} {vs us : List Value}, valsOf ds = some us → vs.length = ds.length → (∀ (j : Nat) (d : D) (v : Value), ds[j]? = some d → vs[j]? = some v → Rep S w (q j) v d) → vs = us
  | [], [], us, h, _, _ => by cases h; rfl
  | [], _ :: _, _, _, h, _ => by cases h
  | _ :: _, [], _, _, h, _ => by cases h
  | d :: ds, v :: vs, us, h, hl, hr => by
    simp only [valsOf] at h
    split at h
    · rename_i u hu
      split at h
      · rename_i us' hus
        cases h
        rw [val_eq (hr 0 d v rfl rfl) hu, vals_eq (S := S) (w := w) (q := fun j => q (j + 1)) (vs := vs) hus (by simpa using hl) (fun j d v h1 h2 => hr (j + 1) d v (by simpa using h1) (by simpa using h2))]
      · cases h
    · cases h
theorem keyV_eq {S : Sig} {w : World} {q : Place} {v u : Value} {d : D} (h : Rep S w q v d) (hd : d.keyV = some u) : v = u := by
  cases d with
  | agg cs =>
    simp only [D.keyV] at hd
    split at hd
    · rename_i vs hv
      cases hd
      obtain ⟨us, rfl, h1, _, h3⟩ := h.agg_inv
      rw [vals_eq hv h1 h3]
    · cases hd
  | _ => exact val_eq h hd
def ofV1 (v : Value) : D := match v with
  | .agg _ => .any
  | v => ofVal v
theorem ofV1_rep {lim : Nat → Option Nat} {w : World} (v : Value) : Fz lim w v (ofV1 v) := by
  unfold ofV1
  split
  · exact .any _
  · rename_i h; exact ofVal_rep _ h
def lookD (es : List (Value × Value)) (k z : Value) : D := ofV1 ((findV k es).getD z)
theorem ok_makeMap {t k e : Nat} {kd : KD} [TMap P t k e kd] : OpOk P (Oper.mk dst (.makeMap t none) ty pos after guard) ρ (.mp kd []) := by
  intro S w a p hw hr K Q hK
  refine r_makeMap ?_
  let S' : Sig := ⟨fun b => if b = w.heap.size then some (p, 0) else S.own b, S.loc⟩
  have hx : Ext w (w.alloc (.map #[] 0)) := Ext.alloc _ _
  have hh := (MapKept.heap_alloc w (.map #[] 0)).1
  have hpt : PT S w S' (w.alloc (.map #[] 0)) := ⟨hx, fun b hb' => if_neg (by omega), rfl, fun b x hbx => by
    by_cases hbg : b = w.heap.size
    · subst hbg; exact (Array.getElem?_eq_some_iff.1 hh).1
    · have : S.own b = some x := by simpa [S', hbg] using hbx
      exact Nat.lt_of_lt_of_le (hw b x this) hx.sizeOf⟩
  exact hK _ S' _ hpt (.mp (by simp [S']) hh rfl (fun x hx => by cases hx)) (fun t ht => by cases ht)
theorem Rep.mp_inv {S : Sig} {w : World} {p : Place} {v : Value} {kd : KD} {es : List (Value × Value)} (h : Rep S w p v (.mp kd es)) : ∃ b clock ents, v = .map (some b) ∧ S.own b = some (p, 0) ∧ w.heap[b]? = some (.map ents clock) ∧ ents.toList.map pr = es ∧ ∀ x ∈ es, fitK kd x.1 = true := by
  cases h with
  | fz h => cases h
  | mp hb hh he hk => exact ⟨_, _, _, rfl, hb, hh, he, hk⟩
theorem ok_lookup {t k e : Nat} {kd : KD} {z : Value} [TMap P t k e kd] [TZ1 P e z] {x y : Operand} {es : List (Value × Value)} {kv : Value} {r : D} (hx : ρ x = .mp kd es) (hy : (ρ y).keyV = some kv) (hf : fitK kd kv = true) (h : lookD es kv z = r) : OpOk P (Oper.mk dst (.lookup t x y false) ty pos after guard) ρ r :=
  .still fun S w a _ hr => by
    obtain ⟨q, hq⟩ := arg hr hx (by simp [Op.operands])
    obtain ⟨q', hq'⟩ := hr y (by simp [Op.operands])
    obtain ⟨b, clock, ents, hv, _, hh, he, hk⟩ := hq.mp_inv
    subst h
    exact ⟨_, .fz (ofV1_rep _), fun K Q hK => r_lookup hv hh he hk (keyV_eq hq' hy) hf (by simpa [lookV] using hK)⟩
theorem ok_lookupOk {t k e : Nat} {kd : KD} {z : Value} [TMap P t k e kd] [TZ1 P e z] {x y : Operand} {es : List (Value × Value)} {kv : Value} {r : D} {o : Bool} (hx : ρ x = .mp kd es) (hy : (ρ y).keyV = some kv) (hf : fitK kd kv = true) (h : lookD es kv z = r ∧ (findV kv es).isSome = o) : OpOk P (Oper.mk dst (.lookup t x y true) ty pos after guard) ρ (.tup [r, .bool o]) :=
  .still fun S w a _ hr => by
    obtain ⟨q, hq⟩ := arg hr hx (by simp [Op.operands])
    obtain ⟨q', hq'⟩ := hr y (by simp [Op.operands])
    obtain ⟨b, clock, ents, hv, _, hh, he, hk⟩ := hq.mp_inv
    obtain ⟨rfl, rfl⟩ := h
    refine ⟨.tuple [(findV kv es).getD z, .bool (findV kv es).isSome].toArray, .fz (.tup [(findV kv es).getD z, .bool (findV kv es).isSome] rfl fun j d v hd hv => ?_), fun K Q hK => r_lookup hv hh he hk (keyV_eq hq' hy) hf (by simpa [lookV] using hK)⟩
    match j, hd, hv with
    | 0, hd, hv => cases hd; cases hv; exact ofV1_rep _
    | 1, hd, hv => cases hd; cases hv; exact .bool _
    | j + 2, hd, hv => simp at hd
theorem ok_lenMap {t k e : Nat} {kd kd' : KD} [TMap P t k e kd] {x : Operand} {es : List (Value × Value)} (hx : ρ x = .mp kd' es) : OpOk P (Oper.mk dst (.call ⟨.builtin .len, #[x], #[t]⟩) ty pos after guard) ρ (.int .i64 es.length) :=
  .still fun S w a _ hr => by
    obtain ⟨q, hq⟩ := arg hr hx (by simp [Op.operands, Call.operands])
    obtain ⟨b, clock, ents, hv, _, hh, he, hk⟩ := hq.mp_inv
    exact ⟨_, .fz (.int _ _), fun K Q hK => r_lenMap hv hh (by rw [← he, List.length_map] at hK; exact hK)⟩
end
end Go.Proofs.YtdopillligfdiaaDoor
