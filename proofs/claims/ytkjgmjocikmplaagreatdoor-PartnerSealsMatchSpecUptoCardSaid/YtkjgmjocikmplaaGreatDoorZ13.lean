/- The library's contracts on texts, numbers and bytes, as what they do to data. Partners and addresses: plain definitions. Names, bytes, days: the walks. PartnersMatchSpec: the walks. -/
import Derived.Test.YtkjgmjocikmplaaGreatDoorZ5
import Derived.Test.YtkjgmjocikmplaaGreatDoorZ6
import Derived.Test.YtkjgmjocikmplaaGreatDoorZ11
import Derived.Test.YtkjgmjocikmplaaGreatDoorZ7
import Derived.Test.YtkjgmjocikmplaaGreatDoorZ12
import Derived.Lib.AtoiErrMem
import Derived.Shelf.Spec.SlicesGrow
namespace Go.Proofs.YtkjgmjocikmplaaGreatDoor
set_option linter.unusedSimpArgs false
set_option linter.unusedVariables false
open Go.RowKit Go.Sort
set_option maxRecDepth 100000
set_option maxHeartbeats 400000

/-- A call with plain values; the program's variables are there. -/
theorem sem_valsG {P : Program} {f : Nat} [e : Enters P f] {ds : List D} {us : List Value} {d : D} {v : Value} (hv : valsOf ds = some us) (hc : d.calm = true) (hz : ∀ lim w, Fz lim w v d) (h : ∀ (S : Sig) (w : World), GL S w → Calls P f us.toArray w fun e w' => e = .returned v ∧ Below w.heap.size w w') : Sem P f ds d :=
  ⟨e, hc, fun S w vs hw hl hr => by
    obtain rfl := vals_eq (q := fun i => .slot i) hv hl hr
    exact (h S w hw.gl).mono fun e w' ⟨he, hx⟩ => ⟨v, S, he, (PT.ext' hw hx).wf, (PT.ext' hw hx).trans, .fz (hz _ _)⟩⟩
/-- A table that is there. -/
theorem tab_of {P : Program} {name : String} {g : Nat} {k : IntKind} {zs : List Int} (hg : P.globalNamed name = some g) (hG : GB g = some (tabO k zs)) {S : Sig} {w : World} (h : GL S w) : Lib.TabIs P w name k zs := by
  obtain ⟨_, o, h2, e, fz, rfl⟩ := h g _ hG
  unfold Lib.TabIs World.var?
  rw [hg]
  simp [h2]
theorem tab_cell {g : Nat} {k : IntKind} {zs : List Int} (hG : GB g = some (tabO k zs)) {S : Sig} {w : World} (h : GL S w) {i : Nat} {z : Int} (hz : zs[i]? = some z) : w.cell? ⟨g, i, none⟩ = some (.int k z) := by
  obtain ⟨_, o, h2, e, fz, rfl⟩ := h g _ hG
  rw [cell_of_row w g i _ e fz h2]
  simp [hz]
theorem below_grow (w : World) (k : Nat) (os : Array Obj) : Below w.heap.size w (grow (w.drewN k) os) :=
  ⟨rfl, rfl, rfl, by simp [grow, World.drewN], fun b hb => by
    have hb' : b < w.heap.size := hb
    show (w.heap ++ os)[b]? = w.heap[b]?
    rw [Array.getElem?_append_left hb']⟩
theorem itoa_sem (n : Int) (h0 : 0 ≤ n) (h1 : n ≤ 9223372036854775807) : Sem Tryz.prog 22 [.int .i64 n] (.str (Lib.itoa n)) :=
  sem_valsG (us := [.int .i64 n]) (v := .string ⟨(Lib.itoa n).toArray⟩) rfl rfl (fun _ _ => .str _) fun S w hg =>
    (Any.strconv_Itoa Tryz.laysM171 n (by omega) h1 w (tab_of (g := 0) (by kernel_rfl) rfl hg)).mono fun e w' ⟨he, k, os, hw⟩ => ⟨he, by subst hw; exact below_grow _ _ _⟩
theorem atoi_sem (s : Str) (n : Int) (hl : s.length ≤ 18) (h : Lib.atoi s = some n) : Sem Tryz.prog 42 [.str s] (.tup [.int .i64 n, .pv .nilIface]) :=
  sem_valsG (us := [.string ⟨s.toArray⟩]) (v := .tuple #[.int .i64 n, .nilIface]) rfl rfl (fun _ _ => .tup [.int .i64 n, .nilIface] rfl fun j d v hd hv => by
    match j, hd, hv with
    | 0, hd, hv => cases hd; cases hv; exact .int _ _
    | 1, hd, hv => cases hd; cases hv; exact .pv _
    | j + 2, hd, _ => cases hd) fun S w _ =>
    (Tryz.strconv_Atoi ⟨s.toArray⟩ n (by show s.toArray.size ≤ _; simpa using hl) (by simpa using h) w).mono fun e w' ⟨he, t, hw⟩ => ⟨he, by subst hw; exact Lib.bytesWorld_below w _ t⟩
theorem repeat_sem (s : Str) (c : Int) (h0 : 0 ≤ c) (hc : c ≤ 1000000) (hl : s.length ≤ 1000000) : Sem Tryz.prog 14 [.str s, .int .i64 c] (.str (Lib.repeatL s c.toNat)) := by
  obtain ⟨c, rfl⟩ : ∃ n : Nat, c = n := ⟨c.toNat, by omega⟩
  rw [Int.toNat_natCast]
  exact sem_valsG (us := [.string ⟨s.toArray⟩, .int .i64 c]) (v := .string ⟨(Lib.repeatL s c).toArray⟩) rfl rfl (fun _ _ => .str _) fun S w _ => by
    have hm : s.length * c ≤ 1000000 * 1000000 := Nat.mul_le_mul hl (by omega)
    exact Tryz.strings_Repeat ⟨s.toArray⟩ c w (by omega) (by show s.toArray.size * c ≤ _; simp only [List.size_toArray]; omega)
def growRen : Go.Shelf.Ren := ⟨fun | 4 => 55 | n => n, fun | 0 => 0 | 3 => 3 | 4 => 4 | 9 => 9 | 20 => 20 | 22 => 22 | 25 => 5 | n => n, fun n => n⟩
theorem growLays : Go.Proofs.Lays8.n4 Tryz.prog growRen := {
  mixed := by kernel_rfl
  f4 := ⟨Tryz.f55.name, by kernel_rfl, Tryz.func55.trans (congrArg some (by kernel_rfl))⟩
  t0 := Tryz.underlying0
  a0 := Tryz.isAgg0
  z0 := Tryz.sizeOf0
  v0 := Tryz.zeroValue0
  t3 := Tryz.underlying3
  a3 := Tryz.isAgg3
  z3 := Tryz.sizeOf3
  v3 := Tryz.zeroValue3
  t4 := Tryz.underlying4
  a4 := Tryz.isAgg4
  z4 := Tryz.sizeOf4
  v4 := Tryz.zeroValue4
  t9 := Tryz.underlying9
  a9 := Tryz.isAgg9
  z9 := Tryz.sizeOf9
  v9 := Tryz.zeroValue9
  t20 := Tryz.underlying20
  a20 := Tryz.isAgg20
  z20 := Tryz.sizeOf20
  v20 := Tryz.zeroValue20
  t22 := Tryz.underlying22
  a22 := Tryz.isAgg22
  z22 := Tryz.sizeOf22
  v22 := Tryz.zeroValue22 }
theorem grow_sem (n : Nat) (h1 : n ≤ 1000000000) : Sem Tryz.prog 55 [.nil, .int .i64 n] (.sl 2 1 []) := by
  refine ⟨inferInstance, rfl, fun S w vs hw hl hr => ?_⟩
  obtain rfl : vs = [.slice none 0 0, .int .i64 n] := by
    match vs, hl with
    | [v0, v1], _ => rw [(hr 0 _ _ rfl rfl).nil_inv, (hr 1 _ _ rfl rfl).int_inv]
  rcases Nat.eq_zero_or_pos n with rfl | hn
  · refine (Any8.slices_Grow_room growLays none 0 0 0 w (Nat.le_refl _) (by omega) (by omega) (Nat.le_refl _)).mono fun e w' ⟨he, hx⟩ => ?_
    subst hx
    exact ⟨_, S, he, hw, Trans.refl S _, .fz (.slNil 2 1)⟩
  · obtain ⟨inf, z0, k1, k2, k3, k4, k5, k6⟩ := TElem.h (P := Tryz.prog) (e := 5)
    refine (Any8.slices_Grow_grow growLays inf z0 k1 k2 (by omega) none 0 0 n [] w (Nat.le_refl _) (by omega) (by rw [k4]; omega) (by omega) (by simp) (fun _ => rfl) (fun a h => by cases h)).mono fun e w' ⟨he, hx⟩ => ?_
    rw [Nat.zero_add] at he hx
    have hge := grownCap_ge w n 0 (growRen.t 25)
    have hcm : grownCap w n 0 (growRen.t 25) ≤ maxLen := grownCap_le_maxLen w n 0 _ (by unfold maxLen; omega)
    obtain ⟨S', p1, p2, p3⟩ := made_rows (v := .slice (some ⟨w.heap.size, 0, none⟩) 0 (grownCap w n 0 (growRen.t 25))) (sz := 1) (rows := []) (news := []) (t := growRen.t 25) hw (w' := w') (by subst hx; exact (Ext.drew w).trans (Ext.alloc _ _)) (by simp) (by simp) (fun k r j d hk => by simp at hk)
      ⟨by simp, .inr ⟨w.heap.size, _, _, rfl, Nat.le_refl _, by subst hx; exact heap_alloc_new w.drew _, Nat.zero_le _, hcm, by simp only [Array.size_append, size_zeroCells, k5]; simp; omega, by simp⟩⟩
    exact ⟨_, S', he, p1, p2, p3⟩
theorem genSplit_sem (s : Str) (hs : s.length < 4294967281) : Sem Tryz.prog 43 [.str s, .str [32], .int .i64 0, .int .i64 (-1)] (.sl 2 1 ((words s).map fun x => [.str x])) := by
  refine ⟨inferInstance, rfl, fun S w vs hw hl hr => ?_⟩
  obtain rfl := vals_eq (q := fun i => .slot i) (us := [.string ⟨s.toArray⟩, .string ⟨#[32]⟩, .int .i64 0, .int .i64 (-1)]) rfl hl hr
  have hsz : (⟨s.toArray⟩ : ByteArray).size = s.length := by show s.toArray.size = _; simp
  have hcount : Lib.countB ⟨s.toArray⟩ ⟨#[32]⟩ = s.count 32 := Lib.count_one 32 _
  have hle : s.count 32 ≤ s.length := List.count_le_length
  have hlen := Lib.splitB_all ⟨#[32]⟩ (by decide) 0 (s.count 32) ⟨s.toArray⟩ hcount
  have hsp := split_words ⟨s.toArray⟩
  rw [hcount] at hsp
  have key := Any.strings_genSplit_core Tryz.lays221 (by kernel_rfl) ⟨s.toArray⟩ ⟨#[32]⟩ 0 (-1) (s.count 32 + 1) w (by rw [hsz]; exact hs) (by decide) (by decide)
    (fun x c _ => (Tryz.strings_Index_one x 32 _).mono fun e w' ⟨h1, h2⟩ => ⟨by rw [h1]; simp only [Lib.indexB]; rw [← Lib.index_one], h2⟩)
    ((Tryz.strings_Count_one ⟨s.toArray⟩ 32 w).mono fun e w' ⟨h1, h2⟩ => ⟨by rw [h1, hcount]; rfl, h2⟩) (by decide) (by decide) (by rw [hcount, hsz]; simp; omega)
  refine key.mono fun e w' ⟨he, hw'⟩ => ?_
  simp only [Nat.add_sub_cancel] at he hw'
  generalize Lib.splitB ⟨#[32]⟩ 0 (s.count 32) ⟨s.toArray⟩ = L at he hw' hlen hsp
  have hrows : (words s).map (fun x => [D.str x]) = L.map fun x => [D.str x.data.toList] := by
    rw [← (show words (⟨s.toArray⟩ : ByteArray).data.toList = words s by simp), ← hsp, List.map_map]
    rfl
  rw [hrows]
  obtain ⟨S', k1, k2, k3⟩ := made_rows (v := .slice (some ⟨w.heap.size, 0, none⟩) L.length (s.count 32 + 1)) (sz := 1) (rows := L.map fun x => [D.str x.data.toList]) (news := L.map Value.string) (t := 9) hw (w' := w') (by subst hw'; exact Ext.alloc _ _) (by simp) (fun u hu => by
    obtain ⟨x, _, rfl⟩ := List.mem_map.1 hu
    rfl) (fun k r j d hk hd => by
    rw [List.getElem?_map] at hk
    cases hlk : L[k]? with
    | none => rw [hlk] at hk; cases hk
    | some x =>
      rw [hlk] at hk
      cases hk
      match j, hd with
      | 0, hd =>
        cases hd
        exact ⟨.string x, by simp [hlk], .str x.data.toList⟩
      | j + 1, hd => simp at hd) ⟨by simp, .inr ⟨w.heap.size, s.count 32 + 1, _, by simp, Nat.le_refl _, by subst hw'; exact heap_alloc_new w _, by simp; omega, by unfold maxLen; omega, by rw [Lib.cellsOf_size (by omega)]; simp, by
      rw [← hlen, Lib.cellsOf_full, List.length_map, Nat.mul_one]
      exact List.take_of_length_le (by simp)⟩⟩
  exact ⟨_, S', he, k1, k2, k3⟩
end Go.Proofs.YtkjgmjocikmplaaGreatDoor
namespace Go.Proofs.YtkjgmjocikmplaaGreatDoor
set_option linter.unusedSimpArgs false
set_option linter.unusedVariables false
open Go.RowKit

structure Adr where
  kind : Str
  id : Str
  deriving DecidableEq
structure Par where
  name : Str
  addrs : List Adr
abbrev Adr.row (a : Adr) : List D := [.str a.kind, .str a.id]
abbrev Adr.d (a : Adr) : D := .agg [.str a.kind, .str a.id]
abbrev Adr.key (a : Adr) : Value := .agg [.string ⟨a.kind.toArray⟩, .string ⟨a.id.toArray⟩].toArray
abbrev Par.row (p : Par) : List D := [.str p.name, .sl 0 2 (p.addrs.map Adr.row)]
structure Adr.Ok (a : Adr) : Prop where
  kind : a.kind.Ok
  id : a.id.Ok
structure Par.Ok (p : Par) : Prop where
  name : p.name.Ok
  addrs : ∀ a ∈ p.addrs, a.Ok
def idByte (c : UInt8) : Bool := decide (33 ≤ c.toNat) && decide (c.toNat ≤ 126)
theorem take_at {α : Type} {l : List α} {k : Nat} {x : α} (h : l[k]? = some x) : l.take (k + 1) = l.take k ++ [x] := by
  obtain ⟨hlt, rfl⟩ := List.getElem?_eq_some_iff.1 h
  exact List.take_succ_eq_append_getElem hlt
end Go.Proofs.YtkjgmjocikmplaaGreatDoor
namespace Go.Proofs.YtkjgmjocikmplaaGreatDoor
set_option linter.unusedSimpArgs false
set_option linter.unusedVariables false
open Go.RowKit
set_option maxRecDepth 100000
set_option maxHeartbeats 400000

theorem sem_vals {P : Program} {f : Nat} [e : Enters P f] {ds : List D} {us : List Value} {d : D} {v : Value} (hv : valsOf ds = some us) (hc : d.calm = true) (hz : ∀ lim w, Fz lim w v d) (h : ∀ w, Calls P f us.toArray w fun e w' => e = .returned v ∧ Ext w w') : Sem P f ds d :=
  ⟨e, hc, fun S w vs hw hl hr => by
    obtain rfl := vals_eq (q := fun i => .slot i) hv hl hr
    exact (h w).mono fun e w' ⟨he, hx⟩ => ⟨v, S, he, (PT.ext' hw hx).wf, (PT.ext' hw hx).trans, .fz (hz _ _)⟩⟩
theorem dropWhile_nil {α : Type} (p : α → Bool) (l : List α) : l.dropWhile p = [] ↔ l.all p = true := by
  induction l with
  | nil => simp
  | cons a l ih => simp only [List.dropWhile_cons, List.all_cons]; split <;> simp_all
theorem trimS_nil_iff (l cs : List UInt8) : Lib.trimS l cs = [] ↔ l.all (cs.contains ·) = true := by
  unfold Lib.trimS Lib.trimLeftS
  rw [dropWhile_nil]
  constructor
  · intro h
    unfold Lib.trimRightS at h
    rw [List.all_reverse] at h
    have key : ∀ m : List UInt8, (m.dropWhile (cs.contains ·)).all (cs.contains ·) = true → m.all (cs.contains ·) = true := by
      intro m
      induction m with
      | nil => simp
      | cons a m ih =>
        intro h
        simp only [List.dropWhile_cons] at h
        split at h
        · rename_i ha
          rw [List.all_cons, ha, ih h]
          rfl
        · exact h
    have := key l.reverse h
    rwa [List.all_reverse] at this
  · intro h
    unfold Lib.trimRightS
    rw [(dropWhile_nil _ _).2 (by rw [List.all_reverse]; exact h)]
    rfl
theorem trim_sem (s cs : Str) (hs : s.length ≤ 9223372036854775807) (hcs : cs.length < 4294967281) (ha : cs.all (fun b => decide (b.toNat < 128)) = true) : Sem Tryz.prog 40 [.str s, .str cs] (.str (Lib.trimS s cs)) :=
  sem_vals (us := [.string ⟨s.toArray⟩, .string ⟨cs.toArray⟩]) (v := .string ⟨(Lib.trimS s cs).toArray⟩) rfl rfl (fun _ _ => .str _) fun w =>
    Any.strings_Trim_laid Tryz.lays160 (by kernel_rfl) ⟨s.toArray⟩ ⟨cs.toArray⟩ w (by show s.toArray.size ≤ _; simp; omega) (by show cs.toArray.size < _; simpa using hcs) (ascii_of_all (by simpa using ha))
theorem outside_sem (n a b : Int) : Sem Tryz.prog 36 [.int .i64 n, .int .i64 a, .int .i64 b] (.bool (decide (n < a) || decide (b < n))) := by
  refine sem_intro (M := fun t => mem t []) hT hM Tryz.func36 inferInstance rfl rfl rfl rfl rfl rfl ?_
  repeat' (
    (conv => whnf)
    first
      | ((try ((first | with_reducible apply NumE.go | with_reducible apply IdxE.go | with_reducible apply TextE.go | with_reducible apply LookE.go | with_reducible apply CallE.go); (conv => whnf))); (with_reducible apply SideD.mk); (focus ((first | (intro hc; have hc0 := hc; (try simp only [SPLT] at hc); (try refine And.intro (by first | exact hc0 | exact ⟨hc0, hc0⟩ | exact ⟨hc0, hc0, hc0⟩) ?_)) | skip); first | exact idx_nat (by assumption) | exact idx_some (by omega) (by assumption) | exact idx_eq (by assumption) (by omega) | exact IntWalk.i64_in _ (by omega) | exact IntWalk.u8_in _ (by omega) | exact IntWalk.u64_in _ (by omega) | exact IntWalk.i32_in _ (by omega) | exact rfl | exact ⟨by omega, rfl⟩ | exact ⟨rfl, rfl⟩ | assumption | exact ⟨by omega, by omega⟩ | exact ⟨by omega, by simp; omega⟩ | omega | exact ⟨rfl, rfl, by simp only [List.length_map, List.length_append, List.length_cons, List.length_nil]; omega⟩ | exact ⟨rfl, rfl, by simp; omega⟩ | exact ⟨rfl, rfl, by omega⟩ | exact ⟨rfl, by simp; omega⟩ | exact id | (intro h; simp [h]; done) | ((repeat (first | exact trivial | exact rfl | apply And.intro)); done) | (simp; omega) | (refine ⟨?_, ?_, ?_⟩ <;> first | omega | (simp; done) | (simp; omega)) | exact hc0 | exact ⟨hc0, hc0⟩ | exact ⟨hc0, hc0, hc0⟩ | (simp only [Bool.and_eq_true] at hc0; simp [hc0]; done) | (simp_all; done))))
      | ((first | with_reducible apply DrawR.go0 | with_reducible apply KerB.mk); (focus kernel_rfl))
      | (first | with_reducible apply ends_ret | with_reducible apply ends_norm | with_reducible apply Halt'.mk)
      | ((with_reducible apply CondD.mk) <;> intro hb <;> (try simp only [SPLT] at hb) <;> (try first | contradiction | exact absurd hb (by assumption) | exact absurd (by assumption) hb | (exfalso; omega) | (exfalso; simp at hb; done))))
  all_goals (try exact (false : Bool))
  repeat' ((conv => whnf); first | exact trivial | with_reducible apply And.intro | with_reducible apply endsO_ret | with_reducible apply endsO_norm | exact DLes.nil | with_reducible exact DLe.refl _ | exact DLe.any _ | with_reducible apply DLes.cons | with_reducible exact rle_refl | exact rle_bool rfl | exact rle_int rfl | exact rle_nil rfl | exact rle_sl0 rfl)
  all_goals (conv => whnf)
  all_goals (refine rle_bool ?_; simp)
theorem within8_sem (n a b : Int) : Sem Tryz.prog 17 [.int .i64 n, .int .i64 a, .int .i64 b] (.bool (decide (a ≤ n) && decide (n ≤ b))) := by
  refine sem_intro (M := fun t => mem t []) hT hM Tryz.func17 inferInstance rfl rfl rfl rfl rfl rfl ?_
  repeat' (
    (conv => whnf)
    first
      | ((try ((first | with_reducible apply NumE.go | with_reducible apply IdxE.go | with_reducible apply TextE.go | with_reducible apply LookE.go | with_reducible apply CallE.go); (conv => whnf))); (with_reducible apply SideD.mk); (focus ((first | (intro hc; have hc0 := hc; (try simp only [SPLT] at hc); (try refine And.intro (by first | exact hc0 | exact ⟨hc0, hc0⟩ | exact ⟨hc0, hc0, hc0⟩) ?_)) | skip); first | exact idx_nat (by assumption) | exact idx_some (by omega) (by assumption) | exact idx_eq (by assumption) (by omega) | exact IntWalk.i64_in _ (by omega) | exact IntWalk.u8_in _ (by omega) | exact IntWalk.u64_in _ (by omega) | exact IntWalk.i32_in _ (by omega) | exact rfl | exact ⟨by omega, rfl⟩ | exact ⟨rfl, rfl⟩ | assumption | exact ⟨by omega, by omega⟩ | exact ⟨by omega, by simp; omega⟩ | omega | exact ⟨rfl, rfl, by simp only [List.length_map, List.length_append, List.length_cons, List.length_nil]; omega⟩ | exact ⟨rfl, rfl, by simp; omega⟩ | exact ⟨rfl, rfl, by omega⟩ | exact ⟨rfl, by simp; omega⟩ | exact id | (intro h; simp [h]; done) | ((repeat (first | exact trivial | exact rfl | apply And.intro)); done) | (simp; omega) | (refine ⟨?_, ?_, ?_⟩ <;> first | omega | (simp; done) | (simp; omega)) | exact hc0 | exact ⟨hc0, hc0⟩ | exact ⟨hc0, hc0, hc0⟩ | (simp only [Bool.and_eq_true] at hc0; simp [hc0]; done) | (simp_all; done))))
      | ((first | with_reducible apply DrawR.go0 | with_reducible apply KerB.mk); (focus kernel_rfl))
      | (first | with_reducible apply ends_ret | with_reducible apply ends_norm | with_reducible apply Halt'.mk)
      | ((with_reducible apply CondD.mk) <;> intro hb <;> (try simp only [SPLT] at hb) <;> (try first | contradiction | exact absurd hb (by assumption) | exact absurd (by assumption) hb | (exfalso; omega) | (exfalso; simp at hb; done))))
  all_goals (try exact (false : Bool))
  repeat' ((conv => whnf); first | exact trivial | with_reducible apply And.intro | with_reducible apply endsO_ret | with_reducible apply endsO_norm | exact DLes.nil | with_reducible exact DLe.refl _ | exact DLe.any _ | with_reducible apply DLes.cons | with_reducible exact rle_refl | exact rle_bool rfl | exact rle_int rfl | exact rle_nil rfl | exact rle_sl0 rfl)
  all_goals (conv => whnf)
theorem inBytes_sem (s : Str) (hs : s.Ok) : Sem Tryz.prog 64 [.str s, .int .u8 33, .int .u8 126] (.bool (s.all idByte)) := by
  unfold Str.Ok at hs
  refine sem_intro (M := fun t => mem t []) hT hM Tryz.func64 inferInstance rfl rfl rfl rfl rfl rfl ?_
  repeat' (
    (conv => whnf)
    first
      | ((try ((first | with_reducible apply NumE.go | with_reducible apply IdxE.go | with_reducible apply TextE.go | with_reducible apply LookE.go | with_reducible apply CallE.go); (conv => whnf))); (with_reducible apply SideD.mk); (focus ((first | (intro hc; have hc0 := hc; (try simp only [SPLT] at hc); (try refine And.intro (by first | exact hc0 | exact ⟨hc0, hc0⟩ | exact ⟨hc0, hc0, hc0⟩) ?_)) | skip); first | exact idx_nat (by assumption) | exact idx_some (by omega) (by assumption) | exact idx_eq (by assumption) (by omega) | exact IntWalk.i64_in _ (by omega) | exact IntWalk.u8_in _ (by omega) | exact IntWalk.u64_in _ (by omega) | exact IntWalk.i32_in _ (by omega) | exact rfl | exact ⟨by omega, rfl⟩ | exact ⟨rfl, rfl⟩ | assumption | exact ⟨by omega, by omega⟩ | exact ⟨by omega, by simp; omega⟩ | omega | exact ⟨rfl, rfl, by simp only [List.length_map, List.length_append, List.length_cons, List.length_nil]; omega⟩ | exact ⟨rfl, rfl, by simp; omega⟩ | exact ⟨rfl, rfl, by omega⟩ | exact ⟨rfl, by simp; omega⟩ | exact id | (intro h; simp [h]; done) | ((repeat (first | exact trivial | exact rfl | apply And.intro)); done) | (simp; omega) | (refine ⟨?_, ?_, ?_⟩ <;> first | omega | (simp; done) | (simp; omega)) | exact hc0 | exact ⟨hc0, hc0⟩ | exact ⟨hc0, hc0, hc0⟩ | (simp only [Bool.and_eq_true] at hc0; simp [hc0]; done) | (simp_all; done))))
      | ((first | with_reducible apply DrawR.go0 | with_reducible apply KerB.mk); (focus kernel_rfl))
      | (first | with_reducible apply ends_ret | with_reducible apply ends_norm | with_reducible apply Halt'.mk)
      | ((with_reducible apply CondD.mk) <;> intro hb <;> (try simp only [SPLT] at hb) <;> (try first | contradiction | exact absurd hb (by assumption) | exact absurd (by assumption) hb | (exfalso; omega) | (exfalso; simp at hb; done))))
  all_goals (try exact (false : Bool))
  refine loop_go (M := fun t => mem t []) hT hM (fun k : Nat => [(10, .int .i64 k)]) (fun k => k ≤ s.length ∧ (s.take k).all idByte = true) (fun k => s.length - k) (0) ?_ ?_ ?_
  · (conv => whnf)
    refine ⟨?_, by rfl⟩
    repeat' ((conv => whnf); first | exact DLes.nil | with_reducible exact DLe.refl _ | exact DLe.any _ | with_reducible apply DLes.cons | exact DLe.refl _ | exact dle_int (by omega) | exact dle_nil rfl | exact DLe.own _ _)
  · exact ⟨by omega, rfl⟩
  · rintro k ⟨hk, hall⟩
    repeat' (
      (conv => whnf)
      first
        | ((try ((first | with_reducible apply NumE.go | with_reducible apply IdxE.go | with_reducible apply TextE.go | with_reducible apply LookE.go | with_reducible apply CallE.go); (conv => whnf))); (with_reducible apply SideD.mk); (focus ((first | (intro hc; have hc0 := hc; (try simp only [SPLT] at hc); (try refine And.intro (by first | exact hc0 | exact ⟨hc0, hc0⟩ | exact ⟨hc0, hc0, hc0⟩) ?_)) | skip); first | exact idx_nat (by assumption) | exact idx_some (by omega) (by assumption) | exact idx_eq (by assumption) (by omega) | exact IntWalk.i64_in _ (by omega) | exact IntWalk.u8_in _ (by omega) | exact IntWalk.u64_in _ (by omega) | exact IntWalk.i32_in _ (by omega) | exact rfl | exact ⟨by omega, rfl⟩ | exact ⟨rfl, rfl⟩ | assumption | exact ⟨by omega, by omega⟩ | exact ⟨by omega, by simp; omega⟩ | omega | exact ⟨rfl, rfl, by simp only [List.length_map, List.length_append, List.length_cons, List.length_nil]; omega⟩ | exact ⟨rfl, rfl, by simp; omega⟩ | exact ⟨rfl, rfl, by omega⟩ | exact ⟨rfl, by simp; omega⟩ | exact id | (intro h; simp [h]; done) | ((repeat (first | exact trivial | exact rfl | apply And.intro)); done) | (simp; omega) | (refine ⟨?_, ?_, ?_⟩ <;> first | omega | (simp; done) | (simp; omega)) | exact hc0 | exact ⟨hc0, hc0⟩ | exact ⟨hc0, hc0, hc0⟩ | (simp only [Bool.and_eq_true] at hc0; simp [hc0]; done) | (simp_all; done))))
        | ((first | with_reducible apply DrawR.go0 | with_reducible apply KerB.mk); (focus kernel_rfl))
        | (first | with_reducible apply ends_ret | with_reducible apply ends_norm | with_reducible apply Halt'.mk)
        | ((with_reducible apply CondD.mk) <;> intro hb <;> (try simp only [SPLT] at hb) <;> (try first | contradiction | exact absurd hb (by assumption) | exact absurd (by assumption) hb | (exfalso; omega) | (exfalso; simp at hb; done))))
    all_goals (try exact (false : Bool))
    · rename_i hb0
      obtain ⟨x, hx⟩ : ∃ x, s[k]? = some x := ⟨s[k], by simp⟩
      repeat' ((conv => whnf); first | exact trivial | with_reducible apply And.intro | with_reducible apply endsO_ret | with_reducible apply endsO_norm | exact DLes.nil | with_reducible exact DLe.refl _ | exact DLe.any _ | with_reducible apply DLes.cons | with_reducible exact rle_refl | exact rle_bool rfl | exact rle_int rfl | exact rle_nil rfl | exact rle_sl0 rfl)
      all_goals (conv => whnf)
      refine rle_bool (Eq.symm ?_)
      simp [hx] at hb
      have : idByte x = false := by
        simp [idByte]
        omega
      rw [List.all_eq_false]
      exact ⟨x, List.mem_of_getElem? hx, by simp [this]⟩
    · rename_i hb0
      obtain ⟨x, hx⟩ : ∃ x, s[k]? = some x := ⟨s[k], by simp⟩
      refine ⟨k + 1, ⟨by omega, ?_⟩, by omega, ?_⟩
      · simp [hx] at hb
        rw [take_at hx, List.all_append, hall]
        have : idByte x = true := by
          simp [idByte]
          omega
        simp [this]
      · (conv => whnf)
        refine ⟨?_, by rfl⟩
        repeat' ((conv => whnf); first | exact DLes.nil | with_reducible exact DLe.refl _ | exact DLe.any _ | with_reducible apply DLes.cons | exact DLe.refl _ | exact dle_int (by omega) | exact dle_nil rfl | exact DLe.own _ _)
    · repeat' ((conv => whnf); first | exact trivial | with_reducible apply And.intro | with_reducible apply endsO_ret | with_reducible apply endsO_norm | exact DLes.nil | with_reducible exact DLe.refl _ | exact DLe.any _ | with_reducible apply DLes.cons | with_reducible exact rle_refl | exact rle_bool rfl | exact rle_int rfl | exact rle_nil rfl | exact rle_sl0 rfl)
      all_goals (conv => whnf)
      refine rle_bool (Eq.symm ?_)
      rw [List.take_of_length_le (by omega)] at hall
      exact hall
end Go.Proofs.YtkjgmjocikmplaaGreatDoor
namespace Go.Proofs.YtkjgmjocikmplaaGreatDoor
set_option linter.unusedSimpArgs false
set_option linter.unusedVariables false
open Go.RowKit
set_option maxRecDepth 100000
set_option maxHeartbeats 1000000

theorem checkSeries19_sem : Sem Tryz.prog 44 [.agg [.int .i64 1, .int .i64 9]] (.int .i64 0) := by
  refine sem_intro (M := fun t => mem t []) hT hM Tryz.func44 inferInstance rfl rfl rfl rfl rfl rfl ?_
  repeat' (
    (conv => whnf)
    first
      | ((try ((first | with_reducible apply NumE.go | with_reducible apply IdxE.go | with_reducible apply TextE.go | with_reducible apply LookE.go | with_reducible apply CallE.go); (conv => whnf))); (with_reducible apply SideD.mk); (focus ((first | (intro hc; have hc0 := hc; (try simp only [SPLT] at hc); (try refine And.intro (by first | exact hc0 | exact ⟨hc0, hc0⟩ | exact ⟨hc0, hc0, hc0⟩) ?_)) | skip); first | exact idx_nat (by assumption) | exact idx_some (by omega) (by assumption) | exact idx_eq (by assumption) (by omega) | ((try apply givesl); (focus (((apply gives_go (outside_sem _ _ _)); (focus (first | exact DLes.refl _ | (repeat (first | exact DLes.nil | ((apply DLes.cons); (focus (first | exact DLe.refl _ | exact DLe.own _ _ | exact DLe.nil _ _ | exact DLe.any _))))))); (focus exact rfl); (all_goals (first | exact rfl | assumption | omega | (simp; omega) | (simp; done)))))); (all_goals exact rfl)) | exact IntWalk.i64_in _ (by omega) | exact IntWalk.u8_in _ (by omega) | exact IntWalk.u64_in _ (by omega) | exact IntWalk.i32_in _ (by omega) | exact rfl | exact ⟨by omega, rfl⟩ | exact ⟨rfl, rfl⟩ | assumption | exact ⟨by omega, by omega⟩ | exact ⟨by omega, by simp; omega⟩ | omega | exact ⟨rfl, rfl, by simp only [List.length_map, List.length_append, List.length_cons, List.length_nil]; omega⟩ | exact ⟨rfl, rfl, by simp; omega⟩ | exact ⟨rfl, rfl, by omega⟩ | exact ⟨rfl, by simp; omega⟩ | exact id | (intro h; simp [h]; done) | ((repeat (first | exact trivial | exact rfl | apply And.intro)); done) | (simp; omega) | (refine ⟨?_, ?_, ?_⟩ <;> first | omega | (simp; done) | (simp; omega)) | exact hc0 | exact ⟨hc0, hc0⟩ | exact ⟨hc0, hc0, hc0⟩ | (simp only [Bool.and_eq_true] at hc0; simp [hc0]; done) | (simp_all; done))))
      | ((first | with_reducible apply DrawR.go0 | with_reducible apply KerB.mk); (focus kernel_rfl))
      | (first | with_reducible apply ends_ret | with_reducible apply ends_norm | with_reducible apply Halt'.mk)
      | ((with_reducible apply CondD.mk) <;> intro hb <;> (try simp only [SPLT] at hb) <;> (try first | contradiction | exact absurd hb (by assumption) | exact absurd (by assumption) hb | (exfalso; omega) | (exfalso; simp at hb; done))))
  all_goals (try exact (false : Bool))
  repeat' ((conv => whnf); first | exact trivial | with_reducible apply And.intro | with_reducible apply endsO_ret | with_reducible apply endsO_norm | exact DLes.nil | with_reducible exact DLe.refl _ | exact DLe.any _ | with_reducible apply DLes.cons | with_reducible exact rle_refl | exact rle_bool rfl | exact rle_int rfl | exact rle_nil rfl | exact rle_sl0 rfl)
  all_goals (conv => whnf)
theorem isOf19_sem : Sem Tryz.prog 45 [.agg [.int .i64 1, .int .i64 9], .int .i64 9] (.bool true) := by
  refine sem_intro (M := fun t => mem t []) hT hM Tryz.func45 inferInstance rfl rfl rfl rfl rfl rfl ?_
  repeat' (
    (conv => whnf)
    first
      | ((try ((first | with_reducible apply NumE.go | with_reducible apply IdxE.go | with_reducible apply TextE.go | with_reducible apply LookE.go | with_reducible apply CallE.go); (conv => whnf))); (with_reducible apply SideD.mk); (focus (first | exact idx_nat (by assumption) | exact idx_some (by omega) (by assumption) | exact idx_eq (by assumption) (by omega) | ((try apply givesl); (focus (((apply gives_go (outside_sem _ _ _)); (focus (first | exact DLes.refl _ | (repeat (first | exact DLes.nil | ((apply DLes.cons); (focus (first | exact DLe.refl _ | exact DLe.own _ _ | exact DLe.nil _ _ | exact DLe.any _))))))); (focus exact rfl); (all_goals (first | exact rfl | assumption | omega | (simp; omega) | (simp; done)))))); (all_goals exact rfl)) | exact IntWalk.i64_in _ (by omega) | exact IntWalk.u8_in _ (by omega) | exact IntWalk.u64_in _ (by omega) | exact IntWalk.i32_in _ (by omega) | exact rfl | exact ⟨by omega, rfl⟩ | exact ⟨rfl, rfl⟩ | assumption | exact ⟨by omega, by omega⟩ | exact ⟨by omega, by simp; omega⟩ | omega | exact ⟨rfl, rfl, by simp only [List.length_map, List.length_append, List.length_cons, List.length_nil]; omega⟩ | exact ⟨rfl, rfl, by simp; omega⟩ | exact ⟨rfl, rfl, by omega⟩ | exact ⟨rfl, by simp; omega⟩ | exact id | (intro h; simp [h]; done) | ((repeat (first | exact trivial | exact rfl | apply And.intro)); done) | (simp; omega) | (refine ⟨?_, ?_, ?_⟩ <;> first | omega | (simp; done) | (simp; omega)) | (simp_all; done))))
      | ((first | with_reducible apply DrawR.go0 | with_reducible apply KerB.mk); (focus kernel_rfl))
      | (first | with_reducible apply ends_ret | with_reducible apply ends_norm | with_reducible apply Halt'.mk)
      | ((with_reducible apply CondD.mk) <;> intro hb <;> (try simp only [SPLT] at hb) <;> (try first | contradiction | exact absurd hb (by assumption) | exact absurd (by assumption) hb | (exfalso; omega) | (exfalso; simp at hb; done))))
  all_goals (try exact (false : Bool))
  repeat' ((conv => whnf); first | exact trivial | with_reducible apply And.intro | with_reducible apply endsO_ret | with_reducible apply endsO_norm | exact DLes.nil | with_reducible exact DLe.refl _ | exact DLe.any _ | with_reducible apply DLes.cons | with_reducible exact rle_refl | exact rle_bool rfl | exact rle_int rfl | exact rle_nil rfl | exact rle_sl0 rfl)
  all_goals (conv => whnf)
theorem next19_sem : Sem Tryz.prog 28 [.agg [.int .i64 1, .int .i64 9], .int .i64 9] (.tup [.int .i64 1, .int .i64 0]) := by
  refine sem_intro (M := fun t => mem t []) hT hM Tryz.func28 inferInstance rfl rfl rfl rfl rfl rfl ?_
  repeat' (
    (conv => whnf)
    first
      | ((try ((first | with_reducible apply NumE.go | with_reducible apply IdxE.go | with_reducible apply TextE.go | with_reducible apply LookE.go | with_reducible apply CallE.go); (conv => whnf))); (with_reducible apply SideD.mk); (focus (first | exact idx_nat (by assumption) | exact idx_some (by omega) (by assumption) | exact idx_eq (by assumption) (by omega) | ((try apply givesl); (focus (((first | apply gives_go (checkSeries19_sem ) | apply gives_go (isOf19_sem )); (focus (first | exact DLes.refl _ | (repeat (first | exact DLes.nil | ((apply DLes.cons); (focus (first | exact DLe.refl _ | exact DLe.own _ _ | exact DLe.nil _ _ | exact DLe.any _))))))); (focus exact rfl); (all_goals (first | exact rfl | assumption | omega | (simp; omega) | (simp; done)))))); (all_goals exact rfl)) | exact IntWalk.i64_in _ (by omega) | exact IntWalk.u8_in _ (by omega) | exact IntWalk.u64_in _ (by omega) | exact IntWalk.i32_in _ (by omega) | exact rfl | exact ⟨by omega, rfl⟩ | exact ⟨rfl, rfl⟩ | assumption | exact ⟨by omega, by omega⟩ | exact ⟨by omega, by simp; omega⟩ | omega | exact ⟨rfl, rfl, by simp only [List.length_map, List.length_append, List.length_cons, List.length_nil]; omega⟩ | exact ⟨rfl, rfl, by simp; omega⟩ | exact ⟨rfl, rfl, by omega⟩ | exact ⟨rfl, by simp; omega⟩ | exact id | (intro h; simp [h]; done) | ((repeat (first | exact trivial | exact rfl | apply And.intro)); done) | (simp; omega) | (refine ⟨?_, ?_, ?_⟩ <;> first | omega | (simp; done) | (simp; omega)) | (simp_all; done))))
      | ((first | with_reducible apply DrawR.go0 | with_reducible apply KerB.mk); (focus kernel_rfl))
      | (first | with_reducible apply ends_ret | with_reducible apply ends_norm | with_reducible apply Halt'.mk)
      | ((with_reducible apply CondD.mk) <;> intro hb <;> (try simp only [SPLT] at hb) <;> (try first | contradiction | exact absurd hb (by assumption) | exact absurd (by assumption) hb | (exfalso; omega) | (exfalso; simp at hb; done))))
  all_goals (try exact (false : Bool))
  repeat' ((conv => whnf); first | exact trivial | with_reducible apply And.intro | with_reducible apply endsO_ret | with_reducible apply endsO_norm | exact DLes.nil | with_reducible exact DLe.refl _ | exact DLe.any _ | with_reducible apply DLes.cons | with_reducible exact rle_refl | exact rle_bool rfl | exact rle_int rfl | exact rle_nil rfl | exact rle_sl0 rfl)
  all_goals (conv => whnf)
theorem awake_sem : Sem Tryz.prog 12 [] (.bool true) := by
  refine sem_intro (M := fun t => mem t []) hT hM Tryz.func12 inferInstance rfl rfl rfl rfl rfl rfl ?_
  repeat' (
    (conv => whnf)
    first
      | ((try ((first | with_reducible apply NumE.go | with_reducible apply IdxE.go | with_reducible apply TextE.go | with_reducible apply LookE.go | with_reducible apply CallE.go); (conv => whnf))); (with_reducible apply SideD.mk); (focus ((first | (intro hc; have hc0 := hc; (try simp only [SPLT] at hc); (try refine And.intro (by first | exact hc0 | exact ⟨hc0, hc0⟩ | exact ⟨hc0, hc0, hc0⟩) ?_)) | skip); first | exact idx_nat (by assumption) | exact idx_some (by omega) (by assumption) | exact idx_eq (by assumption) (by omega) | ((try apply givesl); (focus (((apply gives_go (next19_sem )); (focus (first | exact DLes.refl _ | (repeat (first | exact DLes.nil | ((apply DLes.cons); (focus (first | exact DLe.refl _ | exact DLe.own _ _ | exact DLe.nil _ _ | exact DLe.any _))))))); (focus exact rfl); (all_goals (first | exact rfl | assumption | omega | (simp; omega) | (simp; done)))))); (all_goals exact rfl)) | exact IntWalk.i64_in _ (by omega) | exact IntWalk.u8_in _ (by omega) | exact IntWalk.u64_in _ (by omega) | exact IntWalk.i32_in _ (by omega) | exact rfl | exact ⟨by omega, rfl⟩ | exact ⟨rfl, rfl⟩ | assumption | exact ⟨by omega, by omega⟩ | exact ⟨by omega, by simp; omega⟩ | omega | exact ⟨rfl, rfl, by simp only [List.length_map, List.length_append, List.length_cons, List.length_nil]; omega⟩ | exact ⟨rfl, rfl, by simp; omega⟩ | exact ⟨rfl, rfl, by omega⟩ | exact ⟨rfl, by simp; omega⟩ | exact id | (intro h; simp [h]; done) | ((repeat (first | exact trivial | exact rfl | apply And.intro)); done) | (simp; omega) | (refine ⟨?_, ?_, ?_⟩ <;> first | omega | (simp; done) | (simp; omega)) | exact hc0 | exact ⟨hc0, hc0⟩ | exact ⟨hc0, hc0, hc0⟩ | (simp only [Bool.and_eq_true] at hc0; simp [hc0]; done) | (simp_all; done))))
      | ((first | with_reducible apply DrawR.go0 | with_reducible apply KerB.mk); (focus kernel_rfl))
      | (first | with_reducible apply ends_ret | with_reducible apply ends_norm | with_reducible apply Halt'.mk)
      | ((with_reducible apply CondD.mk) <;> intro hb <;> (try simp only [SPLT] at hb) <;> (try first | contradiction | exact absurd hb (by assumption) | exact absurd (by assumption) hb | (exfalso; omega) | (exfalso; simp at hb; done))))
  all_goals (try exact (false : Bool))
  repeat' ((conv => whnf); first | exact trivial | with_reducible apply And.intro | with_reducible apply endsO_ret | with_reducible apply endsO_norm | exact DLes.nil | with_reducible exact DLe.refl _ | exact DLe.any _ | with_reducible apply DLes.cons | with_reducible exact rle_refl | exact rle_bool rfl | exact rle_int rfl | exact rle_nil rfl | exact rle_sl0 rfl)
  all_goals (conv => whnf)
end Go.Proofs.YtkjgmjocikmplaaGreatDoor
