/- Conditions are right: the reference's check of all parts (walks). The program's Read, given that it reads conditions (walk), and both Reads. -/
import Derived.Test.YtindehjiaknokaaGreatDoorY25
import Derived.Test.YtindehjiaknokaaGreatDoorY23
namespace Go.Proofs.YtindehjiaknokaaGreatDoor
set_option linter.unusedSimpArgs false
set_option linter.unusedVariables false
open Go.RowKit
set_option maxRecDepth 100000
set_option maxHeartbeats 4000000
def readN (s:Str) (r:Cond × Pl):Cond × Int × Int:=
 if 2000 < s.length then (zeroC,0,2) else if r.2.2=true∨r.2.1 < s.length then (zeroC,r.2.1,10) else if r.1.err ≠ 0 then (zeroC,0,r.1.err) else (r.1,0,0)
theorem parts_has {c:UInt8}:∀ {s:List UInt8} {x:UInt8},x ∈ s→x=c∨∃ w ∈ partsAt c s,x ∈ w
 |[],_,h=>by cases h
 |b::r,x,h=>by
  rw [partsAt]
  split
  ·rename_i hb
   rcases List.mem_cons.1 h with rfl|h
   ·exact .inl hb
   ·rcases parts_has (c:=c) h with h|⟨w,hw,hx⟩
    ·exact .inl h
    ·exact .inr ⟨w,List.mem_cons_of_mem _ hw,hx⟩
  ·cases hw:partsAt c r with
   |nil=>exact absurd hw (parts_ne r)
   |cons y t=>
    dsimp only
    rcases List.mem_cons.1 h with rfl|h
    ·exact .inr ⟨_,List.mem_cons_self,List.mem_cons_self⟩
    ·rcases parts_has (c:=c) h with h|⟨w,hw',hx⟩
     ·exact .inl h
     ·rw [hw] at hw'
      rcases List.mem_cons.1 hw' with rfl|hw'
      ·exact .inr ⟨_,List.mem_cons_self,List.mem_cons_of_mem _ hx⟩
      ·exact .inr ⟨w,List.mem_cons_of_mem _ hw',hx⟩
theorem has_parts {c:UInt8}:∀ {s:List UInt8} {w:List UInt8} {x:UInt8},w ∈ partsAt c s→x ∈ w→x ∈ s
 |[],w,x,h,hx=>by
  simp [partsAt] at h
  rw [h] at hx
  cases hx
 |b::r,w,x,h,hx=>by
  rw [partsAt] at h
  split at h
  ·rcases List.mem_cons.1 h with rfl|h
   ·cases hx
   ·exact List.mem_cons_of_mem _ (has_parts h hx)
  ·cases hw:partsAt c r with
   |nil=>exact absurd hw (parts_ne r)
   |cons y t=>
    rw [hw] at h
    dsimp only at h
    rcases List.mem_cons.1 h with rfl|h
    ·rcases List.mem_cons.1 hx with rfl|hx
     ·exact List.mem_cons_self
     ·exact List.mem_cons_of_mem _ (has_parts (c:=c) (w:=y) (by rw [hw];exact List.mem_cons_self) hx)
    ·exact List.mem_cons_of_mem _ (has_parts (c:=c) (w:=w) (by rw [hw];exact List.mem_cons_of_mem _ h) hx)
theorem stop_cases {c:UInt8} (h:isStop c=true):c=32∨c=40∨c=41∨c=44:=by
 unfold isStop at h
 simpa [or_assoc] using h
def Goes (w:Str):Prop:=∀ x ∈ w,isStop x=false
theorem goes_of {q:UInt8→Bool} (h0:q 32=false∧q 40=false∧q 41=false∧q 44=false) {w:Str} (h:w.all q=true):Goes w:=fun x hx=>by
 have hq:=List.all_eq_true.1 h x hx
 cases hs:isStop x with
 |false=>rfl
 |true=>
  obtain ⟨h1,h2,h3,h4⟩:=h0
  rcases stop_cases hs with rfl|rfl|rfl|rfl
  ·rw [h1] at hq;cases hq
  ·rw [h2] at hq;cases hq
  ·rw [h3] at hq;cases hq
  ·rw [h4] at hq;cases hq
theorem goes_parts {c:UInt8} (hc:isStop c=false) {s:Str} (h:∀ w ∈ partsAt c s,Goes w):Goes s:=fun x hx=>by
 rcases parts_has (c:=c) hx with rfl|⟨w,hw,hx⟩
 ·exact hc
 ·exact h w hw x hx
theorem goes_name {w:Str} (h:isNameB w=true):Goes w:=by
 cases w with
 |nil=>intro x hx;cases hx
 |cons c s=>
  unfold isNameB at h
  rw [Bool.and_eq_true] at h
  exact goes_of (q:=nameByte) ⟨rfl,rfl,rfl,rfl⟩ h.2
theorem tag_of {w:Str} (h:isTagB w=true):Goes w∧∃ x ∈ w,capB x=true:=by
 unfold isTagB at h
 simp only [Bool.and_eq_true,decide_eq_true_eq] at h
 refine ⟨goes_of (q:=tagByte) ⟨rfl,rfl,rfl,rfl⟩ h.2,?_⟩
 cases w with
 |nil=>simp at h
 |cons c s=>exact ⟨c,List.mem_cons_self,h.1.2⟩
theorem goes_num {w:Str} {m:Int} (h:numB w m=true):Goes w:=by
 unfold numB numN at h
 split at h
 ·rename_i hc
  unfold canonB at hc
  rw [Bool.and_eq_true] at hc
  exact goes_of (q:=digByte) ⟨rfl,rfl,rfl,rfl⟩ hc.2
 ·cases h
theorem tail_of {ns l:List Str} (h:(tailN ns l).2=true):(∀ w ∈ l,Goes w)∧∃ w ∈ l,∃ x ∈ w,capB x=true:=by
 rcases l with _|⟨a,_|⟨b,_|⟨c,_|⟨d,t⟩⟩⟩⟩
 ·cases h
 ·rw [tailN] at h
  split at h
  ·rename_i ha
   obtain ⟨h1,h2⟩:=tag_of ha
   exact ⟨fun w hw=>by rw [List.mem_singleton.1 hw];exact h1,a,by simp,h2⟩
  ·cases h
 ·rw [tailN] at h
  split at h
  ·cases h
  ·rename_i ha
   split at h
   ·rename_i hb
    obtain ⟨h1,h2⟩:=tag_of (by simpa using ha:isTagB a=true)
    refine ⟨fun w hw => ?_,a,by simp,h2⟩
    simp at hw
    rcases hw with rfl|rfl
    ·exact h1
    ·exact goes_num hb
   ·cases h
 ·rw [tailN] at h
  split at h
  ·cases h
  ·rename_i ha
   split at h
   ·cases h
   ·rename_i hb
    split at h
    ·rename_i hc
     obtain ⟨h1,h2⟩:=tag_of (by simpa using ha:isTagB a=true)
     refine ⟨fun w hw => ?_,a,by simp,h2⟩
     simp at hw
     rcases hw with rfl|rfl|rfl
     ·exact h1
     ·exact goes_num (by simpa using hb)
     ·exact goes_num hc
    ·cases h
 ·cases h
theorem row_of_goes {p:Str} (h0:p ≠ []) (h:Goes p):RowOk p:=⟨h0,by
 rw [List.all_eq_true]
 intro x hx
 rw [h x hx]
 rfl⟩
theorem path_row {p:Str} (h:pathErr p=0):RowOk p∧NoKey p:=by
 unfold pathErr at h
 split at h
 ·cases h
 ·split at h
  ·rename_i hw
   unfold wayN at hw
   split at hw
   ·rename_i hd
    have hne:=parts_ne (c:=47) p
    obtain ⟨h1,w,hw1,x,hx1,hx2⟩:=tail_of hw
    have hlast:(partsAt 47 p).getLast?.getD []=(partsAt 47 p).getLast hne:=by rw [List.getLast?_eq_some_getLast hne];rfl
    rw [hlast] at h1 hw1
    have hg:Goes p:=goes_parts (c:=47) rfl fun v hv=>by
     have hv:v ∈ (partsAt 47 p).dropLast ++ [(partsAt 47 p).getLast hne]:=by rw [List.dropLast_concat_getLast hne];exact hv
     rcases List.mem_append.1 hv with hv|hv
     ·exact goes_name (List.all_eq_true.1 hd v hv)
     ·rw [List.mem_singleton.1 hv]
      exact goes_parts (c:=46) rfl h1
    have hcap:x ∈ p:=has_parts (List.getLast_mem hne) (has_parts hw1 hx1)
    refine ⟨row_of_goes (fun e=>by rw [e] at hcap;cases hcap) hg,?_,?_,?_,?_⟩
    all_goals (
     intro e
     rw [e] at hcap
     simp at hcap
     rcases hcap with rfl|rfl|rfl|rfl|rfl<;>cases hx2)
   ·cases hw
  ·cases h
theorem groups_row {p:Str} (h:groupsErr p=0) (h0:p ≠ []):RowOk p:=by
 unfold groupsErr at h
 split at h
 ·cases h
 ·split at h
  ·cases h
  ·rename_i hn
   rw [not_and] at hn
   have hb:namesB p=true:=by simpa using hn h0
   exact row_of_goes h0 (goes_parts (c:=47) rfl fun v hv=>goes_name (List.all_eq_true.1 hb v hv))
theorem full_rd {c:Cond} (h:c.Full):c.Rd:=by
 induction h with
 |@mk k ks p vs lo hi h hf hk ih=>
  rcases own_full h with ⟨hk1,h0,rfl,rfl,rfl,rfl⟩|⟨rfl,h0,rfl,rfl,rfl,rfl⟩|⟨rfl,h0,hp,rfl,rfl,rfl⟩|⟨rfl,h0,hp,hv,rfl,rfl⟩|⟨hk1,h0,hp,rfl,he⟩|⟨hk1,h0,hg,hp,rfl,rfl,rfl⟩
  ·have hne:ks ≠ []:=fun e=>by rw [e] at h0;simp at h0
   rcases hk1 with rfl|rfl
   ·exact .all hne ih
   ·exact .any hne ih
  ·obtain ⟨x,rfl⟩:=List.length_eq_one_iff.1 h0
   exact .not (ih x (by simp))
  ·obtain rfl:=List.length_eq_zero_iff.1 h0
   exact .there (path_row hp).1
  ·obtain rfl:=List.length_eq_zero_iff.1 h0
   exact .oneOf (path_row hp).1 (path_row hp).2 (values_len hv).1
  ·obtain rfl:=List.length_eq_zero_iff.1 h0
   obtain ⟨h1,h2⟩:=ends_bd' he
   rcases hk1 with rfl|rfl
   ·exact .count (path_row hp).1 h1 h2
   ·exact .number (path_row hp).1 (path_row hp).2 h1 h2
  ·obtain ⟨x,rfl⟩:=List.length_eq_one_iff.1 h0
   rcases hk1 with rfl|rfl
   ·exact .each (groups_row hg hp) (ih x (by simp))
   ·exact .some (groups_row hg hp) (ih x (by simp))
theorem read_text {c:Cond} (h:c.err=0) (hl:c.text.length≤2000):readN c.text (pcS (c.text.length+1) c.text (0,false))=(c,0,0):=by
 have h1:=pcS_of (s:=c.text) (full_rd (err_full h).1) (c.text.length+1) 0 [] (by simp) (.inl rfl) (by omega)
 rw [h1]
 unfold readN
 rw [if_neg (by omega),if_neg (by simp),if_neg (by simp [h])]
theorem text_read {s:Str} (h:(readN s (pcS (s.length+1) s (0,false))).2.2=0):(readN s (pcS (s.length+1) s (0,false))).1.err=0∧(readN s (pcS (s.length+1) s (0,false))).1.text=s∧s.length≤2000:=by
 have h1:=pcS_ate (s:=s) (s.length+1) (0,false)
 generalize pcS (s.length+1) s (0,false)=r at h h1 ⊢
 unfold readN at h ⊢
 split at h
 ·cases h
 ·rename_i hL
  rw [if_neg hL]
  split at h
  ·cases h
  ·rename_i hb
   rw [if_neg hb]
   rw [not_or] at hb
   split at h
   ·rename_i he
    exact absurd h he
   ·rename_i he
    rw [if_neg he]
    obtain ⟨_,h2⟩:=h1 (by simpa using hb.1)
    have h3:=h2.drop
    rw [List.drop_of_length_le (by omega:s.length≤r.2.1),List.append_nil] at h3
    exact ⟨by simpa using he,h3.symm,by omega⟩
theorem read_zero {s:Str} (h:(readN s (pcS (s.length+1) s (0,false))).2.2 ≠ 0):(readN s (pcS (s.length+1) s (0,false))).1=zeroC:=by
 generalize pcS (s.length+1) s (0,false)=r at h ⊢
 unfold readN at h ⊢
 split
 ·rfl
 ·rename_i hL
  rw [if_neg hL] at h
  split
  ·rfl
  ·rename_i hb
   rw [if_neg hb] at h
   split
   ·rfl
   ·rename_i he
    rw [if_neg he] at h
    exact absurd rfl h
def idl11_6:List (List Bool) := [[b0,b0,b0,b0,b0,b0,b0,b0],[b1,b0,b0,b0,b0,b0,b0,b0],[b0,b1,b0,b0,b0,b0,b0,b0],[b1,b1,b0,b0,b0,b0,b0,b0],[b1,b0,b0,b0,b0,b1,b0,b0],[b0,b1,b1,b0,b0,b0,b0,b0],[b1,b1,b1,b0,b0,b0,b0,b0],[b1,b1,b0,b0,b0,b1,b0,b0],[b0,b1,b1,b1,b0,b0,b0,b0],[b1,b1,b1,b1,b0,b0,b0,b0],[b1,b1,b1,b0,b0,b1,b0,b0],[b0,b1,b1,b1,b1,b0,b0,b0],[b1,b1,b1,b1,b1,b0,b0,b0],[b1,b1,b1,b1,b0,b1,b0,b0],[b1,b1,b1,b1,b1,b1,b0,b0],[b1,b1,b1,b1,b1,b1,b1,b0],[b1,b1,b1,b1,b1,b1,b1,b1]]
theorem readP_sem (s : Str) (H : s.length ≤ 2000 → CondP (s.length + 1) s) (hF : FwdAll s (pcS (s.length + 1) s)) (hmax : s.length ≤ 9223372036854775807) :
    Sem Tryz.prog 11 [.str s] (.tup [.agg (readN s (pcS (s.length + 1) s (0, false))).1.row, .int .i64 (readN s (pcS (s.length + 1) s (0, false))).2.1, .int .i64 (readN s (pcS (s.length + 1) s (0, false))).2.2]) := by
  by_cases hL : 2000 < s.length
  · unfold readN
    rw [if_pos hL]
    unfold zeroC
    dsimp only
    rw [Cond.row_mk]
    refine si [2, 14, 6000021, 1000016, 1000018, 1000019, 1000020, 1000030, 1000031, 1000032, 1000033, 1000034, 1000036, 1000037, 1000038, 1000039, 1000040, 1000041, 1000042, 1000044, 1000068, 1000070, 1000072, 1000073] Tryz.func11 ?_
    repeat' (
      (conv => whnf)
      first
        |((try ((first | apply eN | apply eI | apply eC); (conv => whnf))); (apply sD); (focus ((first | (intro hc; have hc0 := hc; (try simp only [SPLT] at hc); (try refine and0 ?_)) | skip); first | (refine gx (checkCond_sem ?_) <;> exact pre) | exact sideG)))
        |((with_reducible apply CallO.go); (conv => whnf); apply sD; (focus first | (apply giveso_g (condP_t _ _); all_goals exact preO) | (apply giveso_g (condP_0 _ _ _ _ _ _ _ _ _ _); all_goals exact preO) | (apply giveso_g (condP_1 _ _ _ _ _ _ _ _ _ _ _); all_goals exact preO) | (apply giveso_g (condP_2 _ _ _ _ _ _ _ _ _ _ _ _); all_goals exact preO) | (apply giveso_g (condP_3 _ _ _ _ _ _ _ _); all_goals exact preO) | (apply giveso_g (condP_5 _ _ _ _ _ _ _ _ _ _ _ _ _ _); all_goals exact preO) | (apply giveso_g (condP_6 _ _ _ _ _ _ _ _ _ _ _ _ _ _ _); all_goals exact preO) | (apply giveso_g (condP_7 _ _ _ _ _ _ _ _ _ _ _ _); all_goals exact preO) | (apply giveso_g (condP_of _ _ _ _); all_goals exact preO)))
        |((first | apply dG | apply kB); kernel_rfl)
        |(first | apply rR | apply rE | apply rH)
        | ((apply cD) <;> intro hb <;> (try simp only [SPLT] at hb) <;> (try first | exact noB)))
    all_goals try exact false
    repeat' ((conv => whnf); first | exact endR | (with_reducible first | apply And.intro | apply oR | apply oN | apply dC))
    all_goals (conv => whnf)
    (first | refine rle_agg ?_ | refine dle_agg ?_ | skip)
    repeat' (first | exact endF | exact endF2 | with_reducible apply dC | with_reducible apply dle_agg)
  · have hf := hF (0, false) (Nat.zero_le _)
    have c1 := H (by omega) (0, false) (Nat.zero_le _) (fun _ => by dsimp only; omega)
    unfold readN
    rw [if_neg hL]
    generalize pcS (s.length + 1) s (0, false) = r at *
    obtain ⟨c, j, b⟩ := r
    unfold pC at c1
    dsimp only at *
    have hjl : j ≤ s.length := hf.2
    cases b with
    |true =>
      rw [if_pos (.inl rfl)]
      unfold zeroC
      dsimp only
      rw [Cond.row_mk]
      obtain ⟨k0, ks0, p0, vs0, lo0, hi0⟩ := c
      rw [Cond.row_mk] at c1
      refine si [2, 14, 5000006, 6000021, 1000016, 1000018, 1000019, 1000020, 1000030, 1000031, 1000032, 1000033, 1000034, 1000036, 1000037, 1000038, 1000039, 1000040, 1000041, 1000042, 1000044, 1000068, 1000070, 1000072, 1000073] Tryz.func11 ?_
      repeat' (
        (conv => whnf)
        first
          |((with_reducible apply DrawI.at 30 idl11_6); exact rfl; kernel_rfl)
          |with_reducible apply ExE.go
          |((with_reducible apply EqF.mk); exact rfl)
          |with_reducible apply AndI.mk
          |with_reducible exact trivial
          |((try ((first | apply eN | apply eI | apply eC); (conv => whnf))); (apply sD); (focus ((first | (intro hc; have hc0 := hc; (try simp only [SPLT] at hc); (try refine and0 ?_)) | skip); first | (refine gx (checkCond_sem ?_) <;> exact pre) | exact sideG)))
          |((with_reducible apply CallO.go); (conv => whnf); apply sD; (focus first | (apply giveso_g (c1); all_goals exact preO)))
          |((first | apply dG | apply kB); kernel_rfl)
          |(first | apply rR | apply rE | apply rH)
          | ((apply cD) <;> intro hb <;> (try simp only [SPLT] at hb) <;> (try first | exact noB)))
      all_goals try exact false
      repeat' ((conv => whnf); first | exact endR | (with_reducible first | apply And.intro | apply oR | apply oN | apply dC))
      all_goals (conv => whnf)
      (first | refine rle_agg ?_ | refine dle_agg ?_ | skip)
      repeat' (first | exact endF | exact endF2 | with_reducible apply dC | with_reducible apply dle_agg)
    |false =>
      have hCC := checkCond_sem c
      by_cases hj : j < s.length
      · rw [if_pos (.inr hj)]
        clear hCC
        unfold zeroC
        dsimp only
        rw [Cond.row_mk]
        obtain ⟨k0, ks0, p0, vs0, lo0, hi0⟩ := c
        rw [Cond.row_mk] at c1
        refine si [2, 14, 5000006, 6000021, 1000016, 1000018, 1000019, 1000020, 1000030, 1000031, 1000032, 1000033, 1000034, 1000036, 1000037, 1000038, 1000039, 1000040, 1000041, 1000042, 1000044, 1000068, 1000070, 1000072, 1000073] Tryz.func11 ?_
        repeat' (
          (conv => whnf)
          first
            |((with_reducible apply DrawI.at 30 idl11_6); exact rfl; kernel_rfl)
            |with_reducible apply ExE.go
            |((with_reducible apply EqF.mk); exact rfl)
            |with_reducible apply AndI.mk
            |with_reducible exact trivial
            |((try ((first | apply eN | apply eI | apply eC); (conv => whnf))); (apply sD); (focus ((first | (intro hc; have hc0 := hc; (try simp only [SPLT] at hc); (try refine and0 ?_)) | skip); first | (refine gx (checkCond_sem ?_) <;> exact pre) | exact sideG)))
            |((with_reducible apply CallO.go); (conv => whnf); apply sD; (focus first | (apply giveso_g (c1); all_goals exact preO)))
            |((first | apply dG | apply kB); kernel_rfl)
            |(first | apply rR | apply rE | apply rH)
            | ((apply cD) <;> intro hb <;> (try simp only [SPLT] at hb) <;> (try first | exact noB | ((exfalso; simp at hb; omega); done))))
        all_goals try exact false
        repeat' ((conv => whnf); first | exact endR | (with_reducible first | apply And.intro | apply oR | apply oN | apply dC))
        all_goals (conv => whnf)
        (first | refine rle_agg ?_ | refine dle_agg ?_ | skip)
        repeat' (first | exact endF | exact endF2 | with_reducible apply dC | with_reducible apply dle_agg)
      · rw [if_neg (by rintro (h | h); · cases h
                       · exact hj h)]
        generalize c.err = e at *
        obtain ⟨k0, ks0, p0, vs0, lo0, hi0⟩ := c
        rw [Cond.row_mk] at c1 hCC
        by_cases he : e = 0
        · subst he
          rw [if_neg (fun h => h rfl)]
          dsimp only
          rw [Cond.row_mk]
          refine si [2, 14, 5000006, 6000021, 1000016, 1000018, 1000019, 1000020, 1000030, 1000031, 1000032, 1000033, 1000034, 1000036, 1000037, 1000038, 1000039, 1000040, 1000041, 1000042, 1000044, 1000068, 1000070, 1000072, 1000073] Tryz.func11 ?_
          repeat' (
            (conv => whnf)
            first
              |((with_reducible apply DrawI.at 30 idl11_6); exact rfl; kernel_rfl)
              |with_reducible apply ExE.go
              |((with_reducible apply EqF.mk); exact rfl)
              |with_reducible apply AndI.mk
              |with_reducible exact trivial
              |((try ((first | apply eN | apply eI | apply eC); (conv => whnf))); (apply sD); (focus ((first | (intro hc; have hc0 := hc; (try simp only [SPLT] at hc); (try refine and0 ?_)) | skip); first | exact gx hCC | (refine gx (checkCond_sem ?_) <;> exact pre) | exact sideG)))
              |((with_reducible apply CallO.go); (conv => whnf); apply sD; (focus first | (apply giveso_g (c1); all_goals exact preO)))
              |((first | apply dG | apply kB); kernel_rfl)
              |(first | apply rR | apply rE | apply rH)
              | ((apply cD) <;> intro hb <;> (try simp only [SPLT] at hb) <;> (try first | exact noB | ((exfalso; simp at hb; omega); done))))
          all_goals try exact false
          exact finR
        · rw [if_pos he]
          unfold zeroC
          dsimp only
          rw [Cond.row_mk]
          refine si [2, 14, 5000006, 6000021, 1000016, 1000018, 1000019, 1000020, 1000030, 1000031, 1000032, 1000033, 1000034, 1000036, 1000037, 1000038, 1000039, 1000040, 1000041, 1000042, 1000044, 1000068, 1000070, 1000072, 1000073] Tryz.func11 ?_
          repeat' (
            (conv => whnf)
            first
              |((with_reducible apply DrawI.at 30 idl11_6); exact rfl; kernel_rfl)
              |with_reducible apply ExE.go
              |((with_reducible apply EqF.mk); exact rfl)
              |with_reducible apply AndI.mk
              |with_reducible exact trivial
              |((try ((first | apply eN | apply eI | apply eC); (conv => whnf))); (apply sD); (focus ((first | (intro hc; have hc0 := hc; (try simp only [SPLT] at hc); (try refine and0 ?_)) | skip); first | exact gx hCC | (refine gx (checkCond_sem ?_) <;> exact pre) | exact sideG)))
              |((with_reducible apply CallO.go); (conv => whnf); apply sD; (focus first | (apply giveso_g (c1); all_goals exact preO)))
              |((first | apply dG | apply kB); kernel_rfl)
              |(first | apply rR | apply rE | apply rH)
              | ((apply cD) <;> intro hb <;> (try simp only [SPLT] at hb) <;> (try first | exact noB | ((exfalso; simp at hb; omega); done))))
          all_goals try exact false
          repeat' ((conv => whnf); first | exact endR | (with_reducible first | apply And.intro | apply oR | apply oN | apply dC))
          all_goals (conv => whnf)
          (first | refine rle_agg ?_ | refine dle_agg ?_ | skip)
          repeat' (first | exact endF | exact endF2 | with_reducible apply dC | with_reducible apply dle_agg)
end Go.Proofs.YtindehjiaknokaaGreatDoor
