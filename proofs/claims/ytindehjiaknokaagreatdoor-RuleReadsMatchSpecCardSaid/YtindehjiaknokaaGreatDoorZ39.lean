/- Conditions are right: the reference's check of all parts (walks). The reference's Read (walk). -/
import Derived.Test.YtindehjiaknokaaGreatDoorZ38
import Derived.Test.YtindehjiaknokaaGreatDoorZ36
namespace Go.Proofs.YtindehjiaknokaaGreatDoor
set_option linter.unusedSimpArgs false
set_option linter.unusedVariables false
open Go.RowKit
set_option maxRecDepth 100000
set_option maxHeartbeats 4000000
theorem check_sem (c:Cond):c.Txt→∀ d n:Int,0≤n→n≤200→0≤d→d≤1000→Sem Tryz.prog 17 [.agg c.row,.int .i64 d,.int .i64 n] (.tup [.int .i64 (c.chk d n).1,.int .i64 (c.chk d n).2]):=by
 induction c using Cond.ind with
 |h k ks p vs lo hi ih=>
  intro ht d n hn0 hn hd0 hd
  obtain ⟨_,hvs,hks⟩:=ht
  have h1:=checkNode_sem k (ks.map Cond.row) p vs lo hi hvs
  rw [List.length_map] at h1
  rw [chk_mk,Cond.row_mk]
  generalize ownErr k ks.length p vs lo hi=e at h1 ⊢
  generalize hr:(if 200 < n+1∨6 < d then (n+1,(2:Int)) else if e ≠ 0 then (n+1,e) else Cond.chks ks (d+1) (n+1))=r
  refine si [1000016] Tryz.func17 ?_
  repeat'((conv=>whnf);first|(try(first|apply eN|apply eI|apply eC);conv=>whnf);apply sD;(focus(try intro hc;have hc0:=hc;(try simp only[SPLT]at hc);try refine and0 ?_);first|exact gx h1|(refine gx (checkNode_sem ?_ ?_ ?_ ?_ ?_ ?_ ?_)<;>exact pre)|exact sideG)|apply rR|apply rE|apply rH| (apply cD<;>intro hb<;>(try simp only[SPLT]at hb)<;>try exact noB))
  all_goals try exact false
  ·rw [if_pos (by omega)] at hr
   subst hr
   exact finR
  ·rw [if_neg (by omega),if_pos (by omega)] at hr
   subst hr
   exact finR
  ·have hll:(ks.map Cond.row).length=ks.length:=List.length_map _
   rw [if_neg (by omega),if_neg (by omega)] at hr
   refine loop_go (M:=fun t=>mem t [0,1000016]) hT hM (fun x:Nat × Int => [(9,.int .i64 x.1),(2,.int .i64 x.2)]) (fun x=>x.1≤ks.length∧n+1+x.1≤x.2∧x.2≤200∧Cond.chks (ks.drop x.1) (d+1) x.2=r) (fun x=>ks.length - x.1) ((0,n+1)) ?_ ?_ ?_
   ·exact finF
   ·exact ⟨Nat.zero_le _,by dsimp only;omega,by dsimp only;omega,hr⟩
   ·rintro ⟨i,m⟩ ⟨hi,hm1,hm2,hv⟩
    dsimp only at hi hm1 hm2 hv ⊢
    cases hx:ks[i]? with
    |none=>
     have hm:=List.getElem?_eq_none_iff.1 hx
     rw [List.drop_of_length_le hm,chks_nil] at hv
     subst hv
     repeat'((conv=>whnf);first|(try(first|apply eN|apply eI|apply eC);conv=>whnf);apply sD;(focus(try intro hc;have hc0:=hc;(try simp only[SPLT]at hc);try refine and0 ?_);first|(refine gx (checkNode_sem ?_ ?_ ?_ ?_ ?_ ?_ ?_)<;>exact pre)|exact sideG)|apply rR|apply rE|apply rH| (apply cD<;>intro hb<;>(try simp only[SPLT]at hb)<;>try exact noB))
     all_goals try exact false
     exact finR
    |some x=>
     have hlt:=(gLt hx)
     obtain ⟨hb1,hb2⟩:=chk_bd x (d+1) m hm2
     have ih':=ih x (gMem hx) (hks x (gMem hx)) (d+1) m (by omega) hm2 (by omega) (by omega)
     rw [chks_at hx] at hv
     generalize x.chk (d+1) m=y at hv ih' hb1 hb2
     obtain ⟨m2,e2⟩:=y
     obtain ⟨k1,ks1,p1,vs1,lo1,hi1⟩:=x
     rw [Cond.row_mk] at ih'
     dsimp only at hv ih' hb1 hb2
     repeat'((conv=>whnf);first|(try(first|apply eN|apply eI|apply eC);conv=>whnf);apply sD;(focus(try intro hc;have hc0:=hc;(try simp only[SPLT]at hc);try refine and0 ?_);first|(exact idx_row hx rfl)|exact gx ih' | (refine gx (checkNode_sem ?_ ?_ ?_ ?_ ?_ ?_ ?_)<;>exact pre)|exact sideG)|apply rR|apply rE|apply rH| (apply cD<;>intro hb<;>(try simp only[SPLT]at hb)<;>try exact noB))
     all_goals try exact false
     ·rw [if_pos (by omega)] at hv
      subst hv
      exact finR
     ·rw [if_neg (by omega)] at hv
      refine ⟨(i+1,m2),⟨by dsimp only;omega,by dsimp only;omega,by dsimp only;omega,hv⟩,by dsimp only;omega,?_⟩
      exact finF
theorem checkCond4_sem (c:Cond) (ht:c.Txt):Sem Tryz.prog 9 [.agg c.row] (.int .i64 c.err):=by
 have h:=check_sem c ht 0 0 (by omega) (by omega) (by omega) (by omega)
 unfold Cond.err
 generalize c.chk 0 0=y at h ⊢
 obtain ⟨m,e⟩:=y
 obtain ⟨k,ks,p,vs,lo,hi⟩:=c
 rw [Cond.row_mk] at h ⊢
 dsimp only at h ⊢
 refine si [1000016] Tryz.func9 ?_
 repeat'((conv=>whnf);first|(try(first|apply eN|apply eI|apply eC);conv=>whnf);apply sD;(focus first|exact gx h|exact side)|apply rR|apply rE|apply rH| (apply cD<;>intro hb<;>(try simp only[SPLT]at hb)<;>try exact noB))
 all_goals try exact false
 exact finR
def idl13_8:List (List Bool) := [[b0,b0,b0,b0,b0,b0,b0,b0],[b1,b0,b0,b0,b0,b0,b0,b0],[b0,b1,b0,b0,b0,b0,b0,b0],[b1,b1,b0,b0,b0,b0,b0,b0],[b1,b0,b0,b0,b0,b1,b0,b0],[b0,b1,b1,b0,b0,b0,b0,b0],[b1,b1,b1,b0,b0,b0,b0,b0],[b1,b1,b0,b0,b0,b1,b0,b0],[b0,b1,b1,b1,b0,b0,b0,b0],[b1,b1,b1,b1,b0,b0,b0,b0],[b1,b1,b1,b0,b0,b1,b0,b0],[b0,b1,b1,b1,b1,b0,b0,b0],[b1,b1,b1,b1,b1,b0,b0,b0],[b1,b1,b1,b1,b0,b1,b0,b0],[b1,b1,b1,b1,b1,b1,b0,b0],[b1,b1,b1,b1,b1,b1,b1,b0],[b1,b1,b1,b1,b1,b1,b1,b1]]
def readN (s:Str) (r:Cond × Pl):Cond × Int × Int:=
 if 2000 < s.length then (zeroC,0,2) else if r.2.2=true∨r.2.1 < s.length then (zeroC,r.2.1,10) else if r.1.err ≠ 0 then (zeroC,0,r.1.err) else (r.1,0,0)
theorem read4_sem (s : Str) (ht : (rcS (s.length + 1) s (0, false)).2.2 = false → (rcS (s.length + 1) s (0, false)).1.Txt) (hmax : s.length ≤ 9223372036854775807) :
    Sem Tryz.prog 13 [.str s] (.tup [.agg (readN s (rcS (s.length + 1) s (0, false))).1.row, .int .i64 (readN s (rcS (s.length + 1) s (0, false))).2.1, .int .i64 (readN s (rcS (s.length + 1) s (0, false))).2.2]) := by
  by_cases hL : 2000 < s.length
  · unfold readN
    rw [if_pos hL]
    unfold zeroC
    dsimp only
    rw [Cond.row_mk]
    refine si [2, 14, 5000008, 1000016, 1000019, 1000020, 1000030, 1000033, 1000034, 1000038, 1000039, 1000040, 1000041, 1000042, 1000044, 1000068, 1000070, 1000072, 1000073] Tryz.func13 ?_
    repeat' (
      (conv => whnf)
      first
        |((with_reducible apply DrawI.at 31 idl13_8); exact rfl; kernel_rfl)
        |with_reducible apply ExE.go
        |((with_reducible apply EqF.mk); exact rfl)
        |with_reducible apply AndI.mk
        |with_reducible exact trivial
        |((try ((first | apply eN | apply eI | apply eC); (conv => whnf))); (apply sD); (focus (first | (refine gx (checkCond4_sem ?_ ?_) <;> exact pre) | exact side)))
        |((with_reducible apply CallO.go); (conv => whnf); apply sD; (focus first | (apply giveso_g (cond4_3 _ _ _ _ _ _ _ _); all_goals exact preO) | (apply giveso_g (cond4_4 _ _ _ _ _ _ _ _ _); all_goals exact preO) | (apply giveso_g (cond4_5 _ _ _ _ _ _ _ _ _ _ _ _ _); all_goals exact preO) | (apply giveso_g (cond4_6 _ _ _ _ _ _ _ _ _ _ _ _ _ _); all_goals exact preO) | (apply giveso_g (cond4_7 _ _ _ _ _ _ _ _ _ _ _); all_goals exact preO) | (apply giveso_g (cond4_t _ _); all_goals exact preO) | (apply giveso_g (cond4_0 _ _ _ _ _ _ _ _); all_goals exact preO) | (apply giveso_g (cond4_1 _ _ _ _ _ _ _ _ _); all_goals exact preO) | (apply giveso_g (cond4_2 _ _ _ _ _ _ _ _ _ _); all_goals exact preO) | (apply giveso_g (cond4_of _ _ _ _); all_goals exact preO) | (apply giveso_g (stop_f _ _); all_goals exact preO) | (apply giveso_g (stop_t _ _ _); all_goals exact preO)))
        |((first | apply dG | apply kB); kernel_rfl)
        |(first | apply rR | apply rE | apply rH)
        | ((apply cD) <;> intro hb <;> (try simp only [SPLT] at hb) <;> (try first | exact noB)))
    all_goals try exact false
    repeat' ((conv => whnf); first | exact endR | (with_reducible first | apply And.intro | apply oR | apply oN | apply dC))
    all_goals (conv => whnf)
    (first | refine rle_agg ?_ | refine dle_agg ?_ | skip)
    repeat' (first | exact endF | exact endF2 | with_reducible apply dC | with_reducible apply dle_agg)
  · have hf := rc_fwd s (s.length + 1) (0, false) (Nat.zero_le _)
    have c1 := cond4_sem s (by omega) (s.length + 1) (0, false) (Nat.zero_le _) (fun _ => by dsimp only; omega)
    unfold readN
    rw [if_neg hL]
    generalize rcS (s.length + 1) s (0, false) = r at *
    obtain ⟨c, j, b⟩ := r
    dsimp only at *
    have hjl : j ≤ s.length := hf.2
    have hst := stop_f s j
    have hst2 := stop_t s j j
    cases b with
    |true =>
      rw [if_pos (.inl rfl)]
      simp only [bI_f, bI_t] at c1
      unfold zeroC
      dsimp only
      rw [Cond.row_mk]
      obtain ⟨k0, ks0, p0, vs0, lo0, hi0⟩ := c
      rw [Cond.row_mk] at c1
      refine si [2, 14, 5000008, 1000016, 1000019, 1000020, 1000030, 1000033, 1000034, 1000038, 1000039, 1000040, 1000041, 1000042, 1000044, 1000068, 1000070, 1000072, 1000073] Tryz.func13 ?_
      repeat' (
        (conv => whnf)
        first
          |((with_reducible apply DrawI.at 31 idl13_8); exact rfl; kernel_rfl)
          |with_reducible apply ExE.go
          |((with_reducible apply EqF.mk); exact rfl)
          |with_reducible apply AndI.mk
          |with_reducible exact trivial
          |((try ((first | apply eN | apply eI | apply eC); (conv => whnf))); (apply sD); (focus (first | (refine gx (checkCond4_sem ?_ ?_) <;> exact pre) | exact side)))
          |((with_reducible apply CallO.go); (conv => whnf); apply sD; (focus first | (apply giveso_g (c1); all_goals exact preO) | (apply giveso_g (hst2); all_goals exact preO)))
          |((first | apply dG | apply kB); kernel_rfl)
          |(first | apply rR | apply rE | apply rH)
          | ((apply cD) <;> intro hb <;> (try simp only [SPLT] at hb) <;> (try first | exact noB)))
      all_goals try exact false
      · repeat' ((conv => whnf); first | exact endR | (with_reducible first | apply And.intro | apply oR | apply oN | apply dC))
        all_goals (conv => whnf)
        (first | refine rle_agg ?_ | refine dle_agg ?_ | skip)
        repeat' (first | exact endF | exact endF2 | with_reducible apply dC | with_reducible apply dle_agg)
      · repeat' ((conv => whnf); first | exact endR | (with_reducible first | apply And.intro | apply oR | apply oN | apply dC))
        all_goals (conv => whnf)
        (first | refine rle_agg ?_ | refine dle_agg ?_ | skip)
        repeat' (first | exact endF | exact endF2 | with_reducible apply dC | with_reducible apply dle_agg)
    |false =>
      have hCC := checkCond4_sem c (ht rfl)
      simp only [bI_f] at c1
      by_cases hj : j < s.length
      · rw [if_pos (.inr hj)]
        clear hCC
        unfold zeroC
        dsimp only
        rw [Cond.row_mk]
        obtain ⟨k0, ks0, p0, vs0, lo0, hi0⟩ := c
        rw [Cond.row_mk] at c1
        refine si [2, 14, 5000008, 1000016, 1000019, 1000020, 1000030, 1000033, 1000034, 1000038, 1000039, 1000040, 1000041, 1000042, 1000044, 1000068, 1000070, 1000072, 1000073] Tryz.func13 ?_
        repeat' (
          (conv => whnf)
          first
            |((with_reducible apply DrawI.at 31 idl13_8); exact rfl; kernel_rfl)
            |with_reducible apply ExE.go
            |((with_reducible apply EqF.mk); exact rfl)
            |with_reducible apply AndI.mk
            |with_reducible exact trivial
            |((try ((first | apply eN | apply eI | apply eC); (conv => whnf))); (apply sD); (focus (first | (refine gx (checkCond4_sem ?_ ?_) <;> exact pre) | exact side)))
            |((with_reducible apply CallO.go); (conv => whnf); apply sD; (focus first | (apply giveso_g (c1); all_goals exact preO) | (apply giveso_g (hst); all_goals exact preO)))
            |((first | apply dG | apply kB); kernel_rfl)
            |(first | apply rR | apply rE | apply rH)
            | ((apply cD) <;> intro hb <;> (try simp only [SPLT] at hb) <;> (try first | exact noB)))
        all_goals try exact false
        repeat' ((conv => whnf); first | exact endR | (with_reducible first | apply And.intro | apply oR | apply oN | apply dC))
        all_goals (conv => whnf)
        (first | refine rle_agg ?_ | refine dle_agg ?_ | skip)
        repeat' (first | exact endF | exact endF2 | with_reducible apply dC | with_reducible apply dle_agg)
      · rw [if_neg (by rintro (h | h); · cases h
                       · exact hj h)]
        generalize c.err = e at *
        obtain ⟨k0, ks0, p0, vs0, lo0, hi0⟩ := c
        rw [Cond.row_mk] at c1 hCC
        by_cases he : e = 0
        · subst he
          rw [if_neg (fun h => h rfl)]
          dsimp only
          rw [Cond.row_mk]
          refine si [2, 14, 5000008, 1000016, 1000019, 1000020, 1000030, 1000033, 1000034, 1000038, 1000039, 1000040, 1000041, 1000042, 1000044, 1000068, 1000070, 1000072, 1000073] Tryz.func13 ?_
          repeat' (
            (conv => whnf)
            first
              |((with_reducible apply DrawI.at 31 idl13_8); exact rfl; kernel_rfl)
              |with_reducible apply ExE.go
              |((with_reducible apply EqF.mk); exact rfl)
              |with_reducible apply AndI.mk
              |with_reducible exact trivial
              |((try ((first | apply eN | apply eI | apply eC); (conv => whnf))); (apply sD); (focus (first | exact gx hCC | (refine gx (checkCond4_sem ?_ ?_) <;> exact pre) | exact side)))
              |((with_reducible apply CallO.go); (conv => whnf); apply sD; (focus first | (apply giveso_g (c1); all_goals exact preO) | (apply giveso_g (hst); all_goals exact preO)))
              |((first | apply dG | apply kB); kernel_rfl)
              |(first | apply rR | apply rE | apply rH)
              | ((apply cD) <;> intro hb <;> (try simp only [SPLT] at hb) <;> (try first | exact noB)))
          all_goals try exact false
          exact finR
        · rw [if_pos he]
          unfold zeroC
          dsimp only
          rw [Cond.row_mk]
          refine si [2, 14, 5000008, 1000016, 1000019, 1000020, 1000030, 1000033, 1000034, 1000038, 1000039, 1000040, 1000041, 1000042, 1000044, 1000068, 1000070, 1000072, 1000073] Tryz.func13 ?_
          repeat' (
            (conv => whnf)
            first
              |((with_reducible apply DrawI.at 31 idl13_8); exact rfl; kernel_rfl)
              |with_reducible apply ExE.go
              |((with_reducible apply EqF.mk); exact rfl)
              |with_reducible apply AndI.mk
              |with_reducible exact trivial
              |((try ((first | apply eN | apply eI | apply eC); (conv => whnf))); (apply sD); (focus (first | exact gx hCC | (refine gx (checkCond4_sem ?_ ?_) <;> exact pre) | exact side)))
              |((with_reducible apply CallO.go); (conv => whnf); apply sD; (focus first | (apply giveso_g (c1); all_goals exact preO) | (apply giveso_g (hst); all_goals exact preO)))
              |((first | apply dG | apply kB); kernel_rfl)
              |(first | apply rR | apply rE | apply rH)
              | ((apply cD) <;> intro hb <;> (try simp only [SPLT] at hb) <;> (try first | exact noB)))
          all_goals try exact false
          repeat' ((conv => whnf); first | exact endR | (with_reducible first | apply And.intro | apply oR | apply oN | apply dC))
          all_goals (conv => whnf)
          (first | refine rle_agg ?_ | refine dle_agg ?_ | skip)
          repeat' (first | exact endF | exact endF2 | with_reducible apply dC | with_reducible apply dle_agg)
end Go.Proofs.YtindehjiaknokaaGreatDoor
