/- How the reference writes conditions. -/
import Derived.Test.YtindehjiaknokaaGreatDoorZ23
namespace Go.Proofs.YtindehjiaknokaaGreatDoor
set_option linter.unusedSimpArgs false
set_option linter.unusedVariables false
open Go.RowKit Go.Sort
set_option maxRecDepth 100000
set_option maxHeartbeats 4000000
theorem digits_sem (n:Int) (h:I64 n):Sem Tryz.prog 25 [.int .i64 n] (.str (Lib.itoa n)):=by
 have i1:=itoa_sem n h
 refine si [1000016] Tryz.func25 ?_
 repeat'((conv=>whnf);first|(try(first|apply eN|apply eC);conv=>whnf);apply sD;(focus first|exact gx i1|(refine gx (itoa_sem ?_ ?_)<;>exact pre)|exact side)|apply rR|apply rE|apply rH| (apply cD<;>intro hb<;>(try simp only[SPLT]at hb)<;>try exact noB))
 all_goals try exact false
 exact finR
theorem quoted_sem (s:Str) (hs:s.length≤100000000):Sem Tryz.prog 27 [.str s] (.str (quoteS s)):=by
 rw [show quoteS s=(34::escS s) ++ [34] from rfl]
 refine si [1000016] Tryz.func27 ?_
 repeat'((conv=>whnf);first|(try(first|apply eN|apply eC);conv=>whnf);apply sD;(focus(try intro hc;have hc0:=hc;(try simp only[SPLT]at hc);try refine and0 ?_);first|exact sideG)|apply rR|apply rE|apply rH| (apply cD<;>intro hb<;>(try simp only[SPLT]at hb)<;>try exact noB))
 all_goals try exact false
 refine loop_go (M:=fun t=>mem t [1000016]) hT hM (fun i:Nat => [(4,.int .i64 i),(3,.str (34::escS (s.take i)))]) (fun i=>i≤s.length) (fun i=>s.length - i) (0) ?_ ?_ ?_
 ·exact finF
 ·exact Nat.zero_le _
 ·rintro i hi
  have hl:(escS (s.take i)).length≤2 * i:=by
   have:=escS_len (s.take i)
   rw [List.length_take] at this
   omega
  cases hx:s[i]? with
  |none=>
   have hm:=List.getElem?_eq_none_iff.1 hx
   rw [List.take_of_length_le hm] at hl ⊢
   repeat'((conv=>whnf);first|(try(first|apply eN|apply eC);conv=>whnf);apply sD;(focus(try intro hc;have hc0:=hc;(try simp only[SPLT]at hc);try refine and0 ?_);first|exact sideG)|apply rR|apply rE|apply rH| (apply cD<;>intro hb<;>(try simp only[SPLT]at hb)<;>try exact noB))
   all_goals try exact false
   exact finR
  |some c=>
   have hlt:=(gLt hx)
   have hat:=escS_at hx
   have hsl:(s.take (i+1)).drop i = [c]:=by
    rw [List.take_add_one,hx,List.drop_append]
    simp [List.length_take,Nat.min_eq_left hi]
   have hcd:s.getD ((i:Int).toNat) 0=c:=by rw [Int.toNat_natCast,List.getD_eq_getElem?_getD,hx];rfl
   have e1:((i:Int)+1).toNat=i+1:=by omega
   have e2:((i:Int)).toNat=i:=by omega
   have k1:(c=34∨c=92)→34::escS (s.take i) ++ [92]++(s.take ((i:Int)+1).toNat).drop ((i:Int)).toNat=34::escS (s.take (i+1)):=fun hc=>by
    rw [e1,e2,hsl,hat]
    unfold escB
    rw [if_pos hc]
    simp
   have k2:¬ (c=34∨c=92)→34::escS (s.take i)++(s.take ((i:Int)+1).toNat).drop ((i:Int)).toNat=34::escS (s.take (i+1)):=fun hc=>by
    rw [e1,e2,hsl,hat]
    unfold escB
    rw [if_neg hc]
    simp
   have hcn:∀ n:UInt8,c.toNat=n.toNat→c=n:=fun n h=>UInt8.toNat_inj.1 h
   repeat'((conv=>whnf);first|(try(first|apply eN|apply eC);conv=>whnf);apply sD;(focus(try intro hc;have hc0:=hc;(try simp only[SPLT]at hc);try refine and0 ?_);first|exact sideG)|apply rR|apply rE|apply rH| (apply cD<;>intro hb<;>(try simp only[SPLT]at hb)<;>try exact noB))
   all_goals try exact false
   ·rename_i hb
    rw [hcd] at hb
    have hc:c=34∨c=92:=by
     rcases hb with h|h
     ·exact .inl (hcn 34 (by show c.toNat=34;omega))
     ·exact .inr (hcn 92 (by show c.toNat=92;omega))
    refine ⟨i+1,by omega,by omega,?_⟩
    (conv=>whnf)
    refine ⟨?_,by rfl⟩
    repeat' ((conv=>whnf);first|exact endF|(exact dle_str (k1 hc))|exact endF2|with_reducible apply dC)
   ·rename_i hb
    rw [hcd] at hb
    have hc:¬ (c=34∨c=92):=by
     rintro (h|h)<;>subst h<;>simp at hb
    refine ⟨i+1,by omega,by omega,?_⟩
    (conv=>whnf)
    refine ⟨?_,by rfl⟩
    repeat' ((conv=>whnf);first|exact endF|(exact dle_str (k2 hc))|exact endF2|with_reducible apply dC)
theorem commaJ_take (l:List Cond) (i:Nat):(commaJ ((l.take i).map Cond.text)).length≤(commaJ (l.map Cond.text)).length:=by
 induction l generalizing i with
 |nil=>simp
 |cons c l ih=>
  cases i with
  |zero=>simp [commaJ,Lib.join]
  |succ i=>
   have key:∀ (c:Str) (m:List Str),(commaJ (c::m)).length=c.length+(if m = [] then 0 else 2+(commaJ m).length):=fun c m=>by
    cases m with
    |nil=>unfold commaJ;rw [Lib.join_cons];simp [Lib.joinTail]
    |cons d r=>
     unfold commaJ
     rw [Lib.join_cons,Lib.join_cons]
     simp [Lib.joinTail]
     omega
   rw [List.take_succ_cons,List.map_cons,List.map_cons,key,key]
   have:=ih i
   by_cases h0:(l.take i).map Cond.text = []
   ·rw [if_pos h0]
    omega
   ·have h1:l.map Cond.text ≠ []:=fun e=>h0 (by
     rw [List.map_eq_nil_iff] at e
     rw [e]
     simp)
    rw [if_neg h0,if_neg h1]
    omega
theorem textsOf_sem (l:List Cond) (h:∀ x ∈ l,Sem Tryz.prog 15 [.agg x.row] (.str x.text)) (hl:l.length≤1000) (hb:(commaJ (l.map Cond.text)).length≤100000000000):Sem Tryz.prog 26 [.sl 0 6 (l.map Cond.row)] (.str (commaJ (l.map Cond.text))):=by
 refine si [1000016] Tryz.func26 ?_
 repeat'((conv=>whnf);first|(try(first|apply eN|apply eI|apply eC);conv=>whnf);apply sD;(focus first|exact side)|apply rR|apply rE|apply rH| (apply cD<;>intro hb<;>(try simp only[SPLT]at hb)<;>try exact noB))
 all_goals try exact false
 refine loop_go (M:=fun t=>mem t [1000016]) hT hM (fun i:Nat => [(4,.int .i64 i),(3,.str (commaJ ((l.take i).map Cond.text)))]) (fun i=>i≤l.length) (fun i=>l.length - i) (0) ?_ ?_ ?_
 ·exact finF
 ·exact Nat.zero_le _
 ·rintro i hi
  cases hx:l[i]? with
  |none=>
   have hm:=List.getElem?_eq_none_iff.1 hx
   rw [List.take_of_length_le hm]
   repeat'((conv=>whnf);first|(try(first|apply eN|apply eI|apply eC);conv=>whnf);apply sD;(focus first|exact side)|apply rR|apply rE|apply rH| (apply cD<;>intro hb<;>(try simp only[SPLT]at hb)<;>try exact noB))
   all_goals try exact false
   exact finR
  |some x=>
   have hlt:=(gLt hx)
   have h4:=h x (gMem hx)
   have hle:(commaJ ((l.take (i+1)).map Cond.text)).length≤100000000000:=Nat.le_trans (commaJ_take _ _) hb
   have hle0:(commaJ ((l.take i).map Cond.text)).length≤100000000000:=Nat.le_trans (commaJ_take _ _) hb
   have hnx:(commaJ ((l.take (i+1)).map Cond.text))=if i=0 then x.text else commaJ ((l.take i).map Cond.text) ++ [44,32]++x.text:=by
    have e:(l.take (i+1)).map Cond.text=(l.take i).map Cond.text ++ [x.text]:=by
     rw [List.take_add_one,hx,Option.toList_some,List.map_append]
     rfl
    rw [e]
    by_cases h0:i=0
    ·subst h0
     rw [if_pos rfl]
     unfold commaJ
     rw [List.take_zero,List.map_nil,List.nil_append,Lib.join_cons]
     simp [Lib.joinTail]
    ·rw [if_neg h0]
     refine commaJ_snoc _ _ fun hn => ?_
     have:((l.take i).map Cond.text).length=0:=by rw [hn];rfl
     rw [List.length_map,List.length_take] at this
     omega
   have h0e:i=0→commaJ ((l.take i).map Cond.text) = []:=fun h0=>by subst h0;rfl
   obtain ⟨k1,ks1,p1,vs1,lo1,hi1⟩:=x
   rw [Cond.row_mk] at h4
   generalize (Cond.mk k1 ks1 p1 vs1 lo1 hi1).text=tx at h4 hnx
   rw [hnx] at hle
   generalize commaJ ((l.take i).map Cond.text)=J at hnx hle hle0 h0e ⊢
   have hjl:J.length+2+tx.length≤100000000002:=by
    by_cases h0:i=0
    ·rw [if_pos h0] at hle
     rw [h0e h0]
     simp
     omega
    ·rw [if_neg h0,List.length_append,List.length_append] at hle
     simp at hle
     omega
   clear hle hle0
   repeat'((conv=>whnf);first|(try(first|apply eN|apply eI|apply eC);conv=>whnf);apply sD;(focus first|(exact idx_row hx rfl)|exact gx h4|exact side)|apply rR|apply rE|apply rH| (apply cD<;>intro hb<;>(try simp only[SPLT]at hb)<;>try exact noB))
   all_goals try exact false
   ·refine ⟨i+1,by omega,by omega,?_⟩
    (conv=>whnf)
    refine ⟨?_,by rfl⟩
    repeat' ((conv=>whnf);first|exact endF|(exact dle_str (by rw [hnx,if_neg (by omega)]))|exact endF2|with_reducible apply dC)
   ·refine ⟨i+1,by omega,by omega,?_⟩
    (conv=>whnf)
    refine ⟨?_,by rfl⟩
    repeat' ((conv=>whnf);first|exact endF|(exact dle_str (by rw [hnx,if_pos (by omega),h0e (by omega)];rfl))|exact endF2|with_reducible apply dC)
theorem text4_sem (c:Cond):c.Wr→c.text.length≤100000000000→Sem Tryz.prog 15 [.agg c.row] (.str c.text):=by
 induction c using Cond.ind with
 |h k ks p vs lo hi ih=>
  rintro ⟨hp,hv,hk,hlo,hhi,hw⟩ hlen
  have hsev:overK k→Sem Tryz.prog 26 [.sl 0 6 (ks.map Cond.row)] (.str (commaJ (ks.map Cond.text)))∧(commaJ (ks.map Cond.text)).length≤100000000000:=fun ho=>by
   have h1:=text_over ho ks p vs lo hi
   have h2:(commaJ (ks.map Cond.text)).length≤100000000000:=by omega
   exact ⟨textsOf_sem ks (fun x hx=>ih x hx (hw x hx) (Nat.le_trans (commaW_mem (List.mem_map_of_mem hx)) h2)) hk h2,h2⟩
  have d1:=digits_sem lo hlo
  have d2:=digits_sem hi hhi
  have b1:=Lib.itoa_length_le lo hlo.1 hlo.2
  have b2:=Lib.itoa_length_le hi hhi.1 hhi.2
  have hql:∀ i,(commaJ ((vs.take i).map quoteS)).length≤10000000:=fun i=>by
   have h1:=commaJ_le (n:=2002) ((vs.take i).map quoteS) (fun x hx=>by
    obtain ⟨v,hvm,rfl⟩:=List.mem_map.1 hx
    have:=quoteS_len v
    have:=hv.2 v (List.mem_of_mem_take hvm)
    omega)
   rw [List.length_map,List.length_take] at h1
   have:=hv.1
   omega
  have hT:=text_at k ks p vs lo hi
  rw [Cond.row_mk]
  clear hw ih hlen
  generalize (Cond.mk k ks p vs lo hi).text=T at hT ⊢
  unfold fromTo at hT
  generalize Lib.itoa lo=I1 at hT d1 b1
  generalize Lib.itoa hi=I2 at hT d2 b2
  generalize commaJ (ks.map Cond.text)=C at hT hsev
  by_cases ho:k=1∨k=2∨k=3∨k=7∨k=8
  ·obtain ⟨hs1,hs2⟩:=hsev ho
   clear hsev hql hv
   refine si [1000016] Tryz.func15 ?_
   repeat'((conv=>whnf);first|(try(first|apply eN|apply eI|apply eC);conv=>whnf);apply sD;(focus first|exact gx d1|exact gx d2|exact gx hs1|(refine gx (digits_sem ?_ ?_)<;>exact pre)|(refine gx (textsOf_sem ?_ ?_ ?_ ?_)<;>exact pre)|(refine gx (quoted_sem ?_ ?_)<;>exact pre)|exact side)|(first|apply dG|apply kB);kernel_rfl|apply rR|apply rE|apply rH| ((apply cD)<;>intro hb<;>(try simp only [SPLT] at hb)<;>(try first|exact noB|((exfalso;omega;done);done))))
   all_goals try exact false
   all_goals (
    repeat' ((conv=>whnf);first|exact endR|with_reducible first|apply And.intro|apply oR|apply oN|apply dC)
    all_goals (conv=>whnf)
    refine rle_str ?_
    rw [hT]
    (repeat' split)<;>first|rfl|(exfalso;omega;done))
  ·clear hsev
   refine si [1000016] Tryz.func15 ?_
   repeat'((conv=>whnf);first|(try(first|apply eN|apply eI|apply eC);conv=>whnf);apply sD;(focus first|exact gx d1|exact gx d2|(refine gx (digits_sem ?_ ?_)<;>exact pre)|(refine gx (textsOf_sem ?_ ?_ ?_ ?_)<;>exact pre)|(refine gx (quoted_sem ?_ ?_)<;>exact pre)|exact side)|(first|apply dG|apply kB);kernel_rfl|apply rR|apply rE|apply rH| ((apply cD)<;>intro hb<;>(try simp only [SPLT] at hb)<;>(try first|exact noB|((exfalso;omega;done);done))))
   all_goals try exact false
   ·repeat' ((conv=>whnf);first|exact endR|with_reducible first|apply And.intro|apply oR|apply oN|apply dC)
    all_goals (conv=>whnf)
    refine rle_str ?_
    rw [hT]
    (repeat' split)<;>first|rfl|(simp only [List.append_assoc];rfl)|(exfalso;omega;done)
   ·repeat' ((conv=>whnf);first|exact endR|with_reducible first|apply And.intro|apply oR|apply oN|apply dC)
    all_goals (conv=>whnf)
    refine rle_str ?_
    rw [hT]
    (repeat' split)<;>first|rfl|(simp only [List.append_assoc];rfl)|(exfalso;omega;done)
   ·repeat' ((conv=>whnf);first|exact endR|with_reducible first|apply And.intro|apply oR|apply oN|apply dC)
    all_goals (conv=>whnf)
    refine rle_str ?_
    rw [hT]
    (repeat' split)<;>first|rfl|(simp only [List.append_assoc];rfl)|(exfalso;omega;done)
   ·have hT5:T=p ++ [32,105,110,32,40]++commaJ (vs.map quoteS) ++ [41]:=by
     rw [hT]
     (repeat' split)<;>first|rfl|(exfalso;omega;done)
    clear hT d1 d2
    refine loop_go (M:=fun t=>mem t [1000016]) hT hM (fun i:Nat => [(5,.int .i64 i),(4,.str (p ++ [32,105,110,32,40]++commaJ ((vs.take i).map quoteS)))]) (fun i=>i≤vs.length) (fun i=>vs.length - i) (0) ?_ ?_ ?_
    ·(conv=>whnf)
     refine ⟨?_,by rfl⟩
     repeat' ((conv=>whnf);first|exact endF|(exact dle_str (by simp [commaJ,Lib.join]))|exact endF2|with_reducible apply dC)
    ·exact Nat.zero_le _
    ·rintro i hi
     have hJ:=hql i
     have hJ2:=hql (i+1)
     cases hx:vs[i]? with
     |none=>
      have hm:=List.getElem?_eq_none_iff.1 hx
      rw [List.take_of_length_le hm] at hJ ⊢
      generalize commaJ (vs.map quoteS)=J at hT5 hJ ⊢
      rw [hT5]
      clear hJ2 hql
      repeat'((conv=>whnf);first|(try(first|apply eN|apply eI|apply eC);conv=>whnf);apply sD;(focus first|(refine gx (digits_sem ?_ ?_)<;>exact pre)|(refine gx (textsOf_sem ?_ ?_ ?_ ?_)<;>exact pre)|(refine gx (quoted_sem ?_ ?_)<;>exact pre)|exact side)|(first|apply dG|apply kB);kernel_rfl|apply rR|apply rE|apply rH| ((apply cD)<;>intro hb<;>(try simp only [SPLT] at hb)<;>(try first|exact noB|((exfalso;omega;done);done))))
      all_goals try exact false
      exact finR
     |some s=>
      have hlt:=(gLt hx)
      have h4:=quoted_sem s (by have:=hv.2 s (gMem hx);omega)
      have hnx:commaJ ((vs.take (i+1)).map quoteS)=if i=0 then quoteS s else commaJ ((vs.take i).map quoteS) ++ [44,32]++quoteS s:=by
       have e:(vs.take (i+1)).map quoteS=(vs.take i).map quoteS ++ [quoteS s]:=by
        rw [List.take_add_one,hx,Option.toList_some,List.map_append]
        rfl
       rw [e]
       by_cases h0:i=0
       ·subst h0
        rw [if_pos rfl]
        unfold commaJ
        rw [List.take_zero,List.map_nil,List.nil_append,Lib.join_cons]
        simp [Lib.joinTail]
       ·rw [if_neg h0]
        refine commaJ_snoc _ _ fun hn => ?_
        have:((vs.take i).map quoteS).length=0:=by rw [hn];rfl
        rw [List.length_map,List.length_take] at this
        omega
      have h0e:i=0→commaJ ((vs.take i).map quoteS) = []:=fun h0=>by subst h0;rfl
      have hql4:(quoteS s).length≤3000:=by
       have:=quoteS_len s
       have:=hv.2 s (gMem hx)
       omega
      clear hJ2 hql hT5
      generalize quoteS s=tx at h4 hnx hql4
      generalize commaJ ((vs.take i).map quoteS)=J at hnx hJ h0e ⊢
      repeat'((conv=>whnf);first|(try(first|apply eN|apply eI|apply eC);conv=>whnf);apply sD;(focus first|(exact idx_row1 hx rfl)|exact gx h4|(refine gx (digits_sem ?_ ?_)<;>exact pre)|(refine gx (textsOf_sem ?_ ?_ ?_ ?_)<;>exact pre)|(refine gx (quoted_sem ?_ ?_)<;>exact pre)|exact side)|(first|apply dG|apply kB);kernel_rfl|apply rR|apply rE|apply rH| (apply cD<;>intro hb<;>(try simp only[SPLT]at hb)<;>try exact noB))
      all_goals try exact false
      ·refine ⟨i+1,by omega,by omega,?_⟩
       (conv=>whnf)
       refine ⟨?_,by rfl⟩
       repeat' ((conv=>whnf);first|exact endF|(exact dle_str (by rw [hnx,if_neg (by omega)];show p ++ [32,105,110,32,40]++J ++ [44,32]++tx=_;simp only [List.append_assoc]))|exact endF2|with_reducible apply dC)
      ·refine ⟨i+1,by omega,by omega,?_⟩
       (conv=>whnf)
       refine ⟨?_,by rfl⟩
       repeat' ((conv=>whnf);first|exact endF|(exact dle_str (by rw [hnx,if_pos (by omega),h0e (by omega)];simp))|exact endF2|with_reducible apply dC)
end Go.Proofs.YtindehjiaknokaaGreatDoor
