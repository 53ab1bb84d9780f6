/- How the program writes conditions. -/
import Derived.Test.YtindehjiaknokaaGreatDoorY32
namespace Go.Proofs.YtindehjiaknokaaGreatDoor
set_option linter.unusedSimpArgs false
set_option linter.unusedVariables false
open Go.RowKit Go.Sort
set_option maxRecDepth 100000
set_option maxHeartbeats 4000000
theorem quote_sem (s:Str) (hs:s.length≤100000000):Sem Tryz.prog 23 [.str s] (.str (quoteS s)):=
 sem_valsK (us := [.string ⟨s.toArray⟩]) (v:=.string ⟨(quoteS s).toArray⟩) rfl rfl (fun _ _=>.str _) fun w=>quote_at s hs w
theorem tab_of {P:Program} {name:String} {g:Nat} {k:IntKind} {zs:List Int} (hg:P.globalNamed name=some g) (hG:GB g=some (tabO k zs)) {S:Sig} {w:World} (h:GL S w):Lib.TabIs P w name k zs:=by
 obtain ⟨_,o,h2,e,fz,rfl⟩:=h g _ hG
 unfold Lib.TabIs World.var?
 rw [hg]
 simp [h2]
theorem below_grow (w:World) (k:Nat) (os:Array Obj):Below w.heap.size w (grow (w.drewN k) os):=
 ⟨rfl,rfl,rfl,by simp [grow,World.drewN],fun b hb=>by
  have hb':b < w.heap.size:=hb
  show (w.heap++os)[b]?=w.heap[b]?
  rw [Array.getElem?_append_left hb']⟩
def I64 (n:Int):Prop := -9223372036854775808≤n∧n≤9223372036854775807
theorem itoa_sem (n:Int) (h:I64 n):Sem Tryz.prog 45 [.int .i64 n] (.str (Lib.itoa n)):=
 sem_valsG (us := [.int .i64 n]) (v:=.string ⟨(Lib.itoa n).toArray⟩) rfl rfl (fun _ _=>.str _) fun S w hg=>
  (Any.strconv_Itoa Tryz.laysM171 n h.1 h.2 w (tab_of (g:=1) (by kernel_rfl) rfl hg)).mono fun e w' ⟨he,k,os,hw⟩=>⟨he,by subst hw;exact below_grow _ _ _⟩
theorem ends_sem (k:Int) (rows:List (List D)) (p:Str) (vs:List (List D)) (lo hi:Int) (h1:I64 lo) (h2:I64 hi):Sem Tryz.prog 22 [.agg [.int .i64 k,.sl 0 6 rows,.str p,.sl 0 1 vs,.int .i64 lo,.int .i64 hi]] (.str (fromTo lo hi)):=by
 have i1:=itoa_sem lo h1
 have i2:=itoa_sem hi h2
 have b1:=Lib.itoa_length_le lo h1.1 h1.2
 have b2:=Lib.itoa_length_le hi h2.1 h2.2
 unfold fromTo
 refine si [1000016] Tryz.func22 ?_
 repeat'((conv=>whnf);first|(try(first|apply eN|apply eI|apply eC);conv=>whnf);apply sD;(focus first|exact gx i1|exact gx i2|(refine gx (itoa_sem ?_ ?_)<;>exact pre)|exact side)|(first|apply dG|apply kB);kernel_rfl|apply rR|apply rE|apply rH| (apply cD<;>intro hb<;>(try simp only[SPLT]at hb)<;>try exact noB))
 all_goals try exact false
 exact finR
theorem several_sem (l:List Cond) (h:∀ x ∈ l,Sem Tryz.prog 14 [.agg x.row] (.str x.text)) (hl:l.length≤1000) (hb:(commaJ (l.map Cond.text)).length≤100000000000):Sem Tryz.prog 21 [.sl 0 6 (l.map Cond.row)] (.str (commaJ (l.map Cond.text))):=by
 have hj:=join_sem (l.map Cond.text) (by rw [List.length_map];omega) (by omega)
 refine si [5,2000005,1000016] Tryz.func21 ?_
 repeat'((conv=>whnf);first|(try(first|apply eN|apply eI|apply eC);conv=>whnf);apply sD;(focus first|(refine gx (join_sem ?_ ?_ ?_)<;>exact pre)|exact side)|apply rR|apply rE|apply rH| (apply cD<;>intro hb<;>(try simp only[SPLT]at hb)<;>try exact noB))
 all_goals try exact false
 refine loop_go (M:=fun t=>mem t [5,2000005,1000016]) hT hM (fun i:Nat => [(8,.int .i64 i),(3,.sl 1 1 (((l.take i).map Cond.text).map strJ))]) (fun i=>i≤l.length) (fun i=>l.length - i) (0) ?_ ?_ ?_
 ·(conv=>whnf)
  refine ⟨?_,by rfl⟩
  repeat' ((conv=>whnf);first|exact endF|(exact dle_nil rfl)|exact endF2|with_reducible apply dC)
 ·exact Nat.zero_le _
 ·rintro i hi
  have hfl:(((l.take i).map Cond.text).map strJ).length≤1000:=by
   rw [List.length_map,List.length_map,List.length_take]
   omega
  cases hx:l[i]? with
  |none=>
   have hm:=List.getElem?_eq_none_iff.1 hx
   rw [List.take_of_length_le hm]
   repeat'((conv=>whnf);first|(try(first|apply eN|apply eI|apply eC);conv=>whnf);apply sD;(focus first|exact gx hj|(refine gx (join_sem ?_ ?_ ?_)<;>exact pre)|exact side)|apply rR|apply rE|apply rH| (apply cD<;>intro hb<;>(try simp only[SPLT]at hb)<;>try exact noB))
   all_goals try exact false
   exact finR
  |some x=>
   have hlt:=(gLt hx)
   have h4:=h x (gMem hx)
   have hnx:((l.take (i+1)).map Cond.text).map strJ=((l.take i).map Cond.text).map strJ ++ [strJ x.text]:=by
    rw [List.take_add_one,hx,Option.toList_some,List.map_append,List.map_append]
    rfl
   obtain ⟨k1,ks1,p1,vs1,lo1,hi1⟩:=x
   rw [Cond.row_mk] at h4
   generalize (Cond.mk k1 ks1 p1 vs1 lo1 hi1).text=tx at h4 hnx
   repeat'((conv=>whnf);first|(try(first|apply eN|apply eI|apply eC);conv=>whnf);apply sD;(focus first|(exact idx_row hx rfl)|(exact ⟨rfl,rfl,by show _+1≤1000000000;omega⟩)|exact gx h4|(refine gx (join_sem ?_ ?_ ?_)<;>exact pre)|exact side)|apply rR|apply rE|apply rH| (apply cD<;>intro hb<;>(try simp only[SPLT]at hb)<;>try exact noB))
   all_goals try exact false
   refine ⟨i+1,by omega,by omega,?_⟩
   (conv=>whnf)
   refine ⟨?_,by rfl⟩
   repeat' ((conv=>whnf);first|exact endF|(exact dle_sl (by rw [hnx];rfl))|exact endF2|with_reducible apply dC)
theorem commaW_mem {l:List Str} {x:Str} (h:x ∈ l):x.length≤(commaJ l).length:=by
 induction l with
 |nil=>simp at h
 |cons y l ih=>
  cases l with
  |nil=>
   rw [List.mem_singleton] at h
   subst h
   unfold commaJ
   rw [Lib.join_cons]
   simp
  |cons z r=>
   have e:commaJ (y::z::r)=y++([44,32]++commaJ (z::r)):=by
    unfold commaJ
    rw [Lib.join_cons,Lib.join_cons]
    simp [Lib.joinTail]
   rw [e,List.length_append,List.length_append]
   rcases List.mem_cons.1 h with rfl|h
   ·omega
   ·have:=ih h
    omega
theorem commaJ_le {n:Nat} (l:List Str) (h:∀ x ∈ l,x.length≤n):(commaJ l).length≤(n+2) * l.length:=by
 induction l with
 |nil=>simp [commaJ,Lib.join]
 |cons y l ih=>
  have hy:=h y (by simp)
  cases l with
  |nil=>
   unfold commaJ
   rw [Lib.join_cons]
   simp [Lib.joinTail]
   omega
  |cons z r=>
   have e:commaJ (y::z::r)=y++([44,32]++commaJ (z::r)):=by
    unfold commaJ
    rw [Lib.join_cons,Lib.join_cons]
    simp [Lib.joinTail]
   have:=ih fun x hx=>h x (by simp [hx])
   rw [e,List.length_append,List.length_append]
   simp only [List.length_cons,List.length_nil,Nat.mul_add] at this ⊢
   omega
theorem quoteS_len (v:Str):(quoteS v).length≤2 * v.length+2:=by
 have:=escS_len v
 simp [quoteS]
 omega
def overK (k:Int):Prop:=k=1∨k=2∨k=3∨k=7∨k=8
theorem text_at (k:Int) (ks:List Cond) (p:Str) (vs:List Str) (lo hi:Int):(Cond.mk k ks p vs lo hi).text =
  (if k=1 then [97,108,108,40]++commaJ (ks.map Cond.text) ++ [41]
  else if k=2 then [97,110,121,40]++commaJ (ks.map Cond.text) ++ [41]
  else if k=3 then [110,111,116,40]++commaJ (ks.map Cond.text) ++ [41]
  else if k=4 then [116,104,101,114,101,32]++p
  else if k=6 then [99,111,117,110,116,32]++p++fromTo lo hi
  else if k=9 then p++fromTo lo hi
  else if k=7 then [101,97,99,104,32]++p ++ [32,40]++commaJ (ks.map Cond.text) ++ [41]
  else if k=8 then [115,111,109,101,32]++p ++ [32,40]++commaJ (ks.map Cond.text) ++ [41]
  else p ++ [32,105,110,32,40]++commaJ (vs.map quoteS) ++ [41]):=by
 rw [Cond.text,texts_map]
theorem text_over {k:Int} (h:overK k) (ks:List Cond) (p:Str) (vs:List Str) (lo hi:Int):(commaJ (ks.map Cond.text)).length≤(Cond.mk k ks p vs lo hi).text.length:=by
 rw [text_at]
 unfold overK at h
 rcases h with rfl|rfl|rfl|rfl|rfl<;>simp<;>omega
theorem write_sem (c:Cond):c.Wr→c.text.length≤100000000000→Sem Tryz.prog 14 [.agg c.row] (.str c.text):=by
 induction c using Cond.ind with
 |h k ks p vs lo hi ih=>
  rintro ⟨hp,hv,hk,hlo,hhi,hw⟩ hlen
  have hsev:overK k→Sem Tryz.prog 21 [.sl 0 6 (ks.map Cond.row)] (.str (commaJ (ks.map Cond.text)))∧(commaJ (ks.map Cond.text)).length≤100000000000:=fun ho=>by
   have h1:=text_over ho ks p vs lo hi
   have h2:(commaJ (ks.map Cond.text)).length≤100000000000:=by omega
   exact ⟨several_sem ks (fun x hx=>ih x hx (hw x hx) (Nat.le_trans (commaW_mem (List.mem_map_of_mem hx)) h2)) hk h2,h2⟩
  have hends:=ends_sem k (ks.map Cond.row) p (vs.map fun s => [.str s]) lo hi hlo hhi
  have hfl:(fromTo lo hi).length≤60:=by
   have b1:=Lib.itoa_length_le lo hlo.1 hlo.2
   have b2:=Lib.itoa_length_le hi hhi.1 hhi.2
   simp [fromTo]
   omega
  have hql:(commaJ (vs.map quoteS)).length≤10000000:=by
   have h1:=commaJ_le (n:=2002) (vs.map quoteS) (fun x hx=>by
    obtain ⟨v,hvm,rfl⟩:=List.mem_map.1 hx
    have:=quoteS_len v
    have:=hv.2 v hvm
    omega)
   rw [List.length_map] at h1
   have:=hv.1
   omega
  have hjoin:=join_sem (vs.map quoteS) (by rw [List.length_map];have:=hv.1;omega) (by omega)
  have hT:=text_at k ks p vs lo hi
  rw [Cond.row_mk]
  clear hw ih hlen
  generalize (Cond.mk k ks p vs lo hi).text=T at hT ⊢
  generalize fromTo lo hi=F at hT hends hfl
  generalize commaJ (ks.map Cond.text)=C at hT hsev
  generalize hJ:commaJ (vs.map quoteS)=J at hT hjoin hql
  by_cases ho:k=1∨k=2∨k=3∨k=7∨k=8
  ·obtain ⟨hs1,hs2⟩:=hsev ho
   clear hsev hjoin hql hJ hv hends
   refine si [1000016] Tryz.func14 ?_
   repeat'((conv=>whnf);first|(try(first|apply eN|apply eI|apply eC);conv=>whnf);apply sD;(focus first|exact gx hs1|(refine gx (several_sem ?_ ?_ ?_ ?_)<;>exact pre)|(refine gx (ends_sem ?_ ?_ ?_ ?_ ?_ ?_ ?_ ?_)<;>exact pre)|(refine gx (quote_sem ?_ ?_)<;>exact pre)|(refine gx (join_sem ?_ ?_ ?_)<;>exact pre)|exact side)|(first|apply dG|apply kB);kernel_rfl|apply rR|apply rE|apply rH| ((apply cD)<;>intro hb<;>(try simp only [SPLT] at hb)<;>(try first|exact noB|((exfalso;omega;done);done))))
   all_goals try exact false
   all_goals (
    repeat' ((conv=>whnf);first|exact endR|with_reducible first|apply And.intro|apply oR|apply oN|apply dC)
    all_goals (conv=>whnf)
    refine rle_str ?_
    rw [hT]
    (repeat' split)<;>first|rfl|(exfalso;omega;done))
  ·clear hsev
   refine si [1000016] Tryz.func14 ?_
   repeat'((conv=>whnf);first|(try(first|apply eN|apply eI|apply eC);conv=>whnf);apply sD;(focus first|exact gx hends|(refine gx (several_sem ?_ ?_ ?_ ?_)<;>exact pre)|(refine gx (ends_sem ?_ ?_ ?_ ?_ ?_ ?_ ?_ ?_)<;>exact pre)|(refine gx (quote_sem ?_ ?_)<;>exact pre)|(refine gx (join_sem ?_ ?_ ?_)<;>exact pre)|exact side)|(first|apply dG|apply kB);kernel_rfl|apply rR|apply rE|apply rH| ((apply cD)<;>intro hb<;>(try simp only [SPLT] at hb)<;>(try first|exact noB|((exfalso;omega;done);done))))
   all_goals try exact false
   ·repeat' ((conv=>whnf);first|exact endR|with_reducible first|apply And.intro|apply oR|apply oN|apply dC)
    all_goals (conv=>whnf)
    refine rle_str ?_
    rw [hT]
    (repeat' split)<;>first|rfl|(exfalso;omega;done)
   ·repeat' ((conv=>whnf);first|exact endR|with_reducible first|apply And.intro|apply oR|apply oN|apply dC)
    all_goals (conv=>whnf)
    refine rle_str ?_
    rw [hT]
    (repeat' split)<;>first|rfl|(exfalso;omega;done)
   ·repeat' ((conv=>whnf);first|exact endR|with_reducible first|apply And.intro|apply oR|apply oN|apply dC)
    all_goals (conv=>whnf)
    refine rle_str ?_
    rw [hT]
    (repeat' split)<;>first|rfl|(exfalso;omega;done)
   ·have hT5:T=p ++ [32,105,110,32,40]++J ++ [41]:=by
     rw [hT]
     (repeat' split)<;>first|rfl|(exfalso;omega;done)
    clear hT hends
    refine loop_go (M:=fun t=>mem t [1000016]) hT hM (fun i:Nat => [(74,.int .i64 i),(3,.sl 1 1 (((vs.take i).map quoteS).map strJ))]) (fun i=>i≤vs.length) (fun i=>vs.length - i) (0) ?_ ?_ ?_
    ·(conv=>whnf)
     refine ⟨?_,by rfl⟩
     repeat' ((conv=>whnf);first|exact endF|(exact dle_nil rfl)|exact endF2|with_reducible apply dC)
    ·exact Nat.zero_le _
    ·rintro i hi
     have hvs:=hv.1
     have hfl:(((vs.take i).map quoteS).map strJ).length≤1000:=by
      rw [List.length_map,List.length_map,List.length_take]
      omega
     cases hx:vs[i]? with
     |none=>
      have hm:=List.getElem?_eq_none_iff.1 hx
      rw [List.take_of_length_le hm]
      repeat'((conv=>whnf);first|(try(first|apply eN|apply eI|apply eC);conv=>whnf);apply sD;(focus first|exact gx hjoin|(refine gx (several_sem ?_ ?_ ?_ ?_)<;>exact pre)|(refine gx (ends_sem ?_ ?_ ?_ ?_ ?_ ?_ ?_ ?_)<;>exact pre)|(refine gx (quote_sem ?_ ?_)<;>exact pre)|(refine gx (join_sem ?_ ?_ ?_)<;>exact pre)|exact side)|(first|apply dG|apply kB);kernel_rfl|apply rR|apply rE|apply rH| ((apply cD)<;>intro hb<;>(try simp only [SPLT] at hb)<;>(try first|exact noB|((exfalso;omega;done);done))))
      all_goals try exact false
      repeat' ((conv=>whnf);first|exact endR|with_reducible first|apply And.intro|apply oR|apply oN|apply dC)
      all_goals (conv=>whnf)
      exact rle_str hT5.symm
     |some s=>
      have hlt:=(gLt hx)
      have h4:=quote_sem s (by have:=hv.2 s (gMem hx);omega)
      have hnx:((vs.take (i+1)).map quoteS).map strJ=((vs.take i).map quoteS).map strJ ++ [strJ (quoteS s)]:=by
       rw [List.take_add_one,hx,Option.toList_some,List.map_append,List.map_append]
       rfl
      generalize quoteS s=tx at h4 hnx
      repeat'((conv=>whnf);first|(try(first|apply eN|apply eI|apply eC);conv=>whnf);apply sD;(focus first|(exact idx_row1 hx rfl)|(exact ⟨rfl,rfl,by show _+1≤1000000000;omega⟩)|exact gx h4|(refine gx (several_sem ?_ ?_ ?_ ?_)<;>exact pre)|(refine gx (ends_sem ?_ ?_ ?_ ?_ ?_ ?_ ?_ ?_)<;>exact pre)|(refine gx (quote_sem ?_ ?_)<;>exact pre)|(refine gx (join_sem ?_ ?_ ?_)<;>exact pre)|exact side)|(first|apply dG|apply kB);kernel_rfl|apply rR|apply rE|apply rH| (apply cD<;>intro hb<;>(try simp only[SPLT]at hb)<;>try exact noB))
      all_goals try exact false
      refine ⟨i+1,by omega,by omega,?_⟩
      (conv=>whnf)
      refine ⟨?_,by rfl⟩
      repeat' ((conv=>whnf);first|exact endF|(exact dle_sl (by rw [hnx];rfl))|exact endF2|with_reducible apply dC)
end Go.Proofs.YtindehjiaknokaaGreatDoor
