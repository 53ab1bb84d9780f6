/- RuleUndersHold: plain, and the law's walk. -/
import Derived.Test.YtdhlopciapncfaaGreatDoorZ36
import Derived.Test.YtdhlopciapncfaaGreatDoorZ17
namespace Go.Proofs.YtdhlopciapncfaaGreatDoor
set_option linter.unusedSimpArgs false
set_option linter.unusedVariables false
open Go.RowKit
set_option maxRecDepth 100000
set_option maxHeartbeats 4000000
theorem under_holdsT (c:Cond) (p:Str) (t:List Br):(if p = [] then c else eachC p c).holds t=(kidsP p t).all fun l=>c.holds l:=by
 by_cases h:p = []
 ·subst h
  rw [if_pos rfl]
  unfold kidsP
  rw [if_pos rfl]
  simp
 ·rw [if_neg h]
  unfold eachC
  rw [Cond.holds]
  simp [Cond.holdsH]
theorem under_right {c:Cond} {p:Str} (h:(underN c p).2=0):c.err=0∧groupsErr p=0∧(underN c p).1=(if p = [] then c else eachC p c)∧(underN c p).1.err=0:=by
 unfold underN at h ⊢
 by_cases g1:c.err=0
 ·rw [if_neg (by simpa using g1)] at h ⊢
  by_cases g2:groupsErr p=0
  ·rw [if_neg (by simpa using g2)] at h ⊢
   by_cases g3:p = []
   ·rw [if_pos g3,if_pos g3]
    exact ⟨g1,g2,rfl,g1⟩
   ·rw [if_neg g3] at h
    rw [if_neg g3,if_neg g3]
    by_cases g4:(eachC p c).err=0
    ·rw [if_neg (by simpa using g4)]
     exact ⟨g1,g2,rfl,g4⟩
    ·rw [if_pos g4] at h
     exact absurd h g4
  ·rw [if_pos g2] at h
   exact absurd h g2
 ·rw [if_pos g1] at h
  exact absurd h g1
theorem under_none {c:Cond} {p:Str} (h:(underN c p).2 ≠ 0):(underN c p).1=noneC:=by
 unfold underN at h ⊢
 by_cases g1:c.err ≠ 0
 ·rw [if_pos g1]
 ·rw [if_neg g1] at h ⊢
  by_cases g2:groupsErr p ≠ 0
  ·rw [if_pos g2]
  ·rw [if_neg g2] at h ⊢
   by_cases g3:p = []
   ·rw [if_pos g3] at h;exact absurd rfl h
   ·rw [if_neg g3] at h ⊢
    by_cases g4:(eachC p c).err ≠ 0
    ·rw [if_pos g4]
    ·rw [if_neg g4] at h;exact absurd rfl h
def TxtL (l:List Br):Prop:=l.length≤9223372036854775807∧∀ b ∈ l,b.Txt
theorem inside_txt:∀ (ns:List Str) {t:List Br},TxtL t→∀ x ∈ inside1 ns t,TxtL x
 |[],t,h,x,hx=>by
  rw [inside1] at hx
  obtain rfl:=List.mem_singleton.1 hx
  exact h
 |n::ns,t,h,x,hx=>by
  rw [inside1] at hx
  obtain ⟨b,hb,hx⟩:=List.mem_flatMap.1 hx
  have hbt:=h.2 b (List.mem_filter.1 hb).1
  cases hbt with
  |mk h1 h2 h3 h4 h5=>exact inside_txt ns ⟨h5,h4⟩ x hx
theorem group_txt {p:Str} {t:List Br} (h:TxtL t):∀ x ∈ kidsP p t,TxtL x:=fun x hx=>by
 unfold kidsP at hx
 split at hx
 ·obtain rfl:=List.mem_singleton.1 hx
  exact h
 ·exact inside_txt _ h x hx
theorem kids_few {p:Str} {t:List Br} (h:Br.sizes t≤20000):(kidsP p t).length≤20001:=by
 unfold kidsP
 split
 ·simp
 ·have h1:=inside_sz (partsAt 47 p) t
  have h2:=lszs_len (inside1 (partsAt 47 p) t)
  omega
theorem groups_sem (p:Str) (t:List Br) (hl:t.length≤9223372036854775807) (htt:∀ b ∈ t,b.Txt):Sem Tryz.prog 7 [.sl 0 4 (t.map Br.row),.str p] (.tup [.sl 0 1 (if groupsN p t ≠ 0 then [] else (kidsP p t).map klR),.int .i64 (groupsN p t)]):=by
 have c1:=checkTree_sem t hl htt
 have c2:=checkGroups_sem p
 by_cases g1:treeErr t=0
 ·have hgN:groupsN p t=groupsErr p:=by
   unfold groupsN
   rw [if_neg (by simpa using g1)]
  rw [hgN]
  rw [g1] at c1
  by_cases g2:groupsErr p=0
  ·rw [g2,if_neg (by simp)]
   rw [g2] at c2
   have hsz:=tree_sizes g1
   have hpl:=groups_len g2
   have c3:=Kids_sem t p (by omega) (by omega)
   have hfew:=kids_few (p:=p) (t:=t) (by omega)
   have hgr:∀ x ∈ kidsP p t,Br.sizes x≤100000∧∀ b ∈ x,b.Nar:=fun x hx=>by
    have h:=group_right g1 x hx
    exact ⟨by have:=tree_sizes h;omega,tree_nar h⟩
   generalize kidsP p t=ls at c3 hfew hgr ⊢
   have hll:(ls.map klR).length=ls.length:=List.length_map _
   refine si [1000016,1000021,1000047] Tryz.func7 ?_
   repeat'((conv=>whnf);first|(try(first|apply eN|apply eI|apply eC);conv=>whnf);apply sD;(focus first|exact gx c1|exact gx c2|exact gx c3|(refine gx (checkTree_sem ?_ ?_ ?_)<;>exact pre)|(refine gx (checkGroups_sem ?_)<;>exact pre)|(refine gx (Kids_sem ?_ ?_ ?_ ?_)<;>exact pre)|exact side)|apply rR|apply rE|apply rH| (apply cD<;>intro hb<;>(try simp only[SPLT]at hb)<;>try exact noB))
   all_goals try exact false
   refine loop_go (M:=fun t=>mem t [1000016,1000021,1000047]) hT hM (fun k:Nat => [(25,.int .i64 k),(8,.sl 2 1 ((ls.take k).map klR))]) (fun k=>k≤ls.length) (fun k=>ls.length - k) (0) ?_ ?_ ?_
   ·exact finF
   ·omega
   ·intro k hk
    have htl:((ls.take k).map klR).length=k:=by simp;omega
    rcases hx:ls[k]? with _|x
    ·have hke:k=ls.length:=by have:=List.getElem?_eq_none_iff.1 hx;omega
     subst hke
     rw [List.take_length]
     repeat'((conv=>whnf);first|(try(first|apply eN|apply eI|apply eC);conv=>whnf);apply sD;(focus first|(refine gx (checkTree_sem ?_ ?_ ?_)<;>exact pre)|(refine gx (checkGroups_sem ?_)<;>exact pre)|(refine gx (Kids_sem ?_ ?_ ?_ ?_)<;>exact pre)|exact side)|apply rR|apply rE|apply rH| (apply cD<;>intro hb<;>(try simp only[SPLT]at hb)<;>try exact noB))
     all_goals try exact false
     exact finR
    ·have hlt:=(gLt hx)
     obtain ⟨q1,q2⟩:=hgr x (gMem hx)
     have c4:=cloneTree_sem (Br.sizes x) x (Nat.le_refl _) q1 q2
     have htk:(ls.take (k+1)).map klR=(ls.take k).map klR ++ [[.sl 0 4 (x.map Br.row)]]:=by
      rw [List.take_add_one,hx,Option.toList_some,List.map_append]
      rfl
     repeat'((conv=>whnf);first|(try(first|apply eN|apply eI|apply eC);conv=>whnf);apply sD;(focus first|(exact idx_eq (f:=klR) hx rfl)|exact gx c4|(refine gx (checkTree_sem ?_ ?_ ?_)<;>exact pre)|(refine gx (checkGroups_sem ?_)<;>exact pre)|(refine gx (Kids_sem ?_ ?_ ?_ ?_)<;>exact pre)|exact side)|apply rR|apply rE|apply rH| (apply cD<;>intro hb<;>(try simp only[SPLT]at hb)<;>try exact noB))
     all_goals try exact false
     refine ⟨k+1,by omega,by omega,?_⟩
     rw [htk]
     exact finF
  ·rw [if_pos g2]
   generalize groupsErr p=e at c2 g2 ⊢
   refine si [1000016,1000021,1000047] Tryz.func7 ?_
   repeat'((conv=>whnf);first|(try(first|apply eN|apply eI|apply eC);conv=>whnf);apply sD;(focus first|exact gx c1|exact gx c2|(refine gx (checkTree_sem ?_ ?_ ?_)<;>exact pre)|(refine gx (checkGroups_sem ?_)<;>exact pre)|(refine gx (Kids_sem ?_ ?_ ?_ ?_)<;>exact pre)|exact side)|apply rR|apply rE|apply rH| (apply cD<;>intro hb<;>(try simp only[SPLT]at hb)<;>try exact noB))
   all_goals try exact false
   exact finR
 ·have hgN:groupsN p t=treeErr t:=by
   unfold groupsN
   rw [if_pos g1]
  rw [hgN,if_pos g1]
  generalize treeErr t=e at c1 g1 ⊢
  refine si [1000016,1000021,1000047] Tryz.func7 ?_
  repeat'((conv=>whnf);first|(try(first|apply eN|apply eI|apply eC);conv=>whnf);apply sD;(focus first|exact gx c1|(refine gx (checkTree_sem ?_ ?_ ?_)<;>exact pre)|(refine gx (checkGroups_sem ?_)<;>exact pre)|(refine gx (Kids_sem ?_ ?_ ?_ ?_)<;>exact pre)|exact side)|apply rR|apply rE|apply rH| (apply cD<;>intro hb<;>(try simp only[SPLT]at hb)<;>try exact noB))
  all_goals try exact false
  exact finR
theorem law29_sem (c:Cond) (p:Str) (t:List Br) (ht:c.Txt) (hl:t.length≤9223372036854775807) (htt:∀ b ∈ t,b.Txt):Sem Tryz.prog 3 [.agg c.row,.str p,.sl 0 4 (t.map Br.row)] (.bool true):=by
 have h1:=under_sem c p ht
 have h7:=awake4_sem
 by_cases g1:(underN c p).2=0
 ·obtain ⟨e1,e2,e3,e4⟩:=under_right g1
  have h2:=Holds_sem (underN c p).1 t hl htt
  unfold holdsN at h2
  rw [if_neg (show ¬ (underN c p).1.err ≠ 0 by simpa using e4)] at h2
  rw [g1] at h1
  by_cases g2:treeErr t=0
  ·rw [if_neg (by simpa using g2)] at h2
   have h3:=groups_sem p t hl htt
   have hg:groupsN p t=0:=by
    unfold groupsN
    rw [if_neg (by simpa using g2)]
    exact e2
   rw [hg,if_neg (by simp)] at h3
   rw [e3,under_holdsT] at h2
   rw [e3] at h1
   have hfew:=kids_few (p:=p) (t:=t) (by have:=tree_sizes g2;omega)
   have hgr:∀ x ∈ kidsP p t,Sem Tryz.prog 6 [.agg c.row,.sl 0 4 (x.map Br.row)] (.tup [.bool (c.holds x),.int .i64 0]):=fun x hx=>by
    have h:=group_right g2 x hx
    have hx2:=group_txt (p:=p) ⟨hl,htt⟩ x hx
    have h4:=Holds_sem c x hx2.1 hx2.2
    unfold holdsN at h4
    rw [if_neg (by simpa using e1),if_neg (by simpa using h)] at h4
    exact h4
   generalize kidsP p t=ls at h2 h3 hfew hgr
   have hll:(ls.map klR).length=ls.length:=List.length_map _
   generalize (if p = [] then c else eachC p c)=d at h1 h2
   have hdr:d.row.length=6:=by obtain ⟨k,ks,q,vs,lo,hi⟩:=d;rw [Cond.row_mk];rfl
   obtain ⟨k2,ks2,p2,vs2,lo2,hi2⟩:=d
   obtain ⟨k,ks,q,vs,lo,hi⟩:=c
   generalize hH:(fun l=>(Cond.mk k ks q vs lo hi).holds l)=f at h2
   have hgr:∀ x ∈ ls,Sem Tryz.prog 6 [.agg (Cond.mk k ks q vs lo hi).row,.sl 0 4 (x.map Br.row)] (.tup [.bool (f x),.int .i64 0]):=fun x hx=>by
    rw [← hH]
    exact hgr x hx
   clear hH hdr
   rw [Cond.row_mk] at h1 h2 hgr ⊢
   rw [Cond.row_mk] at h1
   refine si [7,2000007,1000016,1000021,1000047] Tryz.func3 ?_
   repeat'((conv=>whnf);first|(try(first|apply eN|apply eI|apply eC);conv=>whnf);apply sD;(focus(try intro hc;have hc0:=hc;(try simp only[SPLT]at hc);try refine and0 ?_);first|exact gx h1|exact gx h2|exact gx h3|(refine gx (under_sem ?_ ?_ ?_)<;>exact pre)|(refine gx (awake4_sem )<;>exact pre)|(refine gx (Holds_sem ?_ ?_ ?_ ?_)<;>exact pre)|(refine gx (groups_sem ?_ ?_ ?_ ?_)<;>exact pre)|exact sideG)|(first|apply dG|apply kB);kernel_rfl|apply rR|apply rE|apply rH| (apply cD<;>intro hb<;>(try simp only[SPLT]at hb)<;>try exact noB))
   all_goals try exact false
   refine loop_go (M:=fun t=>mem t [7,2000007,1000016,1000021,1000047]) hT hM (fun k:Nat => [(12,.int .i64 k),(11,.bool ((ls.take k).all f))]) (fun k=>k≤ls.length) (fun k=>ls.length - k) (0) ?_ ?_ ?_
   ·exact finF
   ·omega
   ·intro k hk
    rcases hx:ls[k]? with _|x
    ·have hke:k=ls.length:=by have:=List.getElem?_eq_none_iff.1 hx;omega
     subst hke
     rw [List.take_length]
     repeat'((conv=>whnf);first|(try(first|apply eN|apply eI|apply eC);conv=>whnf);apply sD;(focus(try intro hc;have hc0:=hc;(try simp only[SPLT]at hc);try refine and0 ?_);first|exact gx h7|(refine gx (under_sem ?_ ?_ ?_)<;>exact pre)|(refine gx (awake4_sem )<;>exact pre)|(refine gx (Holds_sem ?_ ?_ ?_ ?_)<;>exact pre)|(refine gx (groups_sem ?_ ?_ ?_ ?_)<;>exact pre)|exact sideG)|(first|apply dG|apply kB);kernel_rfl|apply rR|apply rE|apply rH| (apply cD<;>intro hb<;>(try simp only[SPLT]at hb)<;>try exact noB))
     all_goals try exact false
     repeat' ((conv=>whnf);first|exact endR|with_reducible first|apply And.intro|apply oR|apply oN|apply dC)
     all_goals (conv=>whnf)
     exact rle_bool (by simp)
    ·have hlt:=(gLt hx)
     have h4:=hgr x (gMem hx)
     have htk:(ls.take (k+1)).all f=((ls.take k).all f && f x):=by
      rw [List.take_add_one,hx,Option.toList_some,List.all_append]
      simp
     repeat'((conv=>whnf);first|(try(first|apply eN|apply eI|apply eC);conv=>whnf);apply sD;(focus(try intro hc;have hc0:=hc;(try simp only[SPLT]at hc);try refine and0 ?_);first|(exact idx_eq (f:=klR) hx rfl)|exact gx h4|(refine gx (under_sem ?_ ?_ ?_)<;>exact pre)|(refine gx (awake4_sem )<;>exact pre)|(refine gx (Holds_sem ?_ ?_ ?_ ?_)<;>exact pre)|(refine gx (groups_sem ?_ ?_ ?_ ?_)<;>exact pre)|exact sideG)|(first|apply dG|apply kB);kernel_rfl|apply rR|apply rE|apply rH| (apply cD<;>intro hb<;>(try simp only[SPLT]at hb)<;>try exact noB))
     all_goals try exact false
     refine ⟨k+1,by omega,by omega,?_⟩
     rw [htk]
     exact finF
  ·rw [if_pos g2] at h2
   generalize treeErr t=e at h2 g2
   generalize (underN c p).1=d at h1 h2
   obtain ⟨k2,ks2,p2,vs2,lo2,hi2⟩:=d
   obtain ⟨k,ks,q,vs,lo,hi⟩:=c
   rw [Cond.row_mk] at h1 h2 ⊢
   rw [Cond.row_mk] at h1
   refine si [7,2000007,1000016,1000021,1000047] Tryz.func3 ?_
   repeat'((conv=>whnf);first|(try(first|apply eN|apply eI|apply eC);conv=>whnf);apply sD;(focus(try intro hc;have hc0:=hc;(try simp only[SPLT]at hc);try refine and0 ?_);first|exact gx h1|exact gx h2|exact gx h7|(refine gx (under_sem ?_ ?_ ?_)<;>exact pre)|(refine gx (awake4_sem )<;>exact pre)|(refine gx (Holds_sem ?_ ?_ ?_ ?_)<;>exact pre)|(refine gx (groups_sem ?_ ?_ ?_ ?_)<;>exact pre)|exact sideG)|(first|apply dG|apply kB);kernel_rfl|apply rR|apply rE|apply rH| (apply cD<;>intro hb<;>(try simp only[SPLT]at hb)<;>try exact noB))
   all_goals try exact false
   exact finR
 ·rw [under_none g1] at h1
  generalize (underN c p).2=e at h1 g1
  dsimp only [noneC] at h1
  obtain ⟨k,ks,q,vs,lo,hi⟩:=c
  rw [Cond.row_mk] at h1 ⊢
  rw [Cond.row_mk] at h1
  refine si [7,2000007,1000016,1000021,1000047] Tryz.func3 ?_
  repeat'((conv=>whnf);first|(try(first|apply eN|apply eI|apply eC);conv=>whnf);apply sD;(focus(try intro hc;have hc0:=hc;(try simp only[SPLT]at hc);try refine and0 ?_);first|exact gx h1|exact gx h7|(refine gx (under_sem ?_ ?_ ?_)<;>exact pre)|(refine gx (awake4_sem )<;>exact pre)|(refine gx (Holds_sem ?_ ?_ ?_ ?_)<;>exact pre)|(refine gx (groups_sem ?_ ?_ ?_ ?_)<;>exact pre)|exact sideG)|(first|apply dG|apply kB);kernel_rfl|apply rR|apply rE|apply rH| (apply cD<;>intro hb<;>(try simp only[SPLT]at hb)<;>try exact noB))
  all_goals try exact false
  exact finR
end Go.Proofs.YtdhlopciapncfaaGreatDoor
