/- The rule with one operation among the others that writes what is there. Regions whose order Go leaves open: whatever the order, the data are the same. Regions whose order Go leaves open: the proof. -/
import Derived.Test.YtnlbekongmkmjaaGreatDoorZ1
import Derived.Test.YtnlbekongmkmjaaGreatDoorZ6
namespace Go.Proofs.YtnlbekongmkmjaaGreatDoor
set_option linter.unusedSimpArgs false
set_option linter.unusedVariables false
open Go.RowKit
section
variable (P:Program) (ops:Array Oper) (Q:Exit→Act→World→Prop)
def StepG (R:World→World→Prop) (o:Oper) (s:Spec) (a:Act) (w:World):Prop:=
 if Region.wanted o (yielded ops a.tmps)=true then
  ∀ K:Act→World→Prop,(∀ u w',s.fact u w'→R w w'→K (a.put o.dst (s.shape u)) w')→o.wp P a w K (NoPanic Q)∨(o.asks P a w∧LetsOut (NoPanic Q))
 else ∃ u,s.shape u=undef∧s.fact u w
structure Ways where
 R:World→World→Prop
 c:Nat
 late:Nat→Bool
 base:∀ w w',Ext w w'→R w w'
 trans:∀ a b c,R a b→R b c→R a c
def Ways.sees (W:Ways) (i:Nat):World→World→Prop:=if i=W.c then Ext else W.R
def Ways.does (W:Ways) (i:Nat):World→World→Prop:=if i=W.c then W.R else Ext
theorem Ways.self (W:Ways) (i:Nat) (w:World):W.does i w w:=by
 unfold Ways.does
 split
 ·exact W.base _ _ (Ext.refl w)
 ·exact Ext.refl w
def ParW (W:Ways) (w0:World):Nat→List Oper→List Spec→List (World→Prop)→Act→Prop
 |_,[],_,fs,a=>∀ w,W.R w0 w→(∀ f ∈ fs,f w)→Q .normal a w
 |_,_::_,[],_,_=>False
 |i,o::r,s::ss,fs,a=>
  (∀ w,W.sees i w0 w→(∀ e ∈ o.after.toList,Region.binds .any e=true→(fs.getD e.on (fun _=>True)) w)→StepG P ops Q (W.does i) o s a w)∧
  (W.late i=false→∀ u w w',W.R w w'→s.fact u w→s.fact u w')∧
  ∀ u,ParW W w0 (i+1) r ss (fs ++ [s.fact u]) (a.put o.dst (s.shape u))
end
section
variable {P:Program} {Q:Exit→Act→World→Prop}
theorem stepG_tail {R:World→World→Prop} {ops:Array Oper} {l:List Oper} {m:Nat} {o:Oper} {s:Spec} {a:Act} {w:World} (h:StepG P ops (tailQ P l m Q) R o s a w):StepG P ops Q R o s a w:=by
 have hp:∀ c a w,NoPanic (tailQ P l m Q) (.panic c) a w→NoPanic Q (.panic c) a w:=fun _ _ _ h=>h
 have ho:LetsOut (NoPanic (tailQ P l m Q))→LetsOut (NoPanic Q):=fun ⟨a,w,h⟩=>⟨a,w,h⟩
 unfold StepG at *
 split
 ·rename_i hw
  rw [if_pos hw] at h
  intro K hK
  rcases h K hK with h1|h1
  ·exact .inl (wp_otherQ hp ho h1)
  ·exact .inr ⟨h1.1,ho h1.2⟩
 ·rename_i hw
  rw [if_neg hw] at h
  exact h
theorem parw_at {ops:Array Oper} {W:Ways} {w0:World} {env:Nat→Unk}:∀ (l:List Oper) (ss:List Spec) (fs:List (World→Prop)) (k:Nat) (a:Act),ParW P ops Q W w0 k l ss fs a→fs.length=k→
  ∀ (i:Nat) (o:Oper),l[i]?=some o→∃ s,ss[i]?=some s∧∃ gs:List (World→Prop),gs.length=i∧(∀ j (sj:Spec),j < i→ss[j]?=some sj→gs[j]?=some (sj.fact (env (k+j))))∧
   (∀ w,W.sees (k+i) w0 w→(∀ e ∈ o.after.toList,Region.binds .any e=true→((fs++gs).getD e.on (fun _=>True)) w)→StepG P ops Q (W.does (k+i)) o s (fillD env (fun j=>decide (j < k+i)) l ss k a) w)∧(W.late (k+i)=false→∀ u w w',W.R w w'→s.fact u w→s.fact u w')
 |[],_,_,_,_,_,_,_,_,h=>by simp at h
 |_::_,[],_,_,_,h,_,_,_,_=>h.elim
 |o'::r,s'::ss,fs,k,a,h,hk,0,o,ho=>by
  simp only [List.getElem?_cons_zero,Option.some.injEq] at ho
  subst ho
  refine ⟨s',rfl,[],rfl,fun j _ hj=>by omega,fun w hw hf => ?_,h.2.1⟩
  have hnone:∀ (l:List Oper) (ss:List Spec) (m:Nat) (a:Act),k≤m→fillD env (fun j=>decide (j < k+0)) l ss m a=a:=by
   intro l
   induction l with
   |nil=>intro ss m a _;simp [fillD]
   |cons o r ih=>intro ss m a hm;cases ss with
    |nil=>simp [fillD]
    |cons s ss=>simp only [fillD];rw [if_neg (by simp;omega)];exact ih ss (m+1) a (by omega)
  rw [hnone _ _ _ _ (Nat.le_refl _)]
  exact h.1 w hw (by simpa using hf)
 |o'::r,s'::ss,fs,k,a,h,hk,i+1,o,ho=>by
  obtain ⟨s,hs,gs,hl,hg,hstep,hmono⟩:=parw_at r ss (fs ++ [s'.fact (env k)]) (k+1) _ (h.2.2 (env k)) (by simp [hk]) i o (by simpa using ho)
  refine ⟨s,by simpa using hs,s'.fact (env k)::gs,by simp [hl],fun j sj hj hsj => ?_,fun w hw hf => ?_,?_⟩
  ·cases j with
   |zero=>simp at hsj;subst hsj;rfl
   |succ j=>have:=hg j sj (by omega) (by simpa using hsj);simpa [Nat.add_assoc,Nat.add_comm 1 j] using this
  ·have e:k+1+i=k+(i+1):=by omega
   rw [e] at hstep
   have:=hstep w hw (by simpa using hf)
   simp only [fillD]
   rw [if_pos (by simp)]
   exact this
  ·have e:k+1+i=k+(i+1):=by omega
   rwa [e] at hmono
theorem parw_end {ops:Array Oper} {W:Ways} {w0:World} {env:Nat→Unk}:∀ (l:List Oper) (ss:List Spec) (fs:List (World→Prop)) (k:Nat) (a:Act),ParW P ops Q W w0 k l ss fs a→
  ∀ w,W.R w0 w→(∀ f ∈ fs,f w)→(∀ j (s:Spec),j < l.length→ss[j]?=some s→s.fact (env (k+j)) w)→Q .normal (fillD env (fun _=>true) l ss k a) w
 |[],_,_,_,_,h,w,hw,hf,_=>by simpa [fillD] using h w hw hf
 |_::_,[],_,_,_,h,_,_,_,_=>h.elim
 |o::r,s::ss,fs,k,a,h,w,hw,hf,hs=>by
  simp only [fillD,if_true]
  refine parw_end r ss _ (k+1) _ (h.2.2 (env k)) w hw (fun f hm => ?_) (fun j s' hj hs' => ?_)
  ·rcases List.mem_append.1 hm with hm|hm
   ·exact hf f hm
   ·simp only [List.mem_singleton] at hm;subst hm;simpa using hs 0 s (by simp) rfl
  ·have:=hs (j+1) s' (by simpa using hj) (by simpa using hs')
   simpa [Nat.add_assoc,Nat.add_comm 1 j] using this
theorem wp_region_ways {id:Nat} (m:Nat) (W:Ways) {l:List Oper} {a:Act} {w:World} (hm:P.follows .mixedOrders=true) (hok:parOk l.toArray=true) (htl:tailOk l.toArray m=true) (hml:m≤l.length) (hlate:∀ i,W.late i=true→i ≠ W.c→reachB l.toArray l.toArray.size i W.c=true)
  (hin:(l.all fun o=>match o.dst with|some d=>decide (d < a.tmps.size)|none=>true)=true) {ss:List Spec}
  (h:ParW P l.toArray (tailQ P l m Q) W w 0 (l.take m) ss [] a):(Code.region id l.toArray true).wp P Q a w:=by
 refine wp_region_noPanic (wp_region_any hm ?_)
 have hops:∀ i:Nat,l.toArray[i]?=l[i]?:=fun i=>by simp
 obtain ⟨L,hL⟩:∃ L,L=l.take m:=⟨_,rfl⟩
 rw [← hL] at h
 have hLl:L.length=m:=by rw [hL,List.length_take];omega
 have hLi:∀ i o,L[i]?=some o→l[i]?=some o∧i < m:=fun i o ho=>by
  have hi:i < L.length:=(gLt ho)
  rw [hL,List.getElem?_take] at ho
  split at ho
  ·exact ⟨ho,by omega⟩
  ·cases ho
 have hLo:∀ i o,i < m→l[i]?=some o→L[i]?=some o:=fun i o hi ho=>by rw [hL,List.getElem?_take,if_pos hi];exact ho
 have hlen:∀ (i:Nat) (o:Oper),L[i]?=some o→∃ s,ss[i]?=some s:=fun i o ho=>by
  obtain ⟨s,hs,_⟩:=parw_at (env:=fun _=>default) L ss [] 0 a h rfl i o ho
  exact ⟨s,hs⟩
 have inb:∀ (i:Nat) (o:Oper),l[i]?=some o→∀ d,o.dst=some d→d < a.tmps.size:=fun i o ho d hd=>by
  have:=List.all_eq_true.1 hin o (gMem ho)
  simpa [hd] using this
 have key:∀ (fuel:Nat) (listed:Array Bool) (b:Act) (w1:World) (env:Nat→Unk),listed.size=l.length→l.length≤fuel+listed.toList.countP (fun x=>x)→((listed.getD W.c false=false→Ext w w1)∧W.R w w1)→
   b=fillD env (fun j=>listed.getD j false) L ss 0 a→(∀ j (s:Spec),listed.getD j false=true→ss[j]?=some s→s.fact (env j) w1)→
   (∀ j o,l[j]?=some o→listed.getD j false=true→∀ e ∈ o.after,Region.binds .any e=true→listed.getD e.on false=true)→(∀ j,m≤j→listed.getD j false=false)→
   wpAny P .any l.toArray (NoPanic Q) fuel listed b w1:=by
  intro fuel
  have finish:∀ (listed:Array Bool) (b:Act) (w1:World) (env:Nat→Unk),(∀ j,j < m→listed.getD j false=true)→W.R w w1→
    b=fillD env (fun j=>listed.getD j false) L ss 0 a→(∀ j (s:Spec),listed.getD j false=true→ss[j]?=some s→s.fact (env j) w1)→wpList P l.toArray (NoPanic Q) (l.drop m) b w1:=by
   intro listed b w1 env hall hw hb hf
   have e:fillD env (fun j=>listed.getD j false) L ss 0 a=fillD env (fun _=>true) L ss 0 a:=by
    refine act_ext (by rw [fillD_defers,fillD_defers]) fun t=>fillD_agree L ss 0 a a rfl rfl fun j o ho _ => ?_
    simp only [Nat.zero_add]
    exact hall j (hLi j o ho).2
   rw [hb,e]
   exact parw_end (Q:=tailQ P l m Q) (env:=env) L ss [] 0 a h w1 hw (by simp) (fun j s hj hs=>by
    simp only [Nat.zero_add]
    exact hf j s (hall j (by omega)) hs)
  have fin:∀ (listed:Array Bool) (b:Act) (w1:World) (env:Nat→Unk),(∀ j,j < l.length→listed.getD j false=true)→(∀ j,m≤j→listed.getD j false=false)→W.R w w1→
    b=fillD env (fun j=>listed.getD j false) L ss 0 a→(∀ j (s:Spec),listed.getD j false=true→ss[j]?=some s→s.fact (env j) w1)→NoPanic Q .normal b w1:=by
   intro listed b w1 env hall hnt hw hb hf
   have hlm:l.length≤m:=by
    rcases Nat.lt_or_ge m l.length with h1|h1
    ·have h2:=hall m h1
     rw [hnt m (Nat.le_refl _)] at h2
     cases h2
    ·exact h1
   have:=finish listed b w1 env (fun j hj=>hall j (by omega)) hw hb hf
   rw [List.drop_of_length_le hlm] at this
   exact this
  have allOf:∀ listed:Array Bool,listed.size=l.length→Region.ready .any l.toArray listed = []→∀ j,j < l.length→listed.getD j false=true:=by
   intro listed hsz hr j
   induction j using Nat.strongRecOn with
   |_ j ih=>
    intro hj
    cases hb:listed.getD j false with
    |true=>rfl
    |false=>
     exfalso
     have hm:j ∈ Region.ready .any l.toArray listed:=by
      rw [mem_ready]
      refine ⟨?_,l[j],by simp [hj],fun e he hbd=>ih e.on (parOk_before hok (by simp [hj]) he hbd) ?_⟩
      ·have hjs:j < listed.size:=by omega
       simp [hjs] at hb ⊢
       exact hb
      ·have:=parOk_before hok (i:=j) (o:=l[j]) (by simp [hj]) he hbd
       omega
     rw [hr] at hm
     cases hm
  induction fuel with
  |zero=>
   intro listed b w1 env hsz hfu hw hb hf hcl hnt
   have hall:∀ j,j < l.length→listed.getD j false=true:=by
    intro j hj
    have hc:listed.toList.countP (fun x=>x)=listed.toList.length:=by
     have:=List.countP_le_length (p:=fun x=>x) (l:=listed.toList)
     simp only [Array.length_toList] at *
     omega
    have:=List.countP_eq_length.1 hc
    have hjs:j < listed.size:=by omega
    simp [hjs]
    exact this _ (by simp)
   refine ⟨?_,fin listed b w1 env hall hnt hw.2 hb hf⟩
   rw [List.eq_nil_iff_forall_not_mem]
   intro j hj
   obtain ⟨h0,o,ho,_⟩:=mem_ready.1 hj
   have hjl:j < l.length:=by have:=(Array.getElem?_eq_some_iff.1 ho).1;simpa using this
   have h1:=hall j hjl
   have hjs:j < listed.size:=by omega
   simp [hjs] at h0 h1
   rw [h0] at h1
   cases h1
  |succ fuel ih=>
   intro listed b w1 env hsz hfu hw hb hf hcl hnt
   refine ⟨fun hr=>fin listed b w1 env (allOf listed hsz hr) hnt hw.2 hb hf,fun i hi => ?_⟩
   obtain ⟨h0,o,ho',hall⟩:=mem_ready.1 hi
   have ho:l[i]?=some o:=by rw [← hops];exact ho'
   have hil:i < l.length:=(gLt ho)
   have his:i < listed.size:=by omega
   have hun:listed.getD i false=false:=by
    simp [his] at h0 ⊢
    exact h0
   rcases Nat.lt_or_ge i m with him|him
   case inr=>
    have hpre:∀ j,j < i→listed.getD j false=true:=by
     intro j hj
     have h1:=List.all_eq_true.1 htl i (by simpa using hil)
     simp only [Bool.or_eq_true,decide_eq_true_eq,List.all_eq_true,List.mem_range] at h1
     rcases h1 with h1|h1
     ·omega
     ·exact reach_listed (l:=l.toArray) (fun j o ho=>hcl j o (by rw [← hops];exact ho)) _ i o j ho' hall (h1 j hj)
    have hie:i=m:=by
     rcases Nat.lt_or_ge m i with h1|h1
     ·have h2:=hpre m h1
      rw [hnt m (Nat.le_refl _)] at h2
      cases h2
     ·omega
    subst hie
    have hw3:=finish listed b w1 env (fun j hj=>hpre j hj) hw.2 hb hf
    have hall':∀ j,listed.getD j false=decide (j < i):=fun j=>by
     by_cases hj:j < i
     ·rw [hpre j hj];simp [hj]
     ·rw [hnt j (by omega)];simp [hj]
    have hcnt:listed.toList.countP (fun x=>x)=i:=count_lt listed i (by omega) hall'
    have:=(any_of_list (P:=P) (Q:=NoPanic Q) hok htl i (fuel+1) listed b w1 (Nat.le_refl _) (by omega) hsz hall' (by omega) hw3).2 i hi
    exact this
   have hoL:=hLo i o him ho
   obtain ⟨s,hs,gs,hgl,hg,hstep,_⟩:=parw_at (env:=env) L ss [] 0 a h rfl i o hoL
   have hb4:∀ e ∈ o.after,Region.binds .any e=true→e.on < i:=fun e he hbd=>parOk_before hok ho' he hbd
   have hst:=hstep w1 (by
    simp only [Nat.zero_add,Ways.sees]
    split
    ·rename_i hic;exact hw.1 (hic ▸ hun)
    ·exact hw.2) (fun e he hbd=>by
    have he':e ∈ o.after:=by simpa using he
    have hlt:=hb4 e he' hbd
    obtain ⟨sj,hsj⟩:=hlen e.on (L[e.on]'(by omega)) (by simp)
    have hge:=hg e.on sj hlt hsj
    simp only [List.nil_append,List.getD_eq_getElem?_getD,hge,Option.getD_some,Nat.zero_add]
    exact hf e.on sj (hall e he' hbd) hsj)
   simp only [Nat.zero_add] at hst
   -- the canonical frame and the frame at hand agree on what the operation looks at
   have hag:∀ t ∈ o.looksAt l.toArray,b.tmps[t]?=(fillD env (fun j=>decide (j < i)) L ss 0 a).tmps[t]?:=by
    intro t ht
    rw [hb]
    refine fillD_agree L ss 0 a a rfl rfl fun j p hpL hpt => ?_
    have hp:=(hLi j p hpL).1
    simp only [Nat.zero_add]
    by_cases hji:j=i
    ·subst hji;rw [hun];simp
    ·have hpair:=(parOk_pair hok ho' (by rw [hops];exact hp) hji hpt).2 ht
     rcases hpair with hd|hd
     ·obtain ⟨e,he,hbd,hej⟩:=depOn_spec hd
      rw [← hej,hall e he hbd]
      simp [hb4 e he hbd]
     ·obtain ⟨e,he,hbd,hej⟩:=depOn_spec hd
      have hij:i < j:=by rw [← hej];exact parOk_before hok (by rw [hops];exact hp) he hbd
      have:listed.getD j false=false:=by
       cases hlj:listed.getD j false with
       |false=>rfl
       |true=>have:=hcl j p hp hlj e he hbd;rw [hej,hun] at this;cases this
      rw [this]
      simp;omega
   have hev:∀ x ∈ o.op.operands,b.eval x=(fillD env (fun j=>decide (j < i)) L ss 0 a).eval x:=by
    intro x hx
    cases x with
    |tmp t=>
     have:=hag t (List.mem_append_left _ (List.mem_filterMap.2 ⟨.tmp t,by simpa using hx,rfl⟩))
     simp [Act.eval,this]
    |_=>rfl
   have hexe:execOp b.eval o=execOp (fillD env (fun j=>decide (j < i)) L ss 0 a).eval o:=
    execOp_congr o (fun cs bb=>Region.noSelect_spec (parOk_noSelect hok) i o cs bb ho') hev
   have hwan:Region.wanted o (yielded l.toArray b.tmps)=Region.wanted o (yielded l.toArray (fillD env (fun j=>decide (j < i)) L ss 0 a).tmps):=by
    unfold Region.wanted
    cases hgd:o.guard with
    |none=>rfl
    |some gw=>
     obtain ⟨g,want⟩:=gw
     simp only
     congr 1
     unfold yielded
     cases ht:(l.toArray[g]?).bind (·.dst) with
     |none=>rfl
     |some t=>
      have e2:=hag t (List.mem_append_right _ (by simp only [hgd];rw [ht];simp))
      simp only [Option.bind_some]
      rw [e2]
   -- what follows behind the operation
   have next:∀ u w2,s.fact u w2→W.does i w1 w2→wpAny P .any l.toArray (NoPanic Q) fuel (listed.setIfInBounds i true) (b.put o.dst (s.shape u)) w2:=by
    intro u w2 hfu2 hx
    let env':Nat→Unk:=fun j=>if j=i then u else env j
    have hset:∀ j,(listed.setIfInBounds i true).getD j false=(decide (j=i) || listed.getD j false):=by
     intro j
     by_cases hji:j=i
     ·subst hji;simp [his]
     ·rw [getD_set_ne false (Ne.symm hji)];simp [hji]
    have henv:∀ (l:List Oper) (ss:List Spec) (k:Nat) (a:Act),fillD env (fun j=>listed.getD j false) l ss k a=fillD env' (fun j=>listed.getD j false) l ss k a:=by
     intro l
     induction l with
     |nil=>intro ss k a;simp [fillD]
     |cons o r ihl=>intro ss k a;cases ss with
      |nil=>simp [fillD]
      |cons s ss=>
       simp only [fillD]
       by_cases hki:k=i
       ·subst hki
        rw [if_neg (by rw [hun];simp),if_neg (by rw [hun];simp)]
        exact ihl _ _ _
       ·have:env' k=env k:=if_neg hki
        rw [this]
        exact ihl _ _ _
    refine ih _ _ w2 env' (by simpa using hsz) ?_ ⟨fun hc => ?_,?_⟩ ?_ (fun j s' hj hs' => ?_) (fun j p hp hj e he hbd => ?_) (fun j hj=>by rw [hset,hnt j hj];simp;omega)
    ·have hc:(listed.setIfInBounds i true).toList.countP (fun x=>x)=listed.toList.countP (fun x=>x)+1:=by
      have hi':i < listed.toList.length:=by simpa using his
      simp only [Array.toList_setIfInBounds]
      rw [List.countP_set (h:=hi')]
      have:listed.toList[i]=false:=by
       have:=hun
       simp [his] at this
       simpa using this
      rw [this]
      simp
     rw [hc]
     omega
    ·rw [hset] at hc
     have hci:i ≠ W.c:=fun e=>by subst e;simp at hc
     simp only [Ways.does,if_neg hci] at hx
     exact (hw.1 (by simpa [Ne.symm hci] using hc)).trans hx
    ·refine W.trans _ _ _ hw.2 ?_
     simp only [Ways.does] at hx
     split at hx
     ·exact hx
     ·exact W.base _ _ hx
    ·rw [hb,henv]
     refine act_ext (by rw [put_defers,fillD_defers,fillD_defers]) fun t => ?_
     by_cases hdt:o.dst=some t
     ·rw [hdt,put_eq,fillD_size]
      rw [fillD_at (env:=env') L ss 0 a i o s hoL hs hdt (by rw [Nat.zero_add,hset];simp) (fun j p hpL hji=>by
       have hp:=(hLi j p hpL).1
       intro hpd
       have h2:=(parOk_pair hok ho' (by rw [hops];exact hp) hji hpd).1
       exact h2 hdt)]
      simp only [Nat.zero_add]
      have:env' i=u:=if_pos rfl
      rw [this]
     ·rw [put_ne _ _ _ _ hdt]
      refine fillD_agree L ss 0 a a rfl rfl fun j p hpL hpt => ?_
      have hp:=(hLi j p hpL).1
      rw [Nat.zero_add,hset]
      by_cases hji:j=i
      ·subst hji;rw [ho] at hp;cases hp;exact absurd hpt hdt
      ·simp [hji]
    ·rw [hset] at hj
     by_cases hji:j=i
     ·subst hji
      rw [hs] at hs'
      cases hs'
      have:env' j=u:=if_pos rfl
      rw [this]
      exact hfu2
     ·have:env' j=env j:=if_neg hji
      rw [this]
      have hj0:listed.getD j false=true:=by simpa [hji] using hj
      have hold:=hf j s' hj0 hs'
      simp only [Ways.does] at hx
      split at hx
      ·rename_i hic
       have hjl:j < l.length:=by
        rcases Nat.lt_or_ge j l.length with h1|h1
        ·exact h1
        ·have:¬ j < listed.size:=by omega
         simp [this] at hj0
       have hjm:j < m:=by
        rcases Nat.lt_or_ge j m with h1|h1
        ·exact h1
        ·rw [hnt j h1] at hj0;cases hj0
       obtain ⟨s2,hs2,_,_,_,_,hmono⟩:=parw_at (env:=env) L ss [] 0 a h rfl j l[j] (hLo j _ hjm (by simp))
       rw [hs'] at hs2
       cases hs2
       rw [Nat.zero_add] at hmono
       refine hmono ?_ _ _ _ hx hold
       cases hlj:W.late j with
       |false=>rfl
       |true=>
        exfalso
        have hjc:j ≠ W.c:=fun e=>hji (e.trans hic.symm)
        have:=reach_listed (l:=l.toArray) (fun j o ho=>hcl j o (by rw [← hops];exact ho)) _ j l[j] W.c (by simp [hjl]) (hcl j l[j] (by simp [hjl]) hj0) (hlate j hlj hjc)
        rw [← hic,hun] at this
        cases this
      ·exact s'.mono _ _ _ hx hold
    ·rw [hset] at hj ⊢
     by_cases hji:j=i
     ·subst hji
      rw [ho] at hp
      cases hp
      rw [hall e he hbd]
      simp
     ·rw [hcl j p hp (by simpa [hji] using hj) e he hbd]
      simp
   -- the step
   unfold wpOp
   simp only [ho']
   replace hst:=stepG_tail hst
   unfold StepG at hst
   rw [hwan]
   split
   ·rename_i hw'
    rw [if_pos hw'] at hst
    rcases hst (fun a' w'=>∃ v,a'=(fillD env (fun j=>decide (j < i)) L ss 0 a).put o.dst v∧∃ u,v=s.shape u∧s.fact u w'∧W.does i w1 w') (fun u w' h1 h2=>⟨_,rfl,u,rfl,h1,h2⟩) with hs1|hs1
    ·refine .inl (Oper.wp_mono (fun a' w' hh => ?_) (wp_frame hexe (fun d hd=>by rw [fillD_size];exact inb i o ho d hd) hs1))
     obtain ⟨v,rfl,u,rfl,h1,h2⟩:=hh
     exact next u w' h1 h2
    ·refine .inr ⟨?_,hs1.2⟩
     have:=hs1.1
     unfold Oper.asks at this ⊢
     rw [hexe]
     exact this
   ·rename_i hw'
    rw [if_neg hw'] at hst
    obtain ⟨u,hu,h1⟩:=hst
    rw [← hu]
    exact next u w1 h1 (W.self i w1)
 refine key l.toArray.size _ a _ (fun _=>default) (by simp) (by simp) ⟨fun _=>Ext.drew w,W.base _ _ (Ext.drew w)⟩ ?_ (fun j s hj => ?_) (fun j o _ hj => ?_) (fun j _ => ?_)
 ·have hnone:∀ (m:List Oper) (ss:List Spec) (k:Nat) (a:Act),fillD (fun _=>default) (fun j=>(Array.replicate l.toArray.size false).getD j false) m ss k a=a:=by
   intro m
   induction m with
   |nil=>intro ss k a;simp [fillD]
   |cons o r ih=>intro ss k a;cases ss with
    |nil=>simp [fillD]
    |cons s ss=>
     simp only [fillD]
     rw [if_neg (by simp [Array.getElem?_replicate];split<;>simp)]
     exact ih ss (k+1) a
  exact (hnone L ss 0 a).symm
 ·exfalso
  simp [Array.getElem?_replicate] at hj
  split at hj<;>simp at hj
 ·exfalso
  simp [Array.getElem?_replicate] at hj
  split at hj<;>simp at hj
 ·simp [Array.getElem?_replicate]
  split<;>simp
end
def frz1d:D→D
 |.sl _ sz rows=>.sl 0 sz rows
 |.mp _ _=>.any
 |d=>d
def D.frz:D→D
 |.sl _ sz rows=>.sl 0 sz rows
 |.mp _ _=>.any
 |.agg cs=>.agg (cs.map frz1d)
 |.tup ds=>.tup (ds.map fun d=>match d with
  |.agg cs=>.agg (cs.map frz1d)
  |d=>frz1d d)
 |d=>d
def frzQ (d:D):D:=match d.passes with
 |true=>d
 |false=>d.frz
def okQ (d:D):Bool:=match d.passes with
 |true=>true
 |false=>match d with
  |.tup ds=>ds.all fun d=>match d with
   |.agg cs=>cs.all D.calm1
   |d=>d.calm1
  |.agg cs=>cs.all D.calm1
  |.sl _ _ _=>true
  |_=>false
def evalQ (fr0 fr:List D):Operand→D
 |.tmp t=>match fr[t]? with
  |some (.al u)=>(fr0[u]?).getD .any
  |some (.obj cs)=>match fr0[t]? with
   |some (.obj _)=>.obj cs
   |_=>.any
  |some (.alc _ _)=>.any
  |some (.el _ _ _ _ _)=>.any
  |some (.nsl _ _ _)=>.any
  |some (.nagg _ _ _ _ _)=>.any
  |some d=>d
  |none=>.any
 |x=>evalD [] x
def usedB (all:List Oper) (t:Nat):Bool:=all.any fun o=>match o.op with
 |.build _ parts=>parts.toList.any fun x=>match x.2 with
  |.tmp y=>Nat.beq y t
  |_=>false
 |_=>false
def nslPart (fr:List D):List (Nat × Operand)→Option (Nat × Nat × Nat × List D)
 |[]=>none
 |(_,.tmp s)::r=>match fr[s]? with
  |some (.nsl sz n z)=>some (s,sz,n,z)
  |_=>nslPart fr r
 |_::r=>nslPart fr r
def partQ (fr0 fr:List D) (s:Nat):Operand→Option (List D)
 |.tmp y=>match Nat.beq y s with
  |true=>some [.al s]
  |false=>(evalQ fr0 fr (.tmp y)).cellsOf
 |x=>(evalQ fr0 fr x).cellsOf
def stepQ (P:Program) (T:Nat→Option TI) (Z:Nat→Option (List Value)) (all:List Oper) (cs:Nat) (fr0 fr:List D) (o:Oper) (K:D→Prop):Prop:=
 match o.guard with
 |none=>match o.op with
  |.move (.tmp u)=>match Nat.beq u cs with
   |true=>match fr0[u]? with
    |some _=>K (.al u)
    |none=>False
   |false=>match fr[u]? with
    |some (.sl (_+1) _ _)=>match fr0[u]? with
     |some (.sl (_+1) _ _)=>K (.al u)
     |_=>False
    |some (.al u')=>match Nat.beq u' cs with
     |true=>match fr0[u']? with
      |some _=>K (.al u')
      |none=>False
     |false=>match fr0[u']? with
      |some (.sl (_+1) _ _)=>K (.al u')
      |_=>False
    |_=>opD P T Z (evalQ fr0 fr) o.op fun s d=>andO s (match okQ d with
     |true=>force (frzQ d) K
     |false=>False)
  |.pick c x y=>pickD (evalQ fr0 fr c) x y (evalQ fr0 fr) fun s d=>andO s (force d K)
  |.alloc ty=>match Z ty with
   |some zc=>match zc.all Value.oneCell' with
    |true=>force (.obj (zeroD zc)) K
    |false=>False
   |none=>False
  |.fieldAddr ty (.tmp u) i=>match fr0[u]? with
   |some (.obj _)=>match T ty with
    |some (.st _ fl _)=>match fl[i]? with
     |some (off,_+1,_)=>K (.ref u off)
     |_=>False
    |_=>False
   |_=>opD P T Z (evalQ fr0 fr) o.op fun s d=>andO s (match okQ d with
    |true=>force (frzQ d) K
    |false=>False)
  |.load ty (.tmp u)=>match fr[u]? with
   |some (.ref x off)=>match fr0[x]? with
    |some (.obj ds)=>match ds[off]? with
     |some (.sl 2 _ _)=>match T ty with
      |some (.sl _ _ _ _)=>K (.alc x off)
      |_=>False
     |some d=>match d.one with
      |true=>match T ty with
       |some (.st _ _ _)=>False
       |some _=>force d K
       |none=>False
      |false=>False
     |none=>False
    |_=>False
   |some (.el x c sz k j)=>match fr0[x]? with
    |some (.obj ds)=>match ds[c]? with
     |some (.sl 2 sz' rows)=>match Nat.beq sz' sz with
      |true=>match T ty with
       |some (.st _ _ _)=>False
       |some _=>IdxE fun r=>SideD (0≤Int.ofNat k∧rows[(Int.ofNat k).toNat]?=some r) (match r[j]? with
        |some d=>match d.one with
         |true=>force d K
         |false=>False
        |none=>False)
       |none=>False
      |false=>False
     |_=>False
    |_=>False
   |_=>opD P T Z (evalQ fr0 fr) o.op fun s d=>andO s (match okQ d with
    |true=>force (frzQ d) K
    |false=>False)
  |.indexAddr ty (.tmp t) y=>match fr[t]? with
   |some (.alc x off)=>match fr0[x]? with
    |some (.obj ds)=>match ds[off]? with
     |some (.sl 2 sz rows)=>match T ty,evalQ fr0 fr y with
      |some (.sl _ sz' _ _),.int _ j=>match Nat.beq sz' sz with
       |true=>SideD (0≤j∧j < rows.length) (K (.el x off sz j.toNat 0))
       |false=>False
      |_,_=>False
     |_=>False
    |_=>False
   |_=>opD P T Z (evalQ fr0 fr) o.op fun s d=>andO s (match okQ d with
    |true=>force (frzQ d) K
    |false=>False)
  |.makeSlice t l c=>match o.dst with
   |some t0=>match usedB all t0 with
    |true=>match T t,evalQ fr0 fr l,evalQ fr0 fr c with
     |some (.sl _ sz by' zc),.int .i64 q,.int .i64 q2=>match Nat.ble by' 1000 && (zc.all Value.oneCell' && (zeroD zc).all D.flat1) with
      |true=>SideD (1≤q∧q≤q2∧q2≤1000000) (K (.nsl sz q.toNat (zeroD zc)))
      |false=>False
     |_,_,_=>False
    |false=>opD P T Z (evalQ fr0 fr) o.op fun s d=>andO s (match okQ d with
    |true=>force (frzQ d) K
    |false=>False)
   |none=>opD P T Z (evalQ fr0 fr) o.op fun s d=>andO s (match okQ d with
    |true=>force (frzQ d) K
    |false=>False)
  |.build ty parts=>match nslPart fr parts.toList with
   |some (s,sz,n,z)=>match T ty,Z ty with
    |some (.st _ fl _),some zc=>match zc.all Value.oneCell' with
     |true=>match fillR (fl.map fun x=>(x.1,x.2.1)) (zeroD zc) (parts.toList.map fun x=>(x.1,partQ fr0 fr s x.2)) with
      |some cs=>match alAt cs with
       |some off=>match (cs.set off .nil).all D.one with
        |true=>forceH (cs.set off .nil) fun cs=>K (.nagg cs off sz n z)
        |false=>False
       |none=>False
      |none=>False
     |false=>False
    |_,_=>False
   |none=>opD P T Z (evalQ fr0 fr) o.op fun s d=>andO s (match okQ d with
    |true=>force (frzQ d) K
    |false=>False)
  |_=>opD P T Z (evalQ fr0 fr) o.op fun s d=>andO s (match okQ d with
   |true=>force (frzQ d) K
   |false=>False)
 |some (j,want)=>match condOf all fr j want with
  |some c=>match o.op with
   |.pick cc x y=>pickD (strip (evalQ fr0 fr cc)) x y (evalQ fr0 fr) fun s d=>andO (under c (gds (evalQ fr0 fr) [cc]) s) (K (.gd c d))
   |op=>opD P T Z (fun x=>strip (evalQ fr0 fr x)) op fun s d=>andO (under c (gds (evalQ fr0 fr) op.operands.toList) s) (match d.passes with
    |true=>force (.gd c d) K
    |false=>False)
  |none=>False
def writeQ (P:Program) (cs:Nat) (d0:D) (fr0 fr:List D) (o:Oper) (K:D→Prop):Prop:=
 match o.guard with
 |some _=>False
 |none=>match o.op with
  |.call c=>match c.callee with
   |.value (.func f)=>match c.args.toList with
    |.tmp t::xs=>match Nat.beq t cs || (match fr[t]? with|some (.al u)=>Nat.beq u cs|_=>false) with
     |true=>match d0 with
      |.sl (m+1) sz rows=>CallO fun d out=>SideD (GivesO P f (.sl (m+1) sz rows) (xs.map (evalQ fr0 fr)) d out) (match okQ d with
       |true=>force (frzQ d) K
       |false=>False)
      |_=>False
     |false=>False
    |_=>False
   |_=>False
  |_=>False
def vcQ (P:Program) (T:Nat→Option TI) (Z:Nat→Option (List Value)) (all:List Oper) (k cs:Nat) (d0:D) (fr0:List D):Nat→List Oper→List D→(List D→Prop)→Prop
 |_,[],fr,K=>K fr
 |i,o::r,fr,K=>
  let K':=fun d=>match o.dst with
   |none=>vcQ P T Z all k cs d0 fr0 (i+1) r fr K
   |some t=>match fr[t]? with
    |some d1=>match d1.owns || Nat.beq t cs with
     |false=>forceL (fr.set t d) fun fr=>vcQ P T Z all k cs d0 fr0 (i+1) r fr K
     |true=>False
    |none=>False
  match Nat.beq i k with
  |false=>stepQ P T Z all cs fr0 fr o K'
  |true=>writeQ P cs d0 fr0 fr o K'
section
variable {P:Program} {T:Nat→Option TI} {Z:Nat→Option (List Value)}
theorem fresh_place (S:Sig) (w:World) (hw:WF S w):∃ p:Place,p.r ≠ 0∧p.path ≠ []∧∀ b x,S.own b=some x→¬ x.1.under p:=by
 have key:∀ n,∃ N,∀ b x,b < n→S.own b=some x→∀ y ∈ x.1.path,y < N:=by
  intro n
  induction n with
  |zero=>exact ⟨0,fun b x hb=>by omega⟩
  |succ n ih=>
   obtain ⟨N,hN⟩:=ih
   have hl:∀ l:List Nat,∃ M,∀ y ∈ l,y < M:=by
    intro l
    induction l with
    |nil=>exact ⟨0,fun y hy=>by cases hy⟩
    |cons x l ih=>
     obtain ⟨M,hM⟩:=ih
     exact ⟨max M (x+1),fun y hy=>by
      rcases List.mem_cons.1 hy with rfl|hy
      ·omega
      ·have:=hM y hy;omega⟩
   cases ho:S.own n with
   | none=>exact ⟨N,fun b x hb hx=>by
     by_cases hbn:b=n
     ·subst hbn;rw [ho] at hx;cases hx
     ·exact hN b x (by omega) hx⟩
   |some z=>
    obtain ⟨M,hM⟩:=hl z.1.path
    exact ⟨max N M,fun b x hb hx y hy=>by
     by_cases hbn:b=n
     ·subst hbn;rw [ho] at hx;cases hx;have:=hM y hy;omega
     ·have:=hN b x (by omega) hx y hy;omega⟩
 obtain ⟨N,hN⟩:=key w.heap.size
 refine ⟨⟨2,[N]⟩,by simp,by simp,fun b x hx hu => ?_⟩
 obtain ⟨_,l,hl⟩:=hu
 have:=hN b x (hw b x hx) hx N (by rw [hl];simp)
 omega
theorem Fz.frz1 {lim:Nat→Option Nat} {w:World} {v:Value} {d:D} (h:Fz lim w v d):Fz lim w v (frz1d d):=by
 cases d with
 |sl m sz rows=>
  cases h with
  |slNil=>exact .slNil 0 sz
  |slE=>exact .slE _ sz
  |sl cv a1 a2 a3 a4 a5=>exact .sl cv a1 a2 a3 a4 a5
 |mp es=>exact .any _
 |_=>exact h
theorem unown {S S':Sig} {w w':World} (hw:WF S w) (hp:PT S w S' w') {p:Place} (hf:∀ b x,S.own b=some x→¬ x.1.under p) {v:Value} {d:D} (hr:Rep S' w' p v d) (ho:okQ d=true):Fz S.lim w' v (frzQ d):=by
 have hlim:∀ {v:Value} {d:D},Fz S'.lim w' v d→Fz S.lim w' v d:=fun h=>h.mono fun b o v hc hk s hs=>by
  by_cases hb:b < w.heap.size
  ·refine hk s ?_
   simp only [Sig.lim,hp.own b hb]
   exact hs
  ·exfalso
   simp only [Sig.lim] at hs
   cases hx:S.own b with
   |none=>rw [hx] at hs;cases hs
   |some x=>exact hb (hw b x hx)
 have one:∀ {q:Place} {v:Value} {d:D},q.under p→Rep S' w' q v d→d.calm1=true→Fz S.lim w' v (frz1d d):=by
  intro q v d hq hr hc
  cases hr with
  |fz h=>exact hlim h.frz1
  |@own _ b cap m sz rows cur e g=>
   have hb:¬ b < w.heap.size:=fun hb=>hf b _ ((hp.own b hb).symm.trans g.own) hq
   have hnone:S.own b=none:=by
    cases hx:S.own b with
    |none=>rfl
    |some x=>exact absurd (hw b x hx) hb
   exact g.fz2 hlim rfl fun k _ s hs=>by simp [Sig.lim,hnone] at hs
  |mp=>exact .any _
  |obj=>cases hc
  |ref=>cases hc
  |gref=>cases hc
  |fn=>cases hc
  |agg=>cases hc
  |tup=>cases hc
 have agg:∀ {q:Place} {v:Value} {cs:List D},q.under p→Rep S' w' q v (.agg cs)→cs.all D.calm1=true→Fz S.lim w' v (.agg (cs.map frz1d)):=by
  intro q v cs hq hr hc
  obtain ⟨vs,rfl,h1,h2,h3⟩:=hr.agg_inv
  refine .agg vs (by simp [h1]) h2 fun j d u hd hu => ?_
  rw [List.getElem?_map] at hd
  cases hcj:cs[j]? with
  |none=>rw [hcj] at hd;cases hd
  |some e=>
   rw [hcj] at hd
   cases hd
   exact one (Place.under_trans (Place.at_under _ j) hq) (h3 j e u hcj hu) (List.all_eq_true.1 hc e (gMem hcj))
 unfold frzQ
 split
 ·rename_i hpass
  exact hlim (hr.passes hpass)
 ·rename_i hpass
  unfold okQ at ho
  rw [hpass] at ho
  simp only at ho
  split at ho
  ·rename_i ds
   obtain ⟨vs,rfl,h1,h3⟩:=hr.tup_inv
   refine .tup vs (by simp [h1]) fun j d u hd hu => ?_
   rw [List.getElem?_map] at hd
   cases hcj:ds[j]? with
   |none=>rw [hcj] at hd;cases hd
   |some e=>
    rw [hcj] at hd
    cases hd
    have hc1:=List.all_eq_true.1 ho e (gMem hcj)
    have h4:=h3 j e u hcj hu
    have hu':=Place.at_under p j
    cases e with
    |agg cs=>exact agg hu' h4 hc1
    |_=>exact one hu' h4 hc1
  ·exact agg (Place.under_refl p) hr ho
  ·exact one (Place.under_refl p) hr rfl
  ·cases ho
def Sig.drop (S:Sig) (u:Nat):Sig:=⟨fun b=>match mine u (S.own b) with
 |true=>none
 |false=>S.own b,S.loc⟩
theorem drop_own {S:Sig} {u b:Nat} (h:mine u (S.own b)=false):(S.drop u).own b=S.own b:=by
 simp only [Sig.drop,h]
theorem drop_some {S:Sig} {u b:Nat} {x:Place × Nat} (h:(S.drop u).own b=some x):S.own b=some x∧mine u (S.own b)=false:=by
 simp only [Sig.drop] at h
 split at h
 ·cases h
 ·exact ⟨h,by assumption⟩
theorem drop_lim {S:Sig} {u:Nat} {w:World} {v:Value} {d:D} (h:Fz S.lim w v d):Fz (S.drop u).lim w v d:=h.mono fun b o v _ hk s hs=>by
 simp only [Sig.lim] at hs
 cases hx:(S.drop u).own b with
 |none=>rw [hx] at hs;cases hs
 |some x=>
  rw [hx] at hs
  exact hk s (by simp only [Sig.lim];rw [(drop_some hx).1];exact hs)
theorem drop_wf {S:Sig} {u:Nat} {w:World} (h:WF S w):WF (S.drop u) w:=⟨fun b x hx=>h b x (drop_some hx).1,h.gl.sig fun b hb=>by
 cases hx:(S.drop u).own b with
 |none=>rfl
 |some x=>rw [(drop_some hx).1] at hb;cases hb⟩
theorem unhand {S S':Sig} {w w':World} {u:Nat} (hw:WF S w) (ht:Trans (S.hand u) w S' w') {v:Value} {d:D} (hr:Rep S' w' .res v d) (ho:okQ d=true):Fz (S.drop u).lim w' v (frzQ d):=by
 have hold:∀ b x,(S.drop u).own b=some x→S'.own b=some (.dead,x.2):=fun b x hx=>by
  obtain ⟨h1,h2⟩:=drop_some hx
  have:=(hand_old ht (hw b x h1) h2).2
  rw [this,h1]
  rfl
 have hlim:∀ {v:Value} {d:D},Fz S'.lim w' v d→Fz (S.drop u).lim w' v d:=fun h=>h.mono fun b o v hc hk s hs=>by
  simp only [Sig.lim] at hs
  cases hx:(S.drop u).own b with
  |none=>rw [hx] at hs;cases hs
  |some x=>
   rw [hx] at hs
   refine hk s ?_
   simp only [Sig.lim]
   rw [hold b x hx]
   exact hs
 have one:∀ {q:Place} {v:Value} {d:D},q.r=1→Rep S' w' q v d→d.calm1=true→Fz (S.drop u).lim w' v (frz1d d):=by
  intro q v d hq hr hc
  cases hr with
  |fz h=>exact hlim h.frz1
  |@own _ b cap m sz rows cur e g=>
   have hnone:(S.drop u).own b=none:=by
    cases hx:(S.drop u).own b with
    |none=>rfl
    |some x=>
     have h1:=hold b x hx
     rw [g.own] at h1
     have h2:=congrArg Prod.fst (Option.some.inj h1)
     simp only at h2
     rw [h2] at hq
     cases hq
   exact g.fz2 hlim rfl fun k _ s hs=>by simp [Sig.lim,hnone] at hs
  |mp=>exact .any _
  |obj=>cases hc
  |ref=>cases hc
  |gref=>cases hc
  |fn=>cases hc
  |agg=>cases hc
  |tup=>cases hc
 have agg:∀ {q:Place} {v:Value} {cs:List D},q.r=1→Rep S' w' q v (.agg cs)→cs.all D.calm1=true→Fz (S.drop u).lim w' v (.agg (cs.map frz1d)):=by
  intro q v cs hq hr hc
  obtain ⟨vs,rfl,h1,h2,h3⟩:=hr.agg_inv
  refine .agg vs (by simp [h1]) h2 fun j d u hd hu => ?_
  rw [List.getElem?_map] at hd
  cases hcj:cs[j]? with
  |none=>rw [hcj] at hd;cases hd
  |some e=>
   rw [hcj] at hd
   cases hd
   exact one (q:=q.at j) hq (h3 j e u hcj hu) (List.all_eq_true.1 hc e (gMem hcj))
 unfold frzQ
 split
 ·rename_i hpass
  exact hlim (hr.passes hpass)
 ·rename_i hpass
  unfold okQ at ho
  rw [hpass] at ho
  simp only at ho
  split at ho
  ·rename_i ds
   obtain ⟨vs,rfl,h1,h3⟩:=hr.tup_inv
   refine .tup vs (by simp [h1]) fun j d u hd hu => ?_
   rw [List.getElem?_map] at hd
   cases hcj:ds[j]? with
   |none=>rw [hcj] at hd;cases hd
   |some e=>
    rw [hcj] at hd
    cases hd
    have hc1:=List.all_eq_true.1 ho e (gMem hcj)
    have h4:=h3 j e u hcj hu
    cases e with
    |agg cs=>exact agg (q:=Place.res.at j) rfl h4 hc1
    |_=>exact one (q:=Place.res.at j) rfl h4 hc1
  ·exact agg rfl hr ho
  ·exact one rfl hr rfl
  ·cases ho
end
def NewB (S:Sig) (n0:Nat) (cs:List D) (v:Value) (w:World):Prop:=∃ (b:Nat) (e:TypeId) (zc:List Value),v=.pointer (some ⟨b,0,none⟩)∧n0≤b∧S.own b=none∧w.heap[b]?=some (.cells zc.toArray e (0,0))∧cs=zeroD zc∧zc.all Value.oneCell'=true
def NewS (S:Sig) (n0 sz n:Nat) (z:List D) (v:Value) (w:World):Prop:=∃ (b cap:Nat) (cur:Array Value) (e:TypeId),v=.slice (some ⟨b,0,none⟩) n cap∧n0≤b∧S.own b=none∧w.heap[b]?=some (.cells cur e (0,0))∧1≤n∧n≤cap∧cap≤maxLen∧cur.size=cap * sz∧z.length=sz∧
 ∀ (k j:Nat) (d:D),k < n→z[j]?=some d→∃ u,cur[k * sz+j]?=some u∧u.oneCell'=true∧d.flat1=true∧Fz S.lim w u d
def NewA (S:Sig) (n0:Nat) (cs:List D) (off sz n:Nat) (z:List D) (v:Value) (w:World):Prop:=∃ (us:List Value) (u:Value),v=.agg us.toArray∧us.length=cs.length∧(∀ x:Value,x ∈ us→x.oneCell'=true)∧us[off]?=some u∧NewS S n0 sz n z u w∧
 ∀ (j:Nat) (d:D) (x:Value),j ≠ off→cs[j]?=some d→us[j]?=some x→d.one=true∧Fz S.lim w x d
theorem flat1_any {lim lim':Nat→Option Nat} {w w':World} {u:Value} {d:D} (h:d.flat1=true) (hf:Fz lim w u d):Fz lim' w' u d:=by
 cases d with
 |int k n=>cases hf;exact .int k n
 |bool b=>cases hf;exact .bool b
 |str s=>cases hf;exact .str s
 |_=>cases h
theorem NewS.keep {S:Sig} {n0 sz n:Nat} {z:List D} {v:Value} {w w':World} (hk:∀ b,b < w.heap.size→S.own b=none→w'.heap[b]?=w.heap[b]?) (h:NewS S n0 sz n z v w):NewS S n0 sz n z v w':=by
 obtain ⟨b,cap,cur,e,h1,h2,h3,h4,h5,h6,h7,h8,h9,h10⟩:=h
 refine ⟨b,cap,cur,e,h1,h2,h3,(hk b (Array.getElem?_eq_some_iff.1 h4).1 h3).trans h4,h5,h6,h7,h8,h9,fun k j d g1 g2 => ?_⟩
 obtain ⟨u,u1,u2,u3,u4⟩:=h10 k j d g1 g2
 exact ⟨u,u1,u2,u3,flat1_any u3 u4⟩
theorem NewA.keep {S:Sig} {n0:Nat} {cs:List D} {off sz n:Nat} {z:List D} {v:Value} {w w':World} (hk:∀ b,b < w.heap.size→S.own b=none→w'.heap[b]?=w.heap[b]?) (hf:∀ {x:Value} {d:D},Fz S.lim w x d→Fz S.lim w' x d) (h:NewA S n0 cs off sz n z v w):NewA S n0 cs off sz n z v w':=by
 obtain ⟨us,u,h1,h2,h3,h4,h5,h6⟩:=h
 exact ⟨us,u,h1,h2,h3,h4,h5.keep hk,fun j d x g1 g2 g3=>⟨(h6 j d x g1 g2 g3).1,hf (h6 j d x g1 g2 g3).2⟩⟩
def Fact (S:Sig) (n0:Nat) (a0:Act) (d:D) (v:Value) (w:World):Prop:=WF S w∧match d with
 |.al u=>v=a0.eval (.tmp u)
 |.ref u off=>v=.pointer (some ⟨S.loc (u+2),off,none⟩)
 |.obj cs=>NewB S n0 cs v w
 |.alc u off=>w.cell? ⟨S.loc (u+2),off,none⟩=some v
 |.el u off sz k j=>∃ s,w.cell? ⟨S.loc (u+2),off,none⟩=some s∧ElAt s sz k j v
 |.nsl sz n z=>NewS S n0 sz n z v w
 |.nagg cs off sz n z=>NewA S n0 cs off sz n z v w
 |d=>Fz S.lim w v d
theorem NewB.mono {S:Sig} {n0:Nat} {cs:List D} {v:Value} {w w':World} (hx:Ext w w') (h:NewB S n0 cs v w):NewB S n0 cs v w':=by
 obtain ⟨b,e,zc,h1,h2,h3,h4,h5⟩:=h
 have hb:b < w.heap.size:=(Array.getElem?_eq_some_iff.1 h4).1
 exact ⟨b,e,zc,h1,h2,h3,(hx.block hb).trans h4,h5⟩
theorem ext_cell {w w':World} {b o:Nat} {v:Value} (hx:Ext w w') (h:w.cell? ⟨b,o,none⟩=some v):w'.cell? ⟨b,o,none⟩=some v:=by
 rw [World.cell?_of_block (a:=⟨b,o,none⟩) (w:=w) (hx.block (cell_lt h))]
 exact h
theorem Fact.mono {S:Sig} {n0:Nat} {a0:Act} {d:D} {v:Value} {w w':World} (hx:Ext w w') (h:Fact S n0 a0 d v w):Fact S n0 a0 d v w':=by
 have hp:=PT.ext' h.1 hx
 refine ⟨hp.wf,?_⟩
 have h2:=h.2
 cases d with
 |al u=>exact h2
 |ref u off=>exact h2
 |obj cs=>exact NewB.mono hx h2
 |alc u off=>exact ext_cell hx h2
 |el u off sz k j=>
  obtain ⟨s,h3,h4⟩:=h2
  exact ⟨s,ext_cell hx h3,h4⟩
 |nsl sz n z=>exact NewS.keep (fun b hb _=>hx.block hb) h2
 |nagg cs off sz n z=>exact NewA.keep (fun b hb _=>hx.block hb) (fun h=>h.trans hp.trans) h2
 |_=>exact h2.trans hp.trans
def factSpec (S:Sig) (n0:Nat) (a0:Act) (d:D):Spec:=⟨fun u=>u.2.2,fun u w=>Fact S n0 a0 d u.2.2 w,fun _ _ _ hx h=>h.mono hx⟩
structure Rw (S:Sig) (u:Nat) (w w':World):Prop where
 os:w'.os=w.os
 tape:w'.tape=w.tape
 output:w'.output=w.output
 size:w.heap.size≤w'.heap.size
 same:∀ b,b < w.heap.size→mine u (S.own b)=false→w'.heap[b]?=w.heap[b]?
 held:∀ b p l,S.own b=some (p,l)→p.r=u+2→Keeps l w.heap[b]? w'.heap[b]?
theorem Rw.ext {S:Sig} {u:Nat} {w w':World} (h:Ext w w'):Rw S u w w':=by
 refine ⟨h.os,h.tape,h.output,h.sizeOf,fun b hb _=>h.block hb,fun b p l _ _ => ?_⟩
 by_cases hb:b < w.heap.size
 ·exact Keeps.of_eq (h.block hb)
 ·intro cur e fz hh
  rw [Array.getElem?_eq_none (by omega)] at hh
  cases hh
theorem Rw.comp {S:Sig} {u:Nat} {a b c:World} (h:Rw S u a b) (k:Rw S u b c):Rw S u a c:=
 ⟨k.os.trans h.os,k.tape.trans h.tape,k.output.trans h.output,Nat.le_trans h.size k.size,fun i hi hn=>(k.same i (Nat.lt_of_lt_of_le hi h.size) hn).trans (h.same i hi hn),fun i p l hl hr=>(h.held i p l hl hr).trans (k.held i p l hl hr) (Nat.le_refl _)⟩
theorem Rw.wf {S:Sig} {u:Nat} {w w':World} (h:Rw S u w w') (hw:WF S w):WF S w':=⟨fun b x hx=>Nat.lt_of_lt_of_le (hw b x hx) h.size,hw.gl.keep fun b hb hn=>⟨h.same b hb (by rw [hn];rfl),hn⟩⟩
theorem Rw.to {S:Sig} {u:Nat} {w w':World} (h:Rw S u w w') {S':Sig} (hS:S'=S∨S'=S.drop u):Trans S w S' w':=by
 refine ⟨h.os,h.tape,h.output,h.size,fun b hb hn => ?_,fun b p l hb hs hd => ?_,fun b p l hb hs => ?_,by rcases hS with rfl|rfl<;>rfl⟩
 ·have hno:mine u (S.own b)=false:=by rw [hn];rfl
  refine ⟨h.same b hb hno,?_⟩
  rcases hS with rfl|rfl
  ·exact hn
  ·rw [drop_own hno,hn]
 ·have hno:mine u (S.own b)=false:=by rw [hs];simp [mine,hd]
  refine ⟨h.same b hb hno,?_⟩
  rcases hS with rfl|rfl
  ·exact hs
  ·rw [drop_own hno,hs]
 ·refine ⟨?_,fun x hx => ?_⟩
  ·by_cases hno:mine u (S.own b)=false
   ·exact Keeps.of_eq (h.same b hb hno)
   ·have hq:p.r=u+2:=by rw [hs] at hno;simpa [mine] using hno
    exact h.held b p l hs hq
  ·have:S.own b=some x:=by
    rcases hS with rfl|rfl
    ·exact hx
    ·exact (drop_some hx).1
   rw [hs] at this
   cases this
   exact Nat.le_refl _
theorem Rw.rep {S:Sig} {u:Nat} {w w':World} (h:Rw S u w w') (hw:WF S w) {S':Sig} (hS:S'=S∨S'=S.drop u) {fr:List D} (hno:∀ cs,fr[u]? ≠ some (.obj cs)) {i:Nat} (hi:i ≠ u) {v:Value} {e:D} (hr:Rep S w (.slot i) v e) (hf:RefOk fr e):Rep S' w' (.slot i) v e:=by
 have old:∀ b q l,S.own b=some (q,l)→q.r ≠ u+2→w'.heap[b]?=w.heap[b]?∧S'.own b=some (q,l):=fun b q l hs hq=>by
  have hno:mine u (S.own b)=false:=by rw [hs];simp [mine,hq]
  refine ⟨h.same b (hw _ _ hs) hno,?_⟩
  rcases hS with rfl|rfl
  ·exact hs
  ·rw [drop_own hno,hs]
 have hloc:S'.loc=S.loc:=by rcases hS with rfl|rfl<;>rfl
 refine hr.trans hw (h.to hS) (by rw [hloc]) (fun b q l hs hu=>old b q l hs fun e => ?_) (fun _=>by rw [hloc]) fun t hm ho=>⟨by rw [hloc],(old _ _ _ ho fun e => ?_).2⟩
 ·have:=hu.1
  simp only [Place.slot] at this
  omega
 ·obtain ⟨cs,hc⟩:=hf t hm
  simp only [Place.slot] at e
  have:t=u:=by omega
  subst this
  exact hno cs hc
def lateOf (l:Array Oper) (c:Nat) (i:Nat):Bool:=decide (i=c) || reachB l l.size i c
def lateOk (l:Array Oper) (c:Nat):Bool:=(List.range l.size).all fun i=>match l[i]? with
 |some o=>o.after.all fun e => !Region.binds .any e || !lateOf l c e.on || (lateOf l c i && !decide (i=c))
 |none=>true
def ways (S:Sig) (l:Array Oper) (c u:Nat):Ways:=⟨Rw S u,c,lateOf l c,fun _ _ h=>Rw.ext h,fun _ _ _ h k=>h.comp k⟩
def sg (S:Sig) (l:Array Oper) (c u i:Nat):Sig:=if lateOf l c i=true then S.drop u else S
theorem late_dep {l:Array Oper} {c i:Nat} {o:Oper} (h:lateOk l c=true) (ho:l[i]?=some o) {e:Edge} (he:e ∈ o.after.toList) (hb:Region.binds .any e=true) (hl:lateOf l c e.on=true):lateOf l c i=true∧i ≠ c:=by
 have h1:=List.all_eq_true.1 h i (by simpa using (Array.getElem?_eq_some_iff.1 ho).1)
 simp only [ho] at h1
 have h2:=Array.all_eq_true'.1 h1 e (by simpa using he)
 simpa [hb,hl] using h2
def AlOk (fr0:List D) (cs u:Nat):Prop:=(u=cs∧∃ e,fr0[u]?=some e)∨∃ d',fr0[u]?=some d'∧d'.owns=true
def NmOk (fr0:List D) (cs:Nat):D→Prop
 |.al u=>AlOk fr0 cs u
 |.ref u _ | .alc u _ | .el u _ _ _ _=>∃ c,fr0[u]?=some (.obj c)
 |_=>True
structure QInv (S:Sig) (l:Array Oper) (c cs n0:Nat) (a0:Act) (fr0:List D) (pre:List Oper) (fs:List (World→Prop)) (a:Act) (fr:List D):Prop where
 size:a.tmps.size=fr.length
 len:fr.length=fr0.length
 defers:a.defers = []
 fslen:fs.length=pre.length
 slot:∀ (t:Nat) (d:D),fr[t]?=some d→(a.tmps[t]?=a0.tmps[t]?∧fr0[t]?=some d)∨
  ∃ (k:Nat) (o:Oper) (v:Value),pre[k]?=some o∧o.dst=some t∧a.tmps[t]?=some v∧fs[k]?=some (Fact (sg S l c cs k) n0 a0 d v)∧NmOk fr0 cs d
 own:∀ (u:Nat) (d:D),fr0[u]?=some d→d.owns=true→fr[u]?=some d∧a.tmps[u]?=a0.tmps[u]?
 keep:a.tmps[cs]?=a0.tmps[cs]?
theorem QInv.slot' {S:Sig} {l:Array Oper} {c cs n0:Nat} {a0:Act} {fr0:List D} {pre:List Oper} {fs:List (World→Prop)} {a:Act} {fr:List D} (h:QInv S l c cs n0 a0 fr0 pre fs a fr) (t:Nat) (d:D) (hd:fr[t]?=some d):(a.tmps[t]?=a0.tmps[t]?∧fr0[t]?=some d)∨
  (∃ (k:Nat) (o:Oper) (v:Value),pre[k]?=some o∧o.dst=some t∧a.tmps[t]?=some v∧fs[k]?=some (Fact (sg S l c cs k) n0 a0 d v)∧NmOk fr0 cs d)∧∀ x,d=.obj x→∀ c',fr0[t]? ≠ some (.obj c'):=by
 rcases h.slot t d hd with h1|h1
 ·exact .inl h1
 ·by_cases hob:∃ c',fr0[t]?=some (.obj c')
  ·obtain ⟨c',hc'⟩:=hob
   obtain ⟨g1,g2⟩:=h.own t _ hc' rfl
   rw [hd] at g1
   cases g1
   exact .inl ⟨g2,hc'⟩
  ·exact .inr ⟨h1,fun x _ c' e=>hob ⟨c',e⟩⟩
structure QC (S:Sig) (l:List Oper) (c cs:Nat) (a0:Act) (frF fr0:List D) (w0:World):Prop where
 hF:FR S w0 a0 frF
 hX:fr0=frF.set cs .any
 hno:∀ x,frF[cs]? ≠ some (.obj x)
 hok:parOk l.toArray=true
 hlate:lateOk l.toArray c=true
 nonm:∀ (i:Nat) (d:D),frF[i]?=some d→d.nm3=false
theorem QC.isNm {S:Sig} {l:List Oper} {c cs:Nat} {a0:Act} {frF fr0:List D} {w0:World} (h:QC S l c cs a0 frF fr0 w0) {i:Nat} {d:D} (hd:frF[i]?=some d) (hn:∀ x,d ≠ .al x):d.isNm=false:=by
 have:=h.nonm i d hd
 cases d<;>first|rfl|(cases this;done)|exact absurd rfl (hn _)
theorem QC.other {S:Sig} {l:List Oper} {c cs:Nat} {a0:Act} {frF fr0:List D} {w0:World} (h:QC S l c cs a0 frF fr0 w0) {i:Nat} (hi:i ≠ cs):fr0[i]?=frF[i]?:=by rw [h.hX,List.getElem?_set_ne (Ne.symm hi)]
theorem QC.at_cs {S:Sig} {l:List Oper} {c cs:Nat} {a0:Act} {frF fr0:List D} {w0:World} (h:QC S l c cs a0 frF fr0 w0) {d:D} (hd:fr0[cs]?=some d):d=.any:=by
 rw [h.hX] at hd
 have hlt:=(gLt hd)
 rw [List.getElem?_set_self (by simpa using hlt)] at hd
 cases hd
 rfl
theorem QC.hold {S:Sig} {l:List Oper} {c cs:Nat} {a0:Act} {frF fr0:List D} {w0 w:World} (h:QC S l c cs a0 frF fr0 w0) (hR:Rw S cs w0 w) {S':Sig} (hS:S'=S∨S'=S.drop cs) {i:Nat} {d:D} {v:Value} (hd:fr0[i]?=some d) (hv:a0.tmps[i]?=some v) (hn:∀ x,d ≠ .al x):Rep S' w (.slot i) v d:=by
 by_cases hi:i=cs
 ·subst hi
  obtain rfl:=h.at_cs hd
  exact .fz (.any _)
 ·rw [h.other hi] at hd
  obtain ⟨h1,h2⟩:=(h.hF.slot i d v hd hv).rep (h.isNm hd hn)
  exact hR.rep h.hF.wf hS h.hno hi h1 h2
theorem QC.wf {S:Sig} {l:List Oper} {c cs:Nat} {a0:Act} {frF fr0:List D} {w0 w:World} (h:QC S l c cs a0 frF fr0 w0) (hR:Rw S cs w0 w) {S':Sig} (hS:S'=S∨S'=S.drop cs):WF S' w:=by
 have:=hR.wf h.hF.wf
 rcases hS with rfl|rfl
 ·exact this
 ·exact drop_wf this
theorem sg_or {S:Sig} {l:Array Oper} {c cs i:Nat}:sg S l c cs i=S∨sg S l c cs i=S.drop cs:=by
 unfold sg
 split
 ·exact .inr rfl
 ·exact .inl rfl
theorem sg_to {S:Sig} {l:Array Oper} {c cs k:Nat} {S':Sig} (hS:S'=S∨S'=S.drop cs) (hl:lateOf l c k=true→S'=S.drop cs) {w:World} {v:Value} {d:D} (h:Fz (sg S l c cs k).lim w v d):Fz S'.lim w v d:=by
 unfold sg at h
 split at h
 ·rename_i hk
  rw [hl hk]
  exact h
 ·rcases hS with rfl|rfl
  ·exact h
  ·exact drop_lim h
theorem sg_loc {S:Sig} {l:Array Oper} {c cs k:Nat}:(sg S l c cs k).loc=S.loc:=by
 unfold sg
 split<;>rfl
theorem QC.refOwn {S:Sig} {l:List Oper} {c cs:Nat} {a0:Act} {frF fr0:List D} {w0 w:World} (h:QC S l c cs a0 frF fr0 w0) (hR:Rw S cs w0 w) {S':Sig} (hS:S'=S∨S'=S.drop cs) {u:Nat} {ds:List D} (hd:fr0[u]?=some (.obj ds)):S'.own (S'.loc (u+2))=some (.slot u,0)∧S'.loc=S.loc:=by
 have hlt:u < a0.tmps.size:=by
  rw [h.hF.size]
  have:=(gLt hd)
  rw [h.hX] at this
  simpa using this
 have hv:a0.tmps[u]?=some a0.tmps[u]:=by simp [hlt]
 have hr:=h.hold hR hS hd hv (fun x e=>by cases e)
 obtain ⟨b,cur,e,_,hb,hloc,_⟩:=hr.obj_inv
 exact ⟨by rw [hloc];exact hb,by rcases hS with rfl|rfl<;>rfl⟩
theorem QC.objVal {S:Sig} {l:List Oper} {c cs:Nat} {a0:Act} {frF fr0:List D} {w0:World} (h:QC S l c cs a0 frF fr0 w0) {u:Nat} {ds:List D} (hd:fr0[u]?=some (.obj ds)):a0.tmps[u]?=some (.pointer (some ⟨S.loc (u+2),0,none⟩)):=by
 have huc:u ≠ cs:=fun e=>by subst e;have:=h.at_cs hd;cases this
 rw [h.other huc] at hd
 obtain ⟨v,hv,hs⟩:=h.hF.at hd
 obtain ⟨b,cur,e,rfl,_,hloc,_⟩:=hs.1.obj_inv
 rw [hv,hloc]
section
variable {P:Program} {T:Nat→Option TI} {Z:Nat→Option (List Value)}
theorem evalD_nil {S:Sig} {w:World} {a:Act} {x:Operand} (hx:∀ t,x ≠ .tmp t):∃ q,Rep S w q (a.eval x) (evalD [] x):=by
 cases x with
 |tmp t=>exact absurd rfl (hx t)
 |const v=>
  unfold evalD Act.eval
  cases v with
  |agg cs=>exact ⟨.dead,.fz (.any _)⟩
  |_=>exact ⟨.dead,.fz (ofVal_rep _ (by intro cs hc;cases hc))⟩
 |global g=>exact ⟨.dead,.fz (.any _)⟩
 |func f=>exact ⟨.dead,.fz (.fn [] rfl (fun j d v hd=>by simp at hd))⟩
theorem tmp_eval {a:Act} {t:Nat} {v:Value} (h:a.tmps[t]?=some v):a.eval (.tmp t)=v:=by simp [Act.eval,Array.getD_eq_getD_getElem?,h]
theorem QInv.eval {S S':Sig} {c cs n0:Nat} {a0:Act} {frF fr0 fr:List D} {pre:List Oper} {fs:List (World→Prop)} {a:Act} {l:List Oper} {o:Oper} {w0 w:World} (h:QInv S l.toArray c cs n0 a0 fr0 pre fs a fr) (hC:QC S l c cs a0 frF fr0 w0) (hpre:∀ (k:Nat) (p:Oper),pre[k]?=some p→l[k]?=some p) (ho:l[pre.length]?=some o)
  (hR:Rw S cs w0 w) (hS:S'=S∨S'=S.drop cs) (hSd:∀ e ∈ o.after.toList,Region.binds .any e=true→lateOf l.toArray c e.on=true→S'=S.drop cs)
  (hf:∀ e ∈ o.after.toList,Region.binds .any e=true→(fs.getD e.on (fun _=>True)) w) {x:Operand} (hm:∀ t,x=.tmp t→t ∈ o.looksAt l.toArray):∃ q,Rep S' w q (a.eval x) (evalQ fr0 fr x):=by
 have hF:=hC.hF
 have hok:=hC.hok
 cases x with
 |tmp t=>
  unfold evalQ
  simp only
  cases hd:fr[t]? with
  |none=>exact ⟨.dead,.fz (.any _)⟩
  |some d=>
   rcases h.slot' t d hd with ⟨h1,h2⟩|⟨⟨k,p,v,k1,k2,k3,k4,k5⟩,hno⟩
   ·have hlt:t < a0.tmps.size:=by
     rw [hF.size]
     have:=(gLt h2)
     rw [hC.hX] at this
     simpa using this
    have hv:a0.tmps[t]?=some a0.tmps[t]:=by simp [hlt]
    generalize a0.tmps[t]=v at hv
    have hav:a.eval (.tmp t)=v:=tmp_eval (h1.trans hv)
    rw [hav]
    cases d with
    |al u=>
     have htc:t ≠ cs:=fun e=>by subst e;have:=hC.at_cs h2;cases this
     rw [hC.other htc] at h2
     obtain ⟨g1,d',g2,g3,_⟩:=hF.slot t _ v h2 hv
     simp only
     by_cases huc:u=cs
     ·cases hdu:fr0[u]? with
      |none=>exact ⟨.dead,.fz (.any _)⟩
      |some e=>
       subst huc
       obtain rfl:=hC.at_cs hdu
       exact ⟨.dead,.fz (.any _)⟩
     ·rw [← hC.other huc] at g2
      simp only [g2,Option.getD_some]
      exact ⟨_,hC.hold hR hS g2 g1 (fun x e=>by subst e;simp [D.owns] at g3)⟩
    |obj cs'=>
     simp only [h2]
     exact ⟨.slot t,hC.hold hR hS h2 hv (fun x e=>by cases e)⟩
    |alc u off=>exact ⟨.dead,.fz (.any _)⟩
    |el u off sz k j=>exact ⟨.dead,.fz (.any _)⟩
    |nsl sz n z=>exact ⟨.dead,.fz (.any _)⟩
    |nagg cs' off sz n z=>exact ⟨.dead,.fz (.any _)⟩
    |_=>exact ⟨.slot t,hC.hold hR hS h2 hv (fun x e=>by cases e)⟩
   ·have hkl:k < pre.length:=(gLt k1)
    have hpair:=(parOk_pair hok (i:=pre.length) (k:=k) (o:=o) (p:=p) (by simpa using ho) (by simpa using hpre k p k1) (by omega) k2).2 (hm t rfl)
    have hdep:depOn o k=true:=by
     rcases hpair with h|h
     ·exact h
     ·obtain ⟨e,he,hb,hek⟩:=depOn_spec h
      have:=parOk_before hok (i:=k) (o:=p) (by simpa using hpre k p k1) he hb
      omega
    obtain ⟨e,he,hb,hek⟩:=depOn_spec hdep
    have hfact:=hf e (by simpa using he) hb
    rw [hek,List.getD_eq_getElem?_getD,k4] at hfact
    have hav:a.eval (.tmp t)=v:=tmp_eval k3
    rw [hav]
    simp only [Option.getD_some] at hfact
    have h2:=hfact.2
    have hsd:lateOf l.toArray c k=true→S'=S.drop cs:=fun hk=>hSd e (by simpa using he) hb (by rw [hek];exact hk)
    cases d with
    |al u=>
     simp only
     rcases (k5:AlOk fr0 cs u) with ⟨rfl,_⟩|⟨d',g2,g3⟩
     ·cases hdu:fr0[u]? with
      |none=>exact ⟨.dead,.fz (.any _)⟩
      |some e=>
       obtain rfl:=hC.at_cs hdu
       exact ⟨.dead,.fz (.any _)⟩
     ·have hlt:u < a0.tmps.size:=by
       rw [hF.size]
       have:=(gLt g2)
       rw [hC.hX] at this
       simpa using this
      have hv':a0.tmps[u]?=some a0.tmps[u]:=by simp [hlt]
      simp only at h2
      rw [tmp_eval hv'] at h2
      subst h2
      simp only [g2,Option.getD_some]
      exact ⟨_,hC.hold hR hS g2 hv' (fun x e=>by subst e;simp [D.owns] at g3)⟩
    |ref u off=>
     obtain ⟨ds,hc⟩:=(k5:∃ c,fr0[u]?=some (.obj c))
     have hob:=hC.refOwn hR hS hc
     have hl:(sg S l.toArray c cs k).loc=S'.loc:=by rw [sg_loc,hob.2]
     simp only at h2
     rw [h2,hl]
     exact ⟨.dead,.ref hob.1⟩
    |obj cs'=>
     simp only
     split
     ·rename_i c' hc'
      exact absurd hc' (hno _ rfl c')
     ·exact ⟨.dead,.fz (.any _)⟩
    |alc u off=>exact ⟨.dead,.fz (.any _)⟩
    |el u off sz k j=>exact ⟨.dead,.fz (.any _)⟩
    |nsl sz n z=>exact ⟨.dead,.fz (.any _)⟩
    |nagg cs' off sz n z=>exact ⟨.dead,.fz (.any _)⟩
    |_=>exact ⟨.dead,.fz (sg_to hS hsd h2)⟩
 |const v=>exact evalD_nil (fun t e=>by cases e)
 |global g=>exact evalD_nil (fun t e=>by cases e)
 |func f=>exact evalD_nil (fun t e=>by cases e)
theorem gdsQ_rep {S:Sig} {w:World} {a:Act} {fr0 fr:List D}:∀ (xs:List Operand),(∀ x ∈ xs,∃ q,Rep S w q (a.eval x) (evalQ fr0 fr x))→holds (gds (evalQ fr0 fr) xs)→∀ x ∈ xs,∃ q,Rep S w q (a.eval x) (strip (evalQ fr0 fr x))
 |[],_,_,x,hx=>by cases hx
 |y::xs,hr,hg,x,hx=>by
  simp only [gds] at hg
  have key:holds (gds (evalQ fr0 fr) xs)∧∃ q,Rep S w q (a.eval y) (strip (evalQ fr0 fr y)):=by
   obtain ⟨q,hq⟩:=hr y (by simp)
   split at hg
   ·rename_i c d hy
    rw [hy] at hq ⊢
    split at hg
    ·rename_i hn
     rw [hn]
     exact ⟨trivial,.dead,.fz (hq.gd_inv.1 hg)⟩
    ·rename_i p hp
     rw [hp]
     exact ⟨hg.2,.dead,.fz (hq.gd_inv.1 hg.1)⟩
   ·rename_i hn
    refine ⟨hg,q,?_⟩
    generalize evalQ fr0 fr y=d at hq hn ⊢
    cases d with
    |gd c d=>exact absurd rfl (hn c d)
    |_=>exact hq
  rcases List.mem_cons.1 hx with rfl|hx
  ·exact key.2
  ·exact gdsQ_rep xs (fun x hx=>hr x (by simp [hx])) key.1 x hx
theorem QInv.wanted {S S':Sig} {c cs n0:Nat} {a0:Act} {frF fr0 fr:List D} {pre:List Oper} {fs:List (World→Prop)} {a:Act} {l:List Oper} {o:Oper} {w0 w:World} (h:QInv S l.toArray c cs n0 a0 fr0 pre fs a fr) (hC:QC S l c cs a0 frF fr0 w0) (hpre:∀ (k:Nat) (p:Oper),pre[k]?=some p→l[k]?=some p) (ho:l[pre.length]?=some o)
  (hR:Rw S cs w0 w) (hS:S'=S∨S'=S.drop cs) (hSd:∀ e ∈ o.after.toList,Region.binds .any e=true→lateOf l.toArray c e.on=true→S'=S.drop cs)
  (hf:∀ e ∈ o.after.toList,Region.binds .any e=true→(fs.getD e.on (fun _=>True)) w) {j:Nat} {want cb:Bool} (hg:o.guard=some (j,want)) (hc:condOf l fr j want=some cb):Region.wanted o (yielded l.toArray a.tmps)=cb:=by
 unfold condOf at hc
 split at hc
 ·rename_i oj hj
  split at hc
  ·rename_i t ht
   have hlook:t ∈ o.looksAt l.toArray:=by
    unfold Oper.looksAt
    refine List.mem_append_right _ ?_
    rw [hg]
    simp [hj,ht]
   have hy:∀ v,a.tmps[t]?=some v→((l.toArray[j]?).bind (·.dst)).bind (a.tmps[·]?)=some v:=fun v hv=>by
    simp only [List.getElem?_toArray,hj,Option.bind_some,ht,hv]
   obtain ⟨q,hq⟩:=h.eval hC hpre ho hR hS hSd hf (x:=.tmp t) (fun t' e=>by cases e;exact hlook)
   split at hc
   ·rename_i b hd
    have hlt:t < a.tmps.size:=by rw [h.size];exact (gLt hd)
    have hv:a.tmps[t]?=some a.tmps[t]:=by simp [hlt]
    rw [tmp_eval hv] at hq
    simp only [evalQ,hd] at hq
    have hb:=hq.bool_inv
    refine wanted_at hg (hy _ hv) ?_
    rw [hb]
    cases want<;>simp only [Option.some.injEq] at hc<;>subst hc<;>simp [boolOf]
   ·rename_i c0 b hd
    have hlt:t < a.tmps.size:=by rw [h.size];exact (gLt hd)
    have hv:a.tmps[t]?=some a.tmps[t]:=by simp [hlt]
    rw [tmp_eval hv] at hq
    simp only [evalQ,hd] at hq
    obtain ⟨k1,k0⟩:=hq.gd_inv
    refine wanted_at hg (hy _ hv) ?_
    cases c0 with
    |true=>
     rw [(Rep.fz (S:=S') (p:=.dead) (k1 rfl)).bool_inv]
     cases want<;>simp only [Option.some.injEq] at hc<;>subst hc<;>simp [boolOf]
    |false=>
     rw [k0 rfl]
     cases want<;>simp only [Option.some.injEq] at hc<;>subst hc<;>simp [boolOf,undef]
   ·cases hc
  ·cases hc
 ·cases hc
theorem frzQ_noal {d:D} (ho:okQ d=true):∀ u,frzQ d ≠ .al u:=by
 intro u e
 unfold frzQ at e
 split at e
 ·subst e;rename_i h;cases h
 ·rename_i h
  cases d<;>first|exact Bool.noConfusion (show true=false from h)|exact Bool.noConfusion (show false=true from ho)|(simp [D.frz] at e;done)
theorem frzQ_noref {d:D} (ho:okQ d=true):∀ u off,frzQ d ≠ .ref u off:=by
 intro u off e
 unfold frzQ at e
 split at e
 ·subst e;rename_i h;cases h
 ·rename_i h
  cases d<;>first|exact Bool.noConfusion (show true=false from h)|exact Bool.noConfusion (show false=true from ho)|(simp [D.frz] at e;done)
theorem frzQ_noalc {d:D} (ho:okQ d=true):∀ u off,frzQ d ≠ .alc u off:=by
 intro u off e
 unfold frzQ at e
 split at e
 ·subst e;rename_i h;cases h
 ·rename_i h
  cases d<;>first|exact Bool.noConfusion (show true=false from h)|exact Bool.noConfusion (show false=true from ho)|(simp [D.frz] at e;done)
theorem frzQ_noel {d:D} (ho:okQ d=true):∀ u off sz k j,frzQ d ≠ .el u off sz k j:=by
 intro u off sz k j e
 unfold frzQ at e
 split at e
 ·subst e;rename_i h;cases h
 ·rename_i h
  cases d<;>first|exact Bool.noConfusion (show true=false from h)|exact Bool.noConfusion (show false=true from ho)|(simp [D.frz] at e;done)
theorem frzQ_nm {d:D} (ho:okQ d=true) {fr0:List D} {cs:Nat}:NmOk fr0 cs (frzQ d):=by
 have h1:=frzQ_noal ho
 have h2:=frzQ_noref ho
 have h3:=frzQ_noalc ho
 have h4:=frzQ_noel ho
 generalize frzQ d=e at *
 cases e with
 |al u=>exact absurd rfl (h1 u)
 |ref u off=>exact absurd rfl (h2 u off)
 |alc u off=>exact absurd rfl (h3 u off)
 |el u off sz k j=>exact absurd rfl (h4 u off sz k j)
 |_=>trivial
theorem QInv.evAl {S:Sig} {c cs n0:Nat} {a0:Act} {frF fr0 fr:List D} {pre:List Oper} {fs:List (World→Prop)} {a:Act} {l:List Oper} {o:Oper} {w0 w:World} (hI:QInv S l.toArray c cs n0 a0 fr0 pre fs a fr) (hC:QC S l c cs a0 frF fr0 w0) (hpre:∀ (k:Nat) (p:Oper),pre[k]?=some p→l[k]?=some p) (ho:l[pre.length]?=some o) {u0 u:Nat} (hlook:u0 ∈ o.looksAt l.toArray) (hd:fr[u0]?=some (.al u))
  (hf:∀ e ∈ o.after.toList,Region.binds .any e=true→(fs.getD e.on (fun _=>True)) w):a.eval (.tmp u0)=a0.eval (.tmp u):=by
 have hF:=hC.hF
 have hok:=hC.hok
 rcases hI.slot _ _ hd with ⟨h1,h2⟩|⟨k,p,v,k1,k2,k3,k4,k5⟩
 ·have htc:u0 ≠ cs:=fun e=>by subst e;have:=hC.at_cs h2;cases this
  rw [hC.other htc] at h2
  obtain ⟨v,hv,hsl⟩:=hF.at h2
  rw [tmp_eval (h1.trans hv),tmp_eval hsl.1]
 ·have hkl:k < pre.length:=(gLt k1)
  have hpair:=(parOk_pair hok (i:=pre.length) (k:=k) (o:=o) (p:=p) (by simpa using ho) (by simpa using hpre k p k1) (by omega) k2).2 hlook
  have hdep:depOn o k=true:=by
   rcases hpair with h|h
   ·exact h
   ·obtain ⟨e,he,hb,hek⟩:=depOn_spec h
    have:=parOk_before hok (i:=k) (o:=p) (by simpa using hpre k p k1) he hb
    omega
  obtain ⟨e,he,hb,hek⟩:=depOn_spec hdep
  have hfact:=hf e (by simpa using he) hb
  rw [hek,List.getD_eq_getElem?_getD,k4] at hfact
  rw [tmp_eval k3]
  exact hfact.2
theorem one_fact {S:Sig} {n0:Nat} {a0:Act} {d:D} {v:Value} {w:World} (hw:WF S w) (h:d.one=true) (hf:Fz S.lim w v d):Fact S n0 a0 d v w:=by
 refine ⟨hw,?_⟩
 cases d<;>first|exact hf|cases h
theorem Rep.ref_val {S:Sig} {w:World} {q:Place} {v:Value} {u off:Nat} (h:Rep S w q v (.ref u off)):v=.pointer (some ⟨S.loc (u+2),off,none⟩):=by
 cases h with
 |fz h=>cases h
 |ref h=>rfl
theorem QInv.evNm {S:Sig} {c cs n0:Nat} {a0:Act} {frF fr0 fr:List D} {pre:List Oper} {fs:List (World→Prop)} {a:Act} {l:List Oper} {o:Oper} {w0 w:World} (hI:QInv S l.toArray c cs n0 a0 fr0 pre fs a fr) (hC:QC S l c cs a0 frF fr0 w0) (hpre:∀ (k:Nat) (p:Oper),pre[k]?=some p→l[k]?=some p) (ho:l[pre.length]?=some o) {u0:Nat} {d:D} (hd:fr[u0]?=some d) (hn:d.nm3=true) (hlook:u0 ∈ o.looksAt l.toArray)
  (hf:∀ e ∈ o.after.toList,Region.binds .any e=true→(fs.getD e.on (fun _=>True)) w):∃ k,Fact (sg S l.toArray c cs k) n0 a0 d (a.eval (.tmp u0)) w∧NmOk fr0 cs d:=by
 have hok:=hC.hok
 rcases hI.slot _ _ hd with ⟨h1,h2⟩|⟨k,p,v,k1,k2,k3,k4,k5⟩
 ·exfalso
  by_cases htc:u0=cs
  ·subst htc
   obtain rfl:=hC.at_cs h2
   cases hn
  ·rw [hC.other htc] at h2
   rw [hC.nonm _ _ h2] at hn
   cases hn
 ·have hkl:k < pre.length:=(gLt k1)
  have hpair:=(parOk_pair hok (i:=pre.length) (k:=k) (o:=o) (p:=p) (by simpa using ho) (by simpa using hpre k p k1) (by omega) k2).2 hlook
  have hdep:depOn o k=true:=by
   rcases hpair with h|h
   ·exact h
   ·obtain ⟨e,he,hb,hek⟩:=depOn_spec h
    have:=parOk_before hok (i:=k) (o:=p) (by simpa using hpre k p k1) he hb
    omega
  obtain ⟨e,he,hb,hek⟩:=depOn_spec hdep
  have hfact:=hf e (by simpa using he) hb
  rw [hek,List.getD_eq_getElem?_getD,k4] at hfact
  rw [tmp_eval k3]
  exact ⟨k,hfact,k5⟩
theorem NewS.sg {S S':Sig} {n0 sz n:Nat} {z:List D} {v:Value} {w:World} (h:NewS S n0 sz n z v w) (ho:∀ b,S.own b=none→S'.own b=none):NewS S' n0 sz n z v w:=by
 obtain ⟨b,cap,cur,e,h1,h2,h3,h4,h5,h6,h7,h8,h9,h10⟩:=h
 refine ⟨b,cap,cur,e,h1,h2,ho b h3,h4,h5,h6,h7,h8,h9,fun k j d g1 g2 => ?_⟩
 obtain ⟨u,u1,u2,u3,u4⟩:=h10 k j d g1 g2
 exact ⟨u,u1,u2,u3,flat1_any u3 u4⟩
theorem QInv.evNs {S S':Sig} {c cs n0:Nat} {a0:Act} {frF fr0 fr:List D} {pre:List Oper} {fs:List (World→Prop)} {a:Act} {l:List Oper} {o:Oper} {w0 w:World} (hI:QInv S l.toArray c cs n0 a0 fr0 pre fs a fr) (hC:QC S l c cs a0 frF fr0 w0) (hpre:∀ (k:Nat) (p:Oper),pre[k]?=some p→l[k]?=some p) (ho:l[pre.length]?=some o) (hS:S'=S∨S'=S.drop cs) (hSd:∀ e ∈ o.after.toList,Region.binds .any e=true→lateOf l.toArray c e.on=true→S'=S.drop cs) {u0 sz n:Nat} {z:List D} (hd:fr[u0]?=some (.nsl sz n z)) (hlook:u0 ∈ o.looksAt l.toArray)
  (hf:∀ e ∈ o.after.toList,Region.binds .any e=true→(fs.getD e.on (fun _=>True)) w):NewS S' n0 sz n z (a.eval (.tmp u0)) w:=by
 have hok:=hC.hok
 rcases hI.slot _ _ hd with ⟨h1,h2⟩|⟨k,p,v,k1,k2,k3,k4,k5⟩
 ·exfalso
  by_cases htc:u0=cs
  ·subst htc
   cases hC.at_cs h2
  ·rw [hC.other htc] at h2
   obtain ⟨v,hv,hs⟩:=hC.hF.at h2
   cases hs.1 with
   |fz h=>cases h
 ·have hkl:k < pre.length:=(gLt k1)
  have hpair:=(parOk_pair hok (i:=pre.length) (k:=k) (o:=o) (p:=p) (by simpa using ho) (by simpa using hpre k p k1) (by omega) k2).2 hlook
  have hdep:depOn o k=true:=by
   rcases hpair with h|h
   ·exact h
   ·obtain ⟨e,he,hb,hek⟩:=depOn_spec h
    have:=parOk_before hok (i:=k) (o:=p) (by simpa using hpre k p k1) he hb
    omega
  obtain ⟨e,he,hb,hek⟩:=depOn_spec hdep
  have hfact:=hf e (by simpa using he) hb
  rw [hek,List.getD_eq_getElem?_getD,k4] at hfact
  rw [tmp_eval k3]
  have h2:NewS (sg S l.toArray c cs k) n0 sz n z v w:=hfact.2
  refine h2.sg fun b hn => ?_
  unfold sg at hn
  split at hn
  ·rename_i hk
   rw [hSd e (by simpa using he) hb (by rw [hek];exact hk)]
   exact hn
  ·rcases hS with rfl|rfl
   ·exact hn
   ·cases hx:(S.drop cs).own b with
    |none=>rfl
    |some y=>
     have:=(drop_some hx).1
     rw [hn] at this
     cases this
theorem nslPart_at {fr:List D}:∀ {l:List (Nat × Operand)} {s sz n:Nat} {z:List D},nslPart fr l=some (s,sz,n,z)→fr[s]?=some (.nsl sz n z)∧∃ x ∈ l,x.2=.tmp s
 |[],_,_,_,_,h=>by cases h
 |(i,x)::r,s,sz,n,z,h=>by
  cases x with
  |tmp y=>
   simp only [nslPart] at h
   split at h
   ·rename_i hd
    cases h
    exact ⟨hd,(i,.tmp s),by simp,rfl⟩
   ·obtain ⟨h1,x,h2,h3⟩:=nslPart_at h
    exact ⟨h1,x,by simp [h2],h3⟩
  |_=>
   obtain ⟨h1,x,h2,h3⟩:=nslPart_at (l:=r) h
   exact ⟨h1,x,by simp [h2],h3⟩
theorem QC.cellAt {S:Sig} {l:List Oper} {c cs:Nat} {a0:Act} {frF fr0:List D} {w0 w:World} (h:QC S l c cs a0 frF fr0 w0) (hR:Rw S cs w0 w) {S':Sig} (hS:S'=S∨S'=S.drop cs) {u off:Nat} {ds:List D} {d:D} (hd:fr0[u]?=some (.obj ds)) (hc:ds[off]?=some d):∃ y,w.cell? ⟨S.loc (u+2),off,none⟩=some y∧Rep S' w ⟨u+2,[off]⟩ y d:=by
 have hval:=h.objVal hd
 have hr:=h.hold hR hS hd hval (fun x e=>by cases e)
 obtain ⟨b,cur,e,hv,hb,hloc,hh,hsz,h1,ih⟩:=hr.obj_inv
 have hlt:off < cur.size:=by rw [← hsz];exact (gLt hc)
 have hb2:S.loc (u+2)=b:=by cases hv;rfl
 refine ⟨cur[off],?_,ih off d _ hc (by simp [hlt])⟩
 rw [hb2,cell_of_row w b _ _ e (0,0) hh]
 simp [hlt]
theorem stepQ_sound (hT:TOk P T Z) {S:Sig} {ci cs n0:Nat} {a0:Act} {frF fr0 fr:List D} {l pre:List Oper} {o:Oper} {w0:World} {Q:Exit→Act→World→Prop} {K:D→Prop} (hC:QC S l ci cs a0 frF fr0 w0) (hpre:∀ (k:Nat) (p:Oper),pre[k]?=some p→l[k]?=some p) (ho:l[pre.length]?=some o)
  (hn0:n0≤w0.heap.size) (hs:stepQ P T Z l cs fr0 fr o K):∃ d,K d∧NmOk fr0 cs d∧∀ (fs:List (World→Prop)) (a:Act),QInv S l.toArray ci cs n0 a0 fr0 pre fs a fr→∀ w,Rw S cs w0 w→(∀ e ∈ o.after.toList,Region.binds .any e=true→(fs.getD e.on (fun _=>True)) w)→StepAt P l.toArray Q o (factSpec (sg S l.toArray ci cs pre.length) n0 a0 d) a w:=by
 obtain ⟨S1,hS1⟩:∃ S1,S1=sg S l.toArray ci cs pre.length:=⟨_,rfl⟩
 rw [← hS1]
 have hSd:∀ e ∈ o.after.toList,Region.binds .any e=true→lateOf l.toArray ci e.on=true→S1=S.drop cs:=fun e he hb hl=>by
  rw [hS1]
  unfold sg
  rw [if_pos (late_dep hC.hlate (by simpa using ho) he hb hl).1]
 have hS1o:S1=S∨S1=S.drop cs:=hS1 ▸ sg_or
 have hF:=hC.hF
 have hok:=hC.hok
 have hops:∀ x ∈ o.op.operands.toList,∀ t,x=.tmp t→t ∈ o.looksAt l.toArray:=fun x hx t e=>by
  subst e
  exact List.mem_append_left _ (List.mem_filterMap.2 ⟨.tmp t,hx,rfl⟩)
 have wfw:∀ {w:World},Rw S cs w0 w→WF S1 w:=fun hx=>hC.wf hx hS1o
 -- a value that is known to be so
 have done:∀ {d:D} (a:Act) (w:World),Rw S cs w0 w→Region.wanted o (yielded l.toArray a.tmps)=true→(∀ K',(∀ v w',Fact S1 n0 a0 d v w'→Ext w w'→K' (a.put o.dst v) w')→o.wp P a w K' (NoPanic Q))→StepAt P l.toArray Q o (factSpec S1 n0 a0 d) a w:=by
  intro d a w _ hw h
  unfold StepAt
  rw [if_pos hw]
  exact fun K' hK=>.inl (h K' fun v w' h1 h2=>hK (0,0,v) w' h1 h2)
 have plainOp:∀ {s:Option Prop} {d:D},holds s→okQ d=true→(holds s→OpOk P o (evalQ fr0 fr) d)→NmOk fr0 cs (frzQ d)∧∀ (fs:List (World→Prop)) (a:Act),QInv S l.toArray ci cs n0 a0 fr0 pre fs a fr→o.guard=none→∀ w,Rw S cs w0 w→(∀ e ∈ o.after.toList,Region.binds .any e=true→(fs.getD e.on (fun _=>True)) w)→StepAt P l.toArray Q o (factSpec S1 n0 a0 (frzQ d)) a w:=by
  intro s d h1 h2 h3
  refine ⟨frzQ_nm h2,fun fs a hI hg w hx hf=>done a w hx (by unfold Region.wanted;rw [hg]) fun K' hK => ?_⟩
  obtain ⟨p,_,_,hp⟩:=fresh_place S1 w (wfw hx)
  refine h3 h1 S1 w a p (wfw hx) (fun x hx'=>hI.eval hC hpre ho hx hS1o hSd hf (hops x hx')) K' _ fun v S' w' hpt hr _=>hK v w' ⟨?_,?_⟩ hpt.ext
  ·exact (PT.ext' (wfw hx) hpt.ext).wf
  ·have hz:=unown (wfw hx) hpt hp hr h2
   have hn:=frzQ_noal h2
   have hn':=frzQ_noref h2
   generalize frzQ d=e at hz hn hn' ⊢
   cases e with
   |al u=>exact absurd rfl (hn u)
   |ref u off=>exact absurd rfl (hn' u off)
   |obj x=>cases hz
   |alc u off=>cases hz
   |el u off sz k j=>cases hz
   |nsl sz n z=>cases hz
   |nagg cs' off sz n z=>cases hz
   |_=>exact hz
 unfold stepQ at hs
 split at hs
 ·rename_i hg
  have hopD:(opD P T Z (evalQ fr0 fr) o.op fun s d=>andO s (match okQ d with|true=>force (frzQ d) K|false=>False))→∃ d,K d∧NmOk fr0 cs d∧∀ (fs:List (World→Prop)) (a:Act),QInv S l.toArray ci cs n0 a0 fr0 pre fs a fr→∀ w,Rw S cs w0 w→(∀ e ∈ o.after.toList,Region.binds .any e=true→(fs.getD e.on (fun _=>True)) w)→StepAt P l.toArray Q o (factSpec S1 n0 a0 d) a w:=by
   intro h
   obtain ⟨s,d,h1,h3⟩:=opD_sound (dst:=o.dst) (ty:=o.type) (pos:=o.pos) (after:=o.after) (guard:=o.guard) hT h
   obtain ⟨g1,g2⟩:=andO_iff.1 h1
   split at g2
   ·rename_i hq
    rw [force_eq] at g2
    obtain ⟨k1,k2⟩:=plainOp g1 hq h3
    exact ⟨_,g2,k1,fun fs a hI w hx hf=>k2 fs a hI hg w hx hf⟩
   ·exact g2.elim
  have aliasOp:∀ {u0 u:Nat},o.op=.move (.tmp u0)→AlOk fr0 cs u→(∀ (fs:List (World→Prop)) (a:Act),QInv S l.toArray ci cs n0 a0 fr0 pre fs a fr→∀ w,(∀ e ∈ o.after.toList,Region.binds .any e=true→(fs.getD e.on (fun _=>True)) w)→a.eval (.tmp u0)=a0.eval (.tmp u))→K (.al u)→∃ d,K d∧NmOk fr0 cs d∧∀ (fs:List (World→Prop)) (a:Act),QInv S l.toArray ci cs n0 a0 fr0 pre fs a fr→∀ w,Rw S cs w0 w→(∀ e ∈ o.after.toList,Region.binds .any e=true→(fs.getD e.on (fun _=>True)) w)→StepAt P l.toArray Q o (factSpec S1 n0 a0 d) a w:=by
   intro u0 u hop hown hev hK
   refine ⟨_,hK,hown,fun fs a hI w hx hf=>done a w hx (by unfold Region.wanted;rw [hg]) fun K' hK' => ?_⟩
   obtain ⟨dst,op,ty,pos,after,guard⟩:=o
   simp only at hop
   subst hop
   exact r_move rfl (hK' _ w ⟨wfw hx,hev fs a hI w hf⟩ (Ext.refl w))
  have evAl:∀ {u0 u:Nat},o.op=.move (.tmp u0)→fr[u0]?=some (.al u)→∀ (fs:List (World→Prop)) (a:Act),QInv S l.toArray ci cs n0 a0 fr0 pre fs a fr→∀ w,(∀ e ∈ o.after.toList,Region.binds .any e=true→(fs.getD e.on (fun _=>True)) w)→a.eval (.tmp u0)=a0.eval (.tmp u):=fun hop hd fs a hI w hf=>hI.evAl hC hpre ho (hops (.tmp _) (by rw [hop];simp [Op.operands]) _ rfl) hd hf
  split at hs
  ·rename_i u0 hop
   split at hs
   ·rename_i hu
    have:=Nat.eq_of_beq_eq_true hu
    subst this
    split at hs
    ·rename_i e he
     refine aliasOp hop (.inl ⟨rfl,e,he⟩) (fun fs a hI w hf => ?_) hs
     simp [Act.eval,Array.getD_eq_getD_getElem?,hI.keep]
    ·exact hs.elim
   ·rename_i hu
    split at hs
    ·rename_i m sz rows hd
     split at hs
     ·rename_i hd0
      refine aliasOp hop (.inr ⟨_,hd0,rfl⟩) (fun fs a hI w hf => ?_) hs
      obtain ⟨_,h2⟩:=hI.own _ _ hd0 rfl
      simp [Act.eval,Array.getD_eq_getD_getElem?,h2]
     ·exact hs.elim
    ·rename_i u' hd
     split at hs
     ·rename_i hu'
      have:=Nat.eq_of_beq_eq_true hu'
      subst this
      split at hs
      ·rename_i e he
       exact aliasOp hop (.inl ⟨rfl,e,he⟩) (evAl hop hd) hs
      ·exact hs.elim
     ·split at hs
      ·rename_i hd0
       exact aliasOp hop (.inr ⟨_,hd0,rfl⟩) (evAl hop hd) hs
      ·exact hs.elim
    ·exact hopD hs
  ·rename_i c x y hop
   have hm:∀ z,z ∈ [c,x,y]→∀ t,z=.tmp t→t ∈ o.looksAt l.toArray:=fun z hz=>hops z (by rw [hop];simpa [Op.operands] using hz)
   obtain ⟨s,r,hp,h12⟩:=pickD_inv hs
   obtain ⟨h1,h2⟩:=andO_iff.1 h12
   rw [force_eq] at h2
   refine ⟨_,h2,trivial,fun fs a hI w hx hf=>done a w hx (by unfold Region.wanted;rw [hg]) fun K' hK => ?_⟩
   have hev:∀ z,z ∈ [c,x,y]→∃ q,Rep S1 w q (a.eval z) (evalQ fr0 fr z):=fun z hz=>hI.eval hC hpre ho hx hS1o hSd hf (hm z hz)
   obtain ⟨p,h3,h4⟩:=pickR_sound (hev c (by simp)) (hev x (by simp)) (hev y (by simp)) hp h1
   obtain ⟨dst,op,ty,pos,after,guard⟩:=o
   simp only at hop
   subst hop
   refine pick_run h3 ?_
   rw [h4]
   exact hK _ w ⟨wfw hx,.bool r⟩ (Ext.refl w)
  ·rename_i ty0 hop
   split at hs
   ·rename_i zc hz
    split at hs
    ·rename_i h1
     rw [force_eq] at hs
     haveI:=hT.zer _ _ hz
     refine ⟨_,hs,trivial,fun fs a hI w hx hf=>done a w hx (by unfold Region.wanted;rw [hg]) fun K' hK => ?_⟩
     obtain ⟨dst,op,ty,pos,after,guard⟩:=o
     simp only at hop
     subst hop
     refine r_alloc fun g w' hb hx' hgs => ?_
     have hw1:=wfw hx
     refine hK _ w' ⟨(PT.ext' hw1 hx').wf,g,_,zc,rfl,?_,?_,hb,rfl,h1⟩ hx'
     ·have:=hx.size
      omega
     ·cases hob:S1.own g with
      |none=>rfl
      |some x=>have:=hw1 g x hob;omega
    ·exact hs.elim
   ·exact hs.elim
  ·rename_i ty0 u i hop
   split at hs
   ·rename_i ds hd
    split at hs
    ·rename_i ht
     split at hs
     ·rename_i off n ag hfl
      haveI:=(hT.ty _ _ ht).2.1 _ _ _ _ hfl
      refine ⟨_,hs,⟨ds,hd⟩,fun fs a hI w hx hf=>done a w hx (by unfold Region.wanted;rw [hg]) fun K' hK => ?_⟩
      obtain ⟨_,h2⟩:=hI.own u _ hd rfl
      have hval:=hC.objVal hd
      have hloc:S1.loc=S.loc:=by rcases hS1o with rfl|rfl<;>rfl
      obtain ⟨dst,op,ty,pos,after,guard⟩:=o
      simp only at hop
      subst hop
      refine r_fieldAddr (tmp_eval (h2.trans hval)) ?_
      rw [Nat.zero_add]
      exact hK _ w ⟨wfw hx,by rw [hloc]⟩ (Ext.refl w)
     ·exact hs.elim
    ·exact hs.elim
   ·exact hopD hs
  ·rename_i ty0 u hop
   have hloc:S1.loc=S.loc:=by rcases hS1o with rfl|rfl<;>rfl
   have hlook:u ∈ o.looksAt l.toArray:=hops (.tmp u) (by rw [hop];simp [Op.operands]) u rfl
   have oneK:∀ {d:D},d.one=true→(∀ (fs:List (World→Prop)) (a:Act),QInv S l.toArray ci cs n0 a0 fr0 pre fs a fr→∀ w,Rw S cs w0 w→(∀ e ∈ o.after.toList,Region.binds .any e=true→(fs.getD e.on (fun _=>True)) w)→∃ A y,a.eval (.tmp u)=.pointer (some A)∧w.cell? A=some y∧Fz S1.lim w y d)→TOne P ty0→K d→∃ d,K d∧NmOk fr0 cs d∧∀ (fs:List (World→Prop)) (a:Act),QInv S l.toArray ci cs n0 a0 fr0 pre fs a fr→∀ w,Rw S cs w0 w→(∀ e ∈ o.after.toList,Region.binds .any e=true→(fs.getD e.on (fun _=>True)) w)→StepAt P l.toArray Q o (factSpec S1 n0 a0 d) a w:=by
    intro d h1 h2 h3 h4
    haveI:=h3
    refine ⟨d,h4,(by cases d<;>first|trivial|cases h1),fun fs a hI w hx hf=>done a w hx (by unfold Region.wanted;rw [hg]) fun K' hK => ?_⟩
    obtain ⟨A,y,e1,e2,e3⟩:=h2 fs a hI w hx hf
    obtain ⟨dst,op,ty,pos,after,guard⟩:=o
    simp only at hop
    subst hop
    exact r_load1 e1 e2 (hK _ w (one_fact (wfw hx) h1 e3) (Ext.refl w))
   split at hs
   ·rename_i x off hd
    have evr:∀ (fs:List (World→Prop)) (a:Act),QInv S l.toArray ci cs n0 a0 fr0 pre fs a fr→∀ w,Rw S cs w0 w→(∀ e ∈ o.after.toList,Region.binds .any e=true→(fs.getD e.on (fun _=>True)) w)→a.eval (.tmp u)=.pointer (some ⟨S.loc (x+2),off,none⟩):=fun fs a hI w hx hf=>by
     obtain ⟨q,hq⟩:=hI.eval hC hpre ho hx hS1o hSd hf (x:=.tmp u) (fun t e=>by cases e;exact hlook)
     simp only [evalQ,hd] at hq
     rw [← hloc]
     exact hq.ref_val
    split at hs
    ·rename_i ds hob
     split at hs
     ·rename_i sz rows hc
      split at hs
      ·rename_i e1 sz1 by1 zc1 ht
       haveI:=(hT.ty _ _ ht).one (fun n fl ks e=>by cases e)
       refine ⟨_,hs,⟨ds,hob⟩,fun fs a hI w hx hf=>done a w hx (by unfold Region.wanted;rw [hg]) fun K' hK => ?_⟩
       have e1:=evr fs a hI w hx hf
       obtain ⟨y,hy,_⟩:=hC.cellAt hx hS1o hob hc
       obtain ⟨dst,op,ty,pos,after,guard⟩:=o
       simp only at hop
       subst hop
       exact r_load1 e1 hy (hK _ w ⟨wfw hx,by show w.cell? ⟨S1.loc (x+2),off,none⟩=some y;rw [hloc];exact hy⟩ (Ext.refl w))
      ·exact hs.elim
     ·rename_i d _ hc
      split at hs
      ·rename_i h1
       split at hs
       ·exact hs.elim
       ·rename_i i hi ht
        rw [force_eq] at hs
        refine oneK h1 (fun fs a hI w hx hf => ?_) ((hT.ty _ _ ht).one (fun n fl ks e=>hi n fl ks e)) hs
        obtain ⟨y,hy,hr⟩:=hC.cellAt hx hS1o hob hc
        exact ⟨_,y,evr fs a hI w hx hf,hy,D.one_fz hr h1⟩
       ·exact hs.elim
      ·exact hs.elim
     ·exact hs.elim
    ·exact hs.elim
   ·rename_i x c0 sz k j hd
    split at hs
    ·rename_i ds hob
     split at hs
     ·rename_i sz' rows hc
      split at hs
      ·rename_i he
       obtain rfl:=Nat.eq_of_beq_eq_true he
       split at hs
       ·exact hs.elim
       ·rename_i i hi ht
        obtain ⟨r,⟨_,hr⟩,hs⟩:=hs.h
        have hr:rows[k]?=some r:=hr
        split at hs
        ·rename_i d hrd
         split at hs
         ·rename_i h1
          rw [force_eq] at hs
          refine oneK h1 (fun fs a hI w hx hf => ?_) ((hT.ty _ _ ht).one (fun n fl ks e=>hi n fl ks e)) hs
          obtain ⟨k',hfact,_⟩:=hI.evNm hC hpre ho hd rfl hlook hf
          obtain ⟨s,hs1,hs2⟩:=hfact.2
          rw [sg_loc] at hs1
          obtain ⟨y,hy,hrep⟩:=hC.cellAt hx hS1o hob hc
          rw [hy] at hs1
          cases hs1
          obtain ⟨b,cap,cur,e,hv1,hv2,g⟩:=el_at hrep hs2 hr
          obtain ⟨z,z1,z2,z3⟩:=g.elem hr hrd
          exact ⟨_,z,by first|exact hv1|exact hv2,z1,z3⟩
         ·exact hs.elim
        ·exact hs.elim
       ·exact hs.elim
      ·exact hs.elim
     ·exact hs.elim
    ·exact hs.elim
   ·exact hopD hs
  ·rename_i ty0 u y0 hop
   have hloc:S1.loc=S.loc:=by rcases hS1o with rfl|rfl<;>rfl
   have hlook:u ∈ o.looksAt l.toArray:=hops (.tmp u) (by rw [hop];simp [Op.operands]) u rfl
   split at hs
   ·rename_i x off hd
    split at hs
    ·rename_i ds hob
     split at hs
     ·rename_i sz rows hc
      split at hs
      ·rename_i e1 sz' by1 zc1 ki j ht hy0
       split at hs
       ·rename_i he
        obtain rfl:=Nat.eq_of_beq_eq_true he
        obtain ⟨⟨h0,h1⟩,hs⟩:=hs
        haveI:=(hT.ty _ _ ht).1
        haveI:=(hT.ty _ _ ht).2.1
        refine ⟨_,hs,⟨ds,hob⟩,fun fs a hI w hx hf=>done a w hx (by unfold Region.wanted;rw [hg]) fun K' hK => ?_⟩
        obtain ⟨k',hfact,_⟩:=hI.evNm hC hpre ho hd rfl hlook hf
        have hs1:w.cell? ⟨(sg S l.toArray ci cs k').loc (x+2),off,none⟩=some (a.eval (.tmp u)):=hfact.2
        rw [sg_loc] at hs1
        obtain ⟨y,hy,hrep⟩:=hC.cellAt hx hS1o hob hc
        rw [hy] at hs1
        have hye:y=a.eval (.tmp u):=Option.some.inj hs1
        obtain ⟨q,hq⟩:=hI.eval hC hpre ho hx hS1o hSd hf (x:=y0) (fun t e=>hops y0 (by rw [hop];simp [Op.operands]) t e)
        rw [hy0] at hq
        rcases hrep.sl_inv with ⟨_,rfl⟩|⟨b,cap,cur,e2,hv,g⟩
        ·simp at h1;omega
        ·obtain ⟨dst,op,ty,pos,after,guard⟩:=o
         simp only at hop
         subst hop
         refine r_indexAddr (by rw [← hye];exact hv) hq.int_inv h0 h1 (hK _ w ⟨wfw hx,?_⟩ (Ext.refl w))
         show ∃ s,w.cell? ⟨S1.loc (x+2),off,none⟩=some s∧ElAt s _ _ _ _
         rw [hloc]
         exact ⟨y,hy,b,_,_,hv,by rw [Nat.zero_add,Nat.add_zero]⟩
       ·exact hs.elim
      ·exact hs.elim
     ·exact hs.elim
    ·exact hs.elim
   ·exact hopD hs
  ·rename_i t0 l0 c0 hop
   split at hs
   ·rename_i td htd
    split at hs
    ·split at hs
     ·rename_i e1 sz by' zc q q2 ht hl hc
      split at hs
      ·rename_i hb
       simp only [Bool.and_eq_true] at hb
       obtain ⟨⟨h1,h2,h3⟩,hs⟩:=hs
       haveI:=(hT.ty _ _ ht).1
       haveI:=(hT.ty _ _ ht).2.2.2.1
       haveI:=(hT.ty _ _ ht).2.2.2.2
       refine ⟨_,hs,trivial,fun fs a hI w hx hf=>done a w hx (by unfold Region.wanted;rw [hg]) fun K' hK => ?_⟩
       obtain ⟨p,_,_,hp⟩:=fresh_place S1 w (wfw hx)
       have hev:∀ x ∈ o.op.operands.toList,∃ q,Rep S1 w q (a.eval x) (evalQ fr0 fr x):=fun x hx'=>hI.eval hC hpre ho hx hS1o hSd hf (hops x hx')
       obtain ⟨dst,op,ty,pos,after,guard⟩:=o
       simp only at hop
       subst hop
       refine ok_makeSlice (P:=P) (dst:=dst) (ty:=ty) (pos:=pos) (after:=after) (guard:=guard) (ρ:=evalQ fr0 fr) hb.2.1 hl hc (by omega) h2 h3 (Nat.le_of_ble_eq_true hb.1) S1 w a p (wfw hx) hev K' _ fun v S' w' hpt hr _=>hK v w' ⟨(PT.ext' (wfw hx) hpt.ext).wf,?_⟩ hpt.ext
       show NewS S1 n0 sz q.toNat (zeroD zc) v w'
       rcases hr.sl_inv with ⟨_,e⟩|⟨b,cap,cur,e,rfl,g⟩
       ·have:=congrArg List.length e
        rw [List.length_replicate] at this
        simp at this
        omega
       ·have hbn:¬ b < w.heap.size:=fun hlt=>by
         have:=hpt.own b hlt
         rw [g.own] at this
         exact hp b _ this.symm (Place.under_refl p)
        have hz0:(List.replicate q.toNat (zeroD zc))[0]?=some (zeroD zc):=by rw [List.getElem?_replicate,if_pos (by omega)]
        refine ⟨b,cap,cur,e,by rw [List.length_replicate],?_,?_,g.heap,by omega,by have:=g.le;rwa [List.length_replicate] at this,g.max,g.size,g.each _ (gMem hz0),fun k j d g1 g2 => ?_⟩
        ·have:=hx.size
         omega
        ·cases hob:S1.own b with
         |none=>rfl
         |some x=>have:=(wfw hx) b x hob;omega
        ·obtain ⟨u,u1,u2,u3⟩:=g.cells k _ j d (by rw [List.getElem?_replicate,if_pos g1]) g2
         have hfl:d.flat1=true:=List.all_eq_true.1 hb.2.2 d (gMem g2)
         exact ⟨u,u1,u2,hfl,flat1_any hfl u3⟩
      ·exact hs.elim
     ·exact hs.elim
    ·exact hopD hs
   ·exact hopD hs
  ·rename_i ty0 parts hop
   split at hs
   ·rename_i s sz n z hpt
    obtain ⟨hds,xs,hxs1,hxs2⟩:=nslPart_at hpt
    split at hs
    ·rename_i n1 fl ks zc hty hz
     split at hs
     ·rename_i hzc
      split at hs
      ·rename_i cs2 hfl
       split at hs
       ·rename_i off hal
        split at hs
        ·rename_i hone
         rw [forceH_eq] at hs
         obtain ⟨s',hoff⟩:=alAt_ok hal
         haveI:=(hT.ty _ _ hty).2.2.1
         haveI:=hT.zer _ _ hz
         have hlook:s ∈ o.looksAt l.toArray:=hops (.tmp s) (by rw [hop];simp only [Op.operands,List.mem_map];exact ⟨xs,hxs1,hxs2⟩) s rfl
         refine ⟨_,hs,trivial,fun fs a hI w hx hf=>done a w hx (by unfold Region.wanted;rw [hg]) fun K' hK => ?_⟩
         have hns:=hI.evNs hC hpre ho hS1o hSd hds hlook hf
         have hev:∀ x ∈ o.op.operands.toList,∃ q,Rep S1 w q (a.eval x) (evalQ fr0 fr x):=fun x hx'=>hI.eval hC hpre ho hx hS1o hSd hf (hops x hx')
         generalize hv0:a.eval (.tmp s)=v0 at hns
         have hval:∃ b cap,v0=.slice (some ⟨b,0,none⟩) n cap:=by
          obtain ⟨b,cap,cur,e,h1,_⟩:=hns
          exact ⟨b,cap,h1⟩
         have one:v0.oneCell'=true:=by obtain ⟨b,cap,rfl⟩:=hval;rfl
         have hcv:v0.cells.toList = [v0]:=by obtain ⟨b,cap,rfl⟩:=hval;rfl
         have hf':=fillR_map (pinA v0) _ _ _ hfl
         rw [zeroD_pin hzc] at hf'
         obtain ⟨dst,op,ty,pos,after,guard⟩:=o
         simp only at hop
         subst hop
         obtain ⟨us,h1,h2⟩:=fillR_sound (S:=S1) (w:=w) (parts.toList.map fun x=>(x.1,a.eval x.2)) _ zc (zeroD zc) _ hf' (CR.zero hzc) (by simp) (fun j x y hx' hy=>by
          rw [List.getElem?_map] at hx'
          rw [List.getElem?_map,List.getElem?_map] at hy
          cases hp:parts.toList[j]? with
          |none=>rw [hp] at hx';cases hx'
          |some z0=>
           rw [hp] at hx' hy
           cases hx';cases hy
           refine ⟨rfl,fun ds hd => ?_⟩
           have hmem:z0.2 ∈ (Op.build ty0 parts).operands.toList:=by simp only [Op.operands,List.mem_map];exact ⟨z0,gMem hp,rfl⟩
           obtain ⟨i,x⟩:=z0
           simp only [Option.map_eq_some_iff] at hd
           obtain ⟨ds0,hd0,rfl⟩:=hd
           have gen:(evalQ fr0 fr x).cellsOf=some ds0→CR S1.lim w (a.eval x).cells.toList (ds0.map (pinA v0)):=fun g=>by
            rw [cellsOf_pin g]
            obtain ⟨q,hq⟩:=hev x hmem
            exact CR.of hq g
           cases x with
           |tmp y=>
            simp only [partQ] at hd0
            split at hd0
            ·rename_i he
             obtain rfl:=Nat.eq_of_beq_eq_true he
             cases hd0
             show CR S1.lim w (a.eval (.tmp y)).cells.toList [.pv v0]
             rw [hv0,hcv]
             refine ⟨rfl,fun u hu => ?_,fun j d u hj hu => ?_⟩
             ·simp only [List.mem_singleton] at hu;subst hu;exact one
             ·match j,hj,hu with
              |0,hj,hu=>cases hj;cases hu;exact .pv _
              |j+1,hj,_=>simp at hj
            ·exact gen hd0
           |const c=>exact gen hd0
           |global g=>exact gen hd0
           |func g=>exact gen hd0)
         have hlen:us.length=cs2.length:=by rw [h2.len,List.length_map]
         have hlt:off < cs2.length:=(gLt hoff)
         have huv:us[off]?=some v0:=by
          have hul:off < us.length:=by omega
          obtain ⟨x0,hx0⟩:∃ x0,us[off]?=some x0:=⟨_,List.getElem?_eq_getElem hul⟩
          have:=h2.fz off (.pv v0) x0 (by rw [List.getElem?_map,hoff];rfl) hx0
          cases this
          exact hx0
         have hA:NewA S1 n0 (cs2.set off .nil) off sz n z (.agg us.toArray) w:=⟨us,v0,rfl,by rw [List.length_set];exact hlen,h2.one,huv,hns,fun j d x hj hd hx'=>by
          have ho1:d.one=true:=List.all_eq_true.1 hone d (gMem hd)
          rw [List.getElem?_set_ne (Ne.symm hj)] at hd
          exact ⟨ho1,h2.fz j d x (by rw [List.getElem?_map,hd,Option.map_some,pinA_one ho1]) hx'⟩⟩
         have:=r_build (P:=P) (Q:=NoPanic Q) (dst:=dst) (ty:=ty) (pos:=pos) (after:=after) (guard:=guard) (t:=ty0) (parts:=parts.toList) rfl h1 (hK _ w ⟨wfw hx,hA⟩ (Ext.refl w))
         simpa using this
        ·exact hs.elim
       ·exact hs.elim
      ·exact hs.elim
     ·exact hs.elim
    ·exact hs.elim
   ·exact hopD hs
  ·exact hopD hs
 ·rename_i j want hg
  split at hs
  ·rename_i c hc
   -- carried out, or passed over
   have both:∀ {d:D} (a:Act) (w:World) (fs:List (World→Prop)),QInv S l.toArray ci cs n0 a0 fr0 pre fs a fr→Rw S cs w0 w→(∀ e ∈ o.after.toList,Region.binds .any e=true→(fs.getD e.on (fun _=>True)) w)→
     (c=true→∀ K',(∀ v w',Fz S1.lim w' v d→Ext w w'→K' (a.put o.dst v) w')→o.wp P a w K' (NoPanic Q))→StepAt P l.toArray Q o (factSpec S1 n0 a0 (.gd c d)) a w:=by
    intro d a w fs hI hx hf h
    have hw:=hI.wanted hC hpre ho hx hS1o hSd hf hg hc
    unfold StepAt
    rw [hw]
    cases c with
    |true=>
     rw [if_pos rfl]
     exact fun K' hK=>.inl (h rfl K' fun v w' h1 h2=>hK (0,0,v) w' ⟨(PT.ext' (wfw hx) h2).wf,.gd (fun _=>h1) (fun e=>by cases e)⟩ h2)
    |false=>
     rw [if_neg (by simp)]
     exact ⟨(0,0,undef),rfl,wfw hx,.gd (fun e=>by cases e) (fun _=>rfl)⟩
   split at hs
   ·rename_i cc x y hop
    have hm:∀ z,z ∈ [cc,x,y]→∀ t,z=.tmp t→t ∈ o.looksAt l.toArray:=fun z hz=>hops z (by rw [hop];simpa [Op.operands] using hz)
    obtain ⟨s,r,hp,h12⟩:=pickD_inv hs
    obtain ⟨h1,h2⟩:=andO_iff.1 h12
    refine ⟨_,h2,trivial,fun fs a hI w hx hf=>both a w fs hI hx hf fun hct K' hK => ?_⟩
    have hev:∀ z,z ∈ [cc,x,y]→∃ q,Rep S1 w q (a.eval z) (evalQ fr0 fr z):=fun z hz=>hI.eval hC hpre ho hx hS1o hSd hf (hm z hz)
    obtain ⟨hgd,hs'⟩:=under_holds h1 hct
    obtain ⟨p,h3,h4⟩:=pickR_sound (gdsQ_rep [cc] (fun z hz=>hev z (by simp at hz;simp [hz])) hgd cc (by simp)) (hev x (by simp)) (hev y (by simp)) hp hs'
    obtain ⟨dst,op,ty,pos,after,guard⟩:=o
    simp only at hop
    subst hop
    refine pick_run h3 ?_
    rw [h4]
    exact hK _ w (.bool r) (Ext.refl w)
   ·obtain ⟨s,d,h1,h3⟩:=opD_sound (dst:=o.dst) (ty:=o.type) (pos:=o.pos) (after:=o.after) (guard:=o.guard) hT hs
    obtain ⟨h1,h2⟩:=andO_iff.1 h1
    split at h2
    ·rename_i hpass
     rw [force_eq] at h2
     refine ⟨_,h2,trivial,fun fs a hI w hx hf=>both a w fs hI hx hf fun hct K' hK => ?_⟩
     obtain ⟨hgd,hs'⟩:=under_holds h1 hct
     obtain ⟨p,_,_,hp⟩:=fresh_place S1 w (wfw hx)
     refine h3 hs' S1 w a p (wfw hx) (fun x hx'=>gdsQ_rep _ (fun z hz=>hI.eval hC hpre ho hx hS1o hSd hf (hops z hz)) hgd x hx') K' _ fun v S' w' hpt hr _=>hK v w' ?_ hpt.ext
     have hok':okQ d=true:=by unfold okQ;rw [hpass]
     have hz:=unown (wfw hx) hpt hp hr hok'
     have e:frzQ d=d:=by unfold frzQ;rw [hpass]
     rwa [e] at hz
    ·exact h2.elim
  ·exact hs.elim
theorem QInv.step {S:Sig} {c cs n0:Nat} {a0:Act} {fr0 fr:List D} {pre l:List Oper} {fs:List (World→Prop)} {a:Act} {o:Oper} {d:D} {v:Value} (h:QInv S l.toArray c cs n0 a0 fr0 pre fs a fr)
  (hal:NmOk fr0 cs d) {fr':List D} (hfr:(o.dst=none∧fr'=fr)∨∃ t d0,o.dst=some t∧fr[t]?=some d0∧d0.owns=false∧t ≠ cs∧fr'=fr.set t d):QInv S l.toArray c cs n0 a0 fr0 (pre ++ [o]) (fs ++ [Fact (sg S l.toArray c cs pre.length) n0 a0 d v]) (a.put o.dst v) fr':=by
 have ext:∀ (k:Nat) (p:Oper),pre[k]?=some p→(pre ++ [o])[k]?=some p:=fun k p hk=>by
  rw [List.getElem?_append_left (gLt hk)];exact hk
 have extf:∀ (k:Nat) (f:World→Prop),fs[k]?=some f→(fs ++ [Fact (sg S l.toArray c cs pre.length) n0 a0 d v])[k]?=some f:=fun k p hk=>by
  rw [List.getElem?_append_left (gLt hk)];exact hk
 rcases hfr with ⟨hn,rfl⟩|⟨t,d0,ht,h0,hd0,htc,rfl⟩
 ·rw [hn]
  refine ⟨h.size,h.len,h.defers,by simp [h.fslen],fun t e he => ?_,h.own,h.keep⟩
  rcases h.slot t e he with hl|⟨k,p,u,k1,k2,k3,k4,k5⟩
  ·exact .inl hl
  ·exact .inr ⟨k,p,u,ext k p k1,k2,k3,extf k _ k4,k5⟩
 ·rw [ht]
  have hlt:t < fr.length:=(gLt h0)
  refine ⟨by simp [Act.put,h.size],by simp [h.len],by simp [Act.put,h.defers],by simp [h.fslen],fun x e he => ?_,fun u e he hoe => ?_,by rw [put_tmps_ne (Ne.symm htc)];exact h.keep⟩
  ·by_cases hxt:x=t
   ·subst hxt
    rw [List.getElem?_set_self hlt] at he
    cases he
    refine .inr ⟨pre.length,o,v,by simp,ht,put_tmps_eq (by rw [h.size];exact hlt),?_,hal⟩
    rw [← h.fslen];simp
   ·rw [List.getElem?_set_ne (Ne.symm hxt)] at he
    rw [put_tmps_ne hxt]
    rcases h.slot x e he with hl|⟨k,p,u,k1,k2,k3,k4,k5⟩
    ·exact .inl hl
    ·exact .inr ⟨k,p,u,ext k p k1,k2,k3,extf k _ k4,k5⟩
  ·obtain ⟨g1,g2⟩:=h.own u e he hoe
   have hut:u ≠ t:=fun e'=>by subst e';rw [g1] at h0;cases h0;rw [hoe] at hd0;cases hd0
   exact ⟨by rw [List.getElem?_set_ne (Ne.symm hut)];exact g1,by rw [put_tmps_ne hut];exact g2⟩
def D.isNew:D→Bool
 |.nsl _ _ _ | .nagg _ _ _ _ _=>true
 |_=>false
theorem QInv.fr {S:Sig} {c cs n0:Nat} {a0:Act} {frF fr0 fr:List D} {pre l:List Oper} {fs:List (World→Prop)} {a:Act} {w0 w:World} (h:QInv S l.toArray c cs n0 a0 fr0 pre fs a fr) (hC:QC S l c cs a0 frF fr0 w0) (hR:Rw S cs w0 w) (hf:∀ f ∈ fs,f w) (hnob:∀ (i:Nat) (x:List D),fr[i]?=some (D.obj x)→∃ c':List D,fr0[i]?=some (D.obj c')) (hnew:∀ (i:Nat) (d:D),fr[i]?=some d→d.isNew=false):FR (S.drop cs) w a (fr.map (unal cs .any))∧(fr0[cs]?=none→FR (S.drop cs) w a fr):=by
 have hF:=hC.hF
 have hwf:=hC.wf hR (.inr rfl)
 -- whatever frame holds what the owners are
 have key:∀ F:List D,(∀ u d,u ≠ cs→fr0[u]?=some d→d.owns=true→F[u]?=some d)→∀ (i:Nat) (d:D) (v:Value),fr[i]?=some d→a.tmps[i]?=some v→d ≠ .al cs→SlotRep (S.drop cs) w a F i v d:=by
  intro F hFo i d v hd hv hnc
  have hrk:∀ e,RefOk frF e→RefOk F e:=fun e he x hx=>by
   obtain ⟨cs',hc⟩:=he x hx
   have hxc:x ≠ cs:=fun e=>by subst e;exact hC.hno _ hc
   rw [← hC.other hxc] at hc
   exact ⟨cs',hFo x _ hxc hc rfl⟩
  rcases h.slot' i d hd with ⟨h1,h2⟩|⟨⟨k,p,u,k1,k2,k3,k4,k5⟩,hnx⟩
  ·by_cases hic:i=cs
   ·subst hic
    obtain rfl:=hC.at_cs h2
    exact SlotRep.of (.fz (.any _)) fun t ht=>by cases ht
   ·rw [hC.other hic] at h2
    have hs:=hF.slot i d v h2 (h1.symm.trans hv)
    cases d with
    |al x=>
     obtain ⟨g1,d',g2,g3,g4⟩:=hs
     have hxc:x ≠ cs:=fun e=>hnc (by rw [e])
     rw [← hC.other hxc] at g2
     obtain ⟨q1,q2⟩:=h.own x d' g2 g3
     exact ⟨q2.trans g1,d',hFo x d' hxc g2 g3,g3,g4⟩
    |alc x o=>exact absurd (hC.nonm i _ h2) (fun e=>by cases e)
    |el x o sz k j=>exact absurd (hC.nonm i _ h2) (fun e=>by cases e)
    |es x sz k j=>exact absurd (hC.nonm i _ h2) (fun e=>by cases e)
    |_=>exact ⟨hR.rep hF.wf (.inr rfl) hC.hno hic hs.1 hs.2,hrk _ hs.2⟩
  ·obtain rfl:u=v:=Option.some.inj (k3.symm.trans hv)
   have h2:=(hf _ (gMem k4)).2
   cases d with
   |al x=>
    rcases (k5:AlOk fr0 cs x) with ⟨rfl,_⟩|⟨d',g2,g3⟩
    ·exact absurd rfl hnc
    ·have hxc:x ≠ cs:=fun e=>hnc (by rw [e])
     obtain ⟨q1,q2⟩:=h.own x d' g2 g3
     have hg2:=g2
     rw [hC.other hxc] at hg2
     obtain ⟨v',hv',_⟩:=hF.at hg2
     simp only at h2
     rw [tmp_eval hv'] at h2
     subst h2
     refine ⟨q2.trans hv',d',hFo x d' hxc g2 g3,g3,fun e => ?_⟩
     subst e
     rw [q1] at hd
     cases hd
     cases g3
   |ref x off=>
    obtain ⟨ds,hds⟩:=(k5:∃ c,fr0[x]?=some (.obj c))
    have hxc:x ≠ cs:=fun e=>by subst e;have:=hC.at_cs hds;cases this
    have hob:=hC.refOwn hR (.inr rfl) hds
    simp only at h2
    rw [sg_loc,← hob.2] at h2
    rw [h2]
    exact ⟨.ref hob.1,fun t ht=>by cases ht;exact ⟨ds,hFo x _ hxc hds rfl⟩⟩
   |obj x=>
    obtain ⟨c',hc'⟩:=hnob i x hd
    exact absurd hc' (hnx x rfl c')
   |alc x o=>
    obtain ⟨ds,hds⟩:=(k5:∃ c,fr0[x]?=some (.obj c))
    have hxc:x ≠ cs:=fun e=>by subst e;have:=hC.at_cs hds;cases this
    have hob:=hC.refOwn hR (.inr rfl) hds
    have h2:w.cell? ⟨(sg S l.toArray c cs k).loc (x+2),o,none⟩=some u:=h2
    rw [sg_loc,← hob.2] at h2
    exact ⟨⟨⟨ds,hFo x _ hxc hds rfl⟩,hob.1⟩,h2⟩
   |el x o sz k0 j=>
    obtain ⟨ds,hds⟩:=(k5:∃ c,fr0[x]?=some (.obj c))
    have hxc:x ≠ cs:=fun e=>by subst e;have:=hC.at_cs hds;cases this
    have hob:=hC.refOwn hR (.inr rfl) hds
    obtain ⟨s,h3,h4⟩:∃ s,w.cell? ⟨(sg S l.toArray c cs k).loc (x+2),o,none⟩=some s∧ElAt s sz k0 j u:=h2
    rw [sg_loc,← hob.2] at h3
    exact ⟨⟨⟨ds,hFo x _ hxc hds rfl⟩,hob.1⟩,s,h3,h4⟩
   |es x sz k j=>exact absurd (h2:Fz _ _ _ _) (fun e=>by cases e)
   |nsl sz n z=>cases hnew i _ hd
   |nagg cs' off sz n z=>cases hnew i _ hd
   |_=>exact ⟨.fz (sg_to (.inr rfl) (fun _=>rfl) h2),fun t ht=>(Fz.men h2 ht).elim⟩
 refine ⟨⟨hwf,by simp [h.size],h.defers,fun i d v hd hv => ?_⟩,fun hn=>⟨hwf,h.size,h.defers,fun i d v hd hv=>key fr (fun u d _ h1 h2=>(h.own u d h1 h2).1) i d v hd hv fun e => ?_⟩⟩
 ·rw [List.getElem?_map] at hd
  cases hfi:fr[i]? with
  |none=>rw [hfi] at hd;cases hd
  |some e=>
   rw [hfi] at hd
   cases hd
   by_cases hnc:e=.al cs
   ·subst hnc
    simp only [unal,if_pos]
    exact SlotRep.of (.fz (.any _)) fun t ht=>by cases ht
   ·have hk:=key (fr.map (unal cs .any)) (fun u d _ h1 h2=>by
     rw [List.getElem?_map,(h.own u d h1 h2).1]
     cases d<;>first|rfl|cases h2) i e v hfi hv hnc
    have he:unal cs .any e=e:=by
     cases e with
     |al x=>simp only [unal];rw [if_neg (fun e'=>hnc (by rw [e']))]
     |es x sz k j=>
      exfalso
      rcases h.slot' i _ hfi with ⟨_,h2⟩|⟨⟨k,p,u,k1,k2,k3,k4,k5⟩,_⟩
      ·by_cases hic:i=cs
       ·subst hic
        cases hC.at_cs h2
       ·rw [hC.other hic] at h2
        exact absurd (hC.nonm i _ h2) (fun e=>by cases e)
      ·have h2:=(hf _ (gMem k4)).2
       exact absurd (h2:Fz _ _ _ _) (fun e=>by cases e)
     |_=>rfl
    rw [he]
    exact hk
 ·subst e
  rcases h.slot i _ hd with ⟨h1,h2⟩|⟨k,p,u,k1,k2,k3,k4,k5⟩
  ·have hic:i ≠ cs:=fun e=>by subst e;rw [hn] at h2;cases h2
   rw [hC.other hic] at h2
   obtain ⟨g1,d',g2,g3,g4⟩:=hF.slot i _ v h2 (h1.symm.trans hv)
   rw [hC.hX,List.getElem?_set] at hn
   simp only [if_true] at hn
   split at hn
   ·cases hn
   ·rename_i hlt
    exact hlt (gLt g2)
  ·rcases (k5:AlOk fr0 cs cs) with ⟨_,e,he⟩|⟨d',g2,_⟩
   ·rw [hn] at he;cases he
   ·rw [hn] at g2;cases g2
def keepQ (t:Nat) (d:D):D:=
 match d with
 |.ref u o=>match Nat.beq u t with
  |true=>.any
  |false=>.ref u o
 |.al u=>match Nat.beq u t with
  |true=>.any
  |false=>.al u
 |.gd c d=>match d.flat with
  |true=>.gd c d
  |false=>.any
 |d=>match d.flat with
  |true=>d
  |false=>.any
def memN (t:Nat):List Nat→Bool
 |[]=>false
 |x::r=>Nat.beq t x || memN t r
theorem memN_iff {t:Nat}:∀ {l:List Nat},memN t l=true↔t ∈ l
 |[]=>by simp [memN]
 |x::r=>by simp [memN,memN_iff (l:=r)]
def ownsAt (fr0:List D) (i:Nat):Bool:=match fr0[i]? with
 |some d=>d.owns
 |none=>false
def keepL (t:Nat) (wr:List Nat) (fr0:List D):Nat→List D→List D
 |_,[] => []
 |i,d::r=>(match memN i wr && !(Nat.beq i t || ownsAt fr0 i) with
  |true=>keepQ t d
  |false=>d)::keepL t wr fr0 (i+1) r
theorem keepL_at {t:Nat} {wr:List Nat} {fr0:List D}:∀ {l:List D} {i j:Nat},(keepL t wr fr0 i l)[j]?=l[j]?.map fun d=>match memN (i+j) wr && !(Nat.beq (i+j) t || ownsAt fr0 (i+j)) with
  |true=>keepQ t d
  |false=>d
 |[],i,j=>by simp [keepL]
 |d::r,i,0=>by simp [keepL]
 |d::r,i,j+1=>by
  rw [keepL,List.getElem?_cons_succ,List.getElem?_cons_succ,keepL_at (l:=r),show i+1+j=i+(j+1) by omega]
theorem keepL_len {t:Nat} {wr:List Nat} {fr0:List D}:∀ {l:List D} {i:Nat},(keepL t wr fr0 i l).length=l.length
 |[],i=>rfl
 |d::r,i=>by simp [keepL,keepL_len (l:=r)]
def newAt (fr0 fr:List D):List Nat→Option Nat
 |[]=>none
 |t::r=>match fr[t]? with
  |some (.obj _)=>match fr0[t]? with
   |some (.obj _)=>newAt fr0 fr r
   |_=>some t
  |_=>newAt fr0 fr r
theorem newAt_some {fr0 fr:List D} {t:Nat}:∀ {wr:List Nat},newAt fr0 fr wr=some t→(∃ x,fr[t]?=some (.obj x))∧∀ c',fr0[t]? ≠ some (.obj c')
 |[],h=>by cases h
 |u::r,h=>by
  unfold newAt at h
  split at h
  ·rename_i x hx
   split at h
   ·exact newAt_some h
   ·rename_i hno
    cases h
    exact ⟨⟨x,hx⟩,fun c' e=>hno c' e⟩
  ·exact newAt_some h
theorem newAt_none {fr0 fr:List D}:∀ {wr:List Nat},newAt fr0 fr wr=none→∀ t ∈ wr,∀ x,fr[t]?=some (.obj x)→∃ c',fr0[t]?=some (.obj c')
 |[],_,t,ht,_,_=>by cases ht
 |u::r,h,t,ht,x,hx=>by
  unfold newAt at h
  split at h
  ·rename_i y hy
   split at h
   ·rename_i c' hc'
    rcases List.mem_cons.1 ht with rfl|ht
    ·exact ⟨c',hc'⟩
    ·exact newAt_none h t ht x hx
   ·cases h
  ·rename_i hno
   rcases List.mem_cons.1 ht with rfl|ht
   ·exact absurd hx (hno x)
   ·exact newAt_none h t ht x hx
def wrOf (ops:List Oper):List Nat:=ops.filterMap (·.dst)
theorem QInv.nob {S:Sig} {c cs n0:Nat} {a0:Act} {fr0 fr:List D} {pre l:List Oper} {fs:List (World→Prop)} {a:Act} (h:QInv S l.toArray c cs n0 a0 fr0 pre fs a fr) (hn:newAt fr0 fr (wrOf pre)=none):∀ (i:Nat) (x:List D),fr[i]?=some (D.obj x)→∃ c':List D,fr0[i]?=some (D.obj c'):=fun i x hx=>by
 rcases h.slot' i _ hx with ⟨_,h2⟩|⟨⟨k,p,u,k1,k2,_⟩,_⟩
 ·exact ⟨x,h2⟩
 ·exact newAt_none hn i (List.mem_filterMap.2 ⟨p,gMem k1,k2⟩) x hx
theorem keepQ_cases (t:Nat) (d:D):keepQ t d=.any∨(keepQ t d=d∧((∃ u o,d=.ref u o∧u ≠ t)∨(∃ u,d=.al u∧u ≠ t)∨(∃ c e,d=.gd c e∧e.flat=true)∨d.flat=true)):=by
 have flat:∀ {e:D},keepQ t e=(match e.flat with|true=>e|false=>.any)→keepQ t e=.any∨(keepQ t e=e∧((∃ u o,e=.ref u o∧u ≠ t)∨(∃ u,e=.al u∧u ≠ t)∨(∃ c x,e=.gd c x∧x.flat=true)∨e.flat=true)):=fun {e} h=>by
  cases hf:e.flat with
  |true=>rw [hf] at h;exact .inr ⟨h,.inr (.inr (.inr rfl))⟩
  |false=>rw [hf] at h;exact .inl h
 cases d with
 |ref u o=>
  cases hb:Nat.beq u t with
  |true=>exact .inl (by simp only [keepQ,hb])
  |false=>exact .inr ⟨by simp only [keepQ,hb],.inl ⟨u,o,rfl,fun e=>by subst e;simp at hb⟩⟩
 |al u=>
  cases hb:Nat.beq u t with
  |true=>exact .inl (by simp only [keepQ,hb])
  |false=>exact .inr ⟨by simp only [keepQ,hb],.inr (.inl ⟨u,rfl,fun e=>by subst e;simp at hb⟩)⟩
 |gd c e=>
  cases hb:e.flat with
  |true=>exact .inr ⟨by simp only [keepQ,hb],.inr (.inr (.inl ⟨c,e,rfl,hb⟩))⟩
  |false=>exact .inl (by simp only [keepQ,hb])
 |_=>exact flat rfl
theorem QInv.frN (B2:Option (Nat × Place)) {S:Sig} {c cs:Nat} {a0:Act} {frF fr0 fr:List D} {pre l:List Oper} {fs:List (World→Prop)} {a:Act} {w0 w:World} (h:QInv S l.toArray c cs w0.heap.size a0 fr0 pre fs a fr) (hC:QC S l c cs a0 frF fr0 w0) (hcs:frF[cs]?=none) (hR:Rw S cs w0 w) (hf:∀ f ∈ fs,f w) {t:Nat} (ht:newAt fr0 fr (wrOf pre)=some t) (ht0:t ≠ 0)
  (hB:∀ b2 q2,B2=some (b2,q2)→w0.heap.size≤b2∧∃ cur e,w.heap[b2]?=some (.cells cur e (0,0))∧∀ (zc:List Value),fr[t]?=some (.obj (zeroD zc))→cur ≠ zc.toArray):
  ∃ S',Trans S w0 S' w∧FR S' w a (keepL t (wrOf pre) fr0 0 fr)∧∀ b2 q2,B2=some (b2,q2)→S'.own b2=some (q2,0):=by
 have hF:=hC.hF
 have h00:fr0=frF:=by rw [hC.hX,List.set_eq_of_length_le (List.getElem?_eq_none_iff.1 hcs)]
 obtain ⟨⟨x,hx⟩,hno⟩:=newAt_some ht
 obtain ⟨b,e,zc,v,hv,rfl,hb0,hbo,hbh,rfl,hz⟩:∃ (b:Nat) (e:TypeId) (zc:List Value) (v:Value),a.tmps[t]?=some v∧v=.pointer (some ⟨b,0,none⟩)∧w0.heap.size≤b∧(S.drop cs).own b=none∧w.heap[b]?=some (.cells zc.toArray e (0,0))∧x=zeroD zc∧zc.all Value.oneCell'=true:=by
  rcases h.slot' t _ hx with ⟨_,h2⟩|⟨⟨k,p,v,k1,k2,k3,k4,k5⟩,_⟩
  ·exact absurd h2 (hno x)
  ·obtain ⟨b,e,zc,g1,g2,g3,g4,g5,g6⟩:=(hf _ (gMem k4)).2
   refine ⟨b,e,zc,v,k3,g1,g2,?_,g4,g5,g6⟩
   cases hb:(S.drop cs).own b with
   |none=>rfl
   |some y=>have:=hF.wf b y (drop_some hb).1;omega
 have t0:=hR.to (S':=S.drop cs) (.inr rfl)
 obtain ⟨own2,ho2⟩:∃ f:Nat→Option (Place × Nat),f=fun k=>B2.elim ((S.drop cs).own k) fun y=>if k=y.1 then some (y.2,0) else (S.drop cs).own k:=⟨_,rfl⟩
 have hold2:∀ k,k < w0.heap.size→own2 k=(S.drop cs).own k:=fun k hk=>by
  rw [ho2]
  cases hB2:B2 with
  |none=>rfl
  |some y=>
   have:=(hB y.1 y.2 (by rw [hB2])).1
   simp only [Option.elim]
   rw [if_neg (by omega)]
 have hlt2:∀ k y,own2 k=some y→(S.drop cs).own k=some y∨k < w.heap.size:=fun k y hy=>by
  rw [ho2] at hy
  cases hB2:B2 with
  |none=>rw [hB2] at hy;exact .inl hy
  |some y2=>
   rw [hB2] at hy
   simp only [Option.elim] at hy
   split at hy
   ·rename_i hk
    obtain ⟨_,cur,e',h3,_⟩:=hB y2.1 y2.2 (by rw [hB2])
    exact .inr (by rw [hk];exact (Array.getElem?_eq_some_iff.1 h3).1)
   ·exact .inl hy
 let S':Sig:=⟨fun k=>if k=b then some (.slot t,0) else own2 k,fun r=>if r=t+2 then b else S.loc r⟩
 have hold:∀ k,k < w0.heap.size→S'.own k=(S.drop cs).own k:=fun k hk=>(if_neg (by omega)).trans (hold2 k hk)
 have hwd:=hC.wf hR (S':=S.drop cs) (.inr rfl)
 have hblt:b < w.heap.size:=(Array.getElem?_eq_some_iff.1 hbh).1
 have hwf:WF S' w:=⟨fun k y hy=>by
  by_cases hkb:k=b
  ·subst hkb;exact hblt
  ·have:own2 k=some y:=by simpa [S',hkb] using hy
   rcases hlt2 k y this with h1|h1
   ·exact hwd k y h1
   ·exact h1,hF.wf.gl.keep fun k hk hn=>by
  rw [hold k hk]
  exact t0.free k hk hn⟩
 have htr:Trans S w0 S' w:=⟨t0.os,t0.tape,t0.output,t0.size,fun k hk hn=>by rw [hold k hk];exact t0.free k hk hn,fun k p q hk hs hd=>by rw [hold k hk];exact t0.foreign k p q hk hs hd,fun k p q hk hs=>by rw [hold k hk];exact t0.held k p q hk hs,if_neg (by omega)⟩
 have hxt:∀ u c',frF[u]?=some (.obj c')→u ≠ t:=fun u c' hu e=>by subst e;rw [← h00] at hu;exact hno c' hu
 have hlc:∀ {u:Nat},u ≠ t→S'.loc (u+2)=S.loc (u+2):=fun hu=>if_neg (by omega)
 have keep:∀ {i:Nat} {v:Value} {d:D},i ≠ t→i ≠ cs→Rep S w0 (.slot i) v d→RefOk frF d→Rep S' w (.slot i) v d:=fun {i v d} hit hic hr hk=>by
  have old:∀ k q m,S.own k=some (q,m)→q.r ≠ cs+2→w.heap[k]?=w0.heap[k]?∧S'.own k=some (q,m):=fun k q m hs hq=>by
   have hm:mine cs (S.own k)=false:=by rw [hs];simp [mine,hq]
   have hk:=hF.wf _ _ hs
   refine ⟨hR.same k hk hm,?_⟩
   rw [hold k hk,drop_own hm,hs]
  refine hr.trans hF.wf htr (by simp [S']) (fun k q m hs hu=>old k q m hs fun e => ?_) (fun _=>hlc hit) fun u hm ho => ?_
  ·have:=hu.1
   simp only [Place.slot] at this
   omega
  ·obtain ⟨c',hc'⟩:=hk u hm
   refine ⟨hlc (hxt u c' hc'),(old _ _ _ ho fun e => ?_).2⟩
   simp only [Place.slot] at e
   have:u=cs:=by omega
   subst this
   rw [hcs] at hc'
   cases hc'
 have hat:∀ i,(keepL t (wrOf pre) fr0 0 fr)[i]?=fr[i]?.map fun d=>match memN i (wrOf pre) && !(Nat.beq i t || ownsAt fr0 i) with
   |true=>keepQ t d
   |false=>d:=fun i=>by rw [keepL_at,Nat.zero_add]
 -- owners stay
 have hown:∀ (u:Nat) (d:D),fr0[u]?=some d→d.owns=true→(keepL t (wrOf pre) fr0 0 fr)[u]?=some d∧a.tmps[u]?=a0.tmps[u]?:=fun u d hd ho=>by
  obtain ⟨g1,g2⟩:=h.own u d hd ho
  refine ⟨?_,g2⟩
  have:ownsAt fr0 u=true:=by simp [ownsAt,hd,ho]
  rw [hat,g1,this]
  simp
 have hrk:∀ d,RefOk frF d→RefOk (keepL t (wrOf pre) fr0 0 fr) d:=fun d hd u hu=>by
  obtain ⟨c',hc'⟩:=hd u hu
  rw [← h00] at hc'
  exact ⟨c',(hown u _ hc' rfl).1⟩
 have fin2:∀ b2 q2,B2=some (b2,q2)→S'.own b2=some (q2,0):=fun b2 q2 hB2=>by
  obtain ⟨_,cur,e',h3,h4⟩:=hB b2 q2 hB2
  have hne:b2 ≠ b:=fun e2=>by
   subst e2
   rw [hbh] at h3
   cases h3
   exact h4 zc hx rfl
  show (if b2=b then _ else own2 b2)=_
  rw [if_neg hne,ho2,hB2]
  simp
 refine ⟨S',htr,⟨hwf,by rw [keepL_len];exact h.size,h.defers,fun i d v' hd hv' => ?_⟩,fin2⟩
 rw [hat] at hd
 cases hfi:fr[i]? with
 |none=>rw [hfi] at hd;cases hd
 |some d0=>
  rw [hfi] at hd
  simp only [Option.map_some,Option.some.injEq] at hd
  by_cases hit:i=t
  ·subst hit
   rw [show Nat.beq i i=true by simp] at hd
   simp only [Bool.true_or,Bool.not_true,Bool.and_false] at hd
   subst hd
   rw [hx] at hfi
   cases hfi
   rw [hv] at hv'
   cases hv'
   refine SlotRep.of (.obj (by simp [S',Place.slot]) rfl (by simp [S']) hbh (by simp [zeroD]) (fun j y hj => ?_) fun j d y hj hy=>.fz ?_) fun u hu => ?_
   ·have:=Array.mem_of_getElem? hj
    exact List.all_eq_true.1 hz y (by simpa using this)
   ·have hc:=CR.zero (lim:=S'.lim) (w:=w) hz
    exact hc.fz j d y hj (by simpa using hy)
   ·have hc:=CR.zero (lim:=S'.lim) (w:=w) hz
    cases hu with
    |obj hj hm=>exact ((hc.fz _ _ _ hj (List.getElem?_eq_getElem (lt_of_len hc.len hj))).men hm).elim
  ·-- a slot that is as it was
   have left:a.tmps[i]?=a0.tmps[i]?→fr0[i]?=some d0→SlotRep S' w a (keepL t (wrOf pre) fr0 0 fr) i v' d0:=fun h1 h2=>by
    rw [h00] at h2
    have hic:i ≠ cs:=fun e=>by subst e;rw [hcs] at h2;cases h2
    have hs:=hF.slot i d0 v' h2 (h1.symm.trans hv')
    cases d0 with
    |al u=>
     obtain ⟨g1,d',g2,g3,g4⟩:=hs
     rw [← h00] at g2
     obtain ⟨q1,q2⟩:=hown u d' g2 g3
     exact ⟨q2.trans g1,d',q1,g3,g4⟩
    |alc x o=>exact absurd (hC.nonm i _ h2) (fun e=>by cases e)
    |el x o sz k j=>exact absurd (hC.nonm i _ h2) (fun e=>by cases e)
    |es x sz k j=>exact absurd (hC.nonm i _ h2) (fun e=>by cases e)
    |_=>exact ⟨keep hit hic hs.1 hs.2,hrk _ hs.2⟩
   have anyOk:SlotRep S' w a (keepL t (wrOf pre) fr0 0 fr) i v' .any:=SlotRep.of (.fz (.any _)) fun u hu=>by cases hu
   have hcase:d=.any∨(d=d0∧((memN i (wrOf pre)=false∨ownsAt fr0 i=true)∨((∃ u o,d0=.ref u o∧u ≠ t)∨(∃ u,d0=.al u∧u ≠ t)∨(∃ c e,d0=.gd c e∧e.flat=true)∨d0.flat=true))):=by
    split at hd
    ·rcases keepQ_cases t d0 with h1|⟨h1,h2⟩
     ·exact .inl (hd.symm.trans h1)
     ·exact .inr ⟨hd.symm.trans h1,.inr h2⟩
    ·rename_i hm
     refine .inr ⟨hd.symm,.inl ?_⟩
     cases hmm:memN i (wrOf pre) with
     |false=>exact .inl rfl
     |true=>
      right
      have:Nat.beq i t=false:=by
       cases hb:Nat.beq i t with
       |false=>rfl
       |true=>exact absurd (Nat.eq_of_beq_eq_true hb) hit
      rw [hmm,this] at hm
      simpa using hm
   rcases hcase with rfl|⟨rfl,hwhy⟩
   ·exact anyOk
   ·rcases h.slot' i _ hfi with ⟨h1,h2⟩|⟨⟨k,p,u,k1,k2,k3,k4,k5⟩,hnx⟩
    ·exact left h1 h2
    ·obtain rfl:u=v':=Option.some.inj (k3.symm.trans hv')
     have h2:=(hf _ (gMem k4)).2
     have hin:memN i (wrOf pre)=true:=memN_iff.2 (List.mem_filterMap.2 ⟨p,gMem k1,k2⟩)
     rcases hwhy with (hw1|hw1)|hw1
     ·rw [hin] at hw1;cases hw1
     ·unfold ownsAt at hw1
      split at hw1
      ·rename_i d1 hd1
       obtain ⟨q1,q2⟩:=h.own i d1 hd1 hw1
       rw [hfi] at q1
       cases q1
       exact left q2 hd1
      ·cases hw1
     ·rcases hw1 with ⟨y,o,rfl,hyt⟩|⟨y,rfl,hyt⟩|⟨cc,ee,rfl,hfl⟩|hfl
      ·obtain ⟨ds,hds⟩:=(k5:∃ c,fr0[y]?=some (.obj c))
       have hob:=hC.refOwn hR (S':=S.drop cs) (.inr rfl) hds
       simp only at h2
       rw [sg_loc] at h2
       rw [h2]
       have ho:S.own (S.loc (y+2))=some (.slot y,0):=by
        have:=hob.1
        rw [hob.2] at this
        exact (drop_some this).1
       have ho':S'.own (S'.loc (y+2))=some (.slot y,0):=by
        rw [hlc hyt,hold _ (hF.wf _ _ ho)]
        have:=hob.1
        rw [hob.2] at this
        exact this
       rw [← hlc hyt]
       exact ⟨.ref ho',fun z hz=>by cases hz;exact ⟨ds,(hown _ _ hds rfl).1⟩⟩
      ·rcases (k5:AlOk fr0 cs y) with ⟨rfl,e,he⟩|⟨d',g2,g3⟩
       ·rw [h00,hcs] at he;cases he
       ·obtain ⟨q1,q2⟩:=hown y d' g2 g3
        have hg2:=g2
        rw [h00] at hg2
        obtain ⟨v2,hv2,_⟩:=hF.at hg2
        simp only at h2
        rw [tmp_eval hv2] at h2
        subst h2
        refine ⟨q2.trans hv2,d',q1,g3,fun e => ?_⟩
        subst e
        obtain ⟨q3,_⟩:=h.own _ _ g2 g3
        rw [hfi] at q3
        cases q3
        cases g3
      ·have hg:=(Rep.fz (p:=.dead) h2:Rep _ w _ _ (.gd cc ee)).gd_inv
       exact ⟨.fz (.gd (fun hc=>flat_fz (.fz (p:=.dead) (hg.1 hc)) hfl) hg.2),fun z hz=>by cases hz⟩
      ·have hfz:∀ {lim:Nat→Option Nat},Fz lim w u d:=fun {lim}=>by
        cases d with
        |al y=>exact Bool.noConfusion (show false=true from hfl)
        |ref y o=>exact Bool.noConfusion (show false=true from hfl)
        |obj y=>exact Bool.noConfusion (show false=true from hfl)
        |alc y o=>exact Bool.noConfusion (show false=true from hfl)
        |el y o sz k j=>exact Bool.noConfusion (show false=true from hfl)
        |es y sz k j=>exact Bool.noConfusion (show false=true from hfl)
        |nsl sz n z=>exact Bool.noConfusion (show false=true from hfl)
        |nagg cs' off sz n z=>exact Bool.noConfusion (show false=true from hfl)
        |_=>exact flat_fz (Rep.fz (p:=.dead) h2) hfl
       have hmen:∀ z,¬ Men z d:=fun z hz=>((hfz (lim:=S.lim)).men hz).elim
       refine SlotRep.of (.fz hfz) fun z hz=>(hmen z hz).elim
theorem hand_rw {S S':Sig} {u:Nat} {w w':World} (hw:WF S w) (ht:Trans (S.hand u) w S' w'):Rw S u w w':=by
 refine ⟨ht.os,ht.tape,ht.output,ht.size,fun b hb hn=>(hand_old ht hb hn).1,fun b q l hs hq => ?_⟩
 exact (ht.held b ⟨2,q.path⟩ l (hw b _ hs) (by simp [Sig.hand,hs,hq])).1
theorem QC.rw_cell {S:Sig} {l:List Oper} {c cs:Nat} {a0:Act} {frF fr0:List D} {w0 w w':World} (h:QC S l c cs a0 frF fr0 w0) (hx:Rw S cs w w') {u off:Nat} {ds:List D} {v:Value} (hd:fr0[u]?=some (.obj ds)) (hc:w.cell? ⟨S.loc (u+2),off,none⟩=some v):w'.cell? ⟨S.loc (u+2),off,none⟩=some v:=by
 have huc:u ≠ cs:=fun e=>by subst e;have:=h.at_cs hd;cases this
 have hob:=(h.refOwn (Rw.ext (Ext.refl w0)) (.inl rfl) hd).1
 rw [World.cell?_of_block (a:=⟨S.loc (u+2),off,none⟩) (w:=w) (hx.same _ (cell_lt hc) (by rw [hob];simp [mine,Place.slot];omega))]
 exact hc
theorem writeQ_sound {S:Sig} {ci cs n0:Nat} {a0:Act} {frF fr0 fr:List D} {l pre:List Oper} {o:Oper} {w0:World} {d0:D} {Q:Exit→Act→World→Prop} {K:D→Prop} (hC:QC S l ci cs a0 frF fr0 w0) (hpre:∀ (k:Nat) (p:Oper),pre[k]?=some p→l[k]?=some p) (ho:l[pre.length]?=some o) (hic:pre.length=ci)
  (hd0:∀ m sz rows,d0=.sl (m+1) sz rows→frF[cs]?=some d0) (hs:writeQ P cs d0 fr0 fr o K):∃ d,K d∧NmOk fr0 cs d∧∀ (fs:List (World→Prop)) (a:Act),QInv S l.toArray ci cs n0 a0 fr0 pre fs a fr→∀ w,Ext w0 w→(∀ e ∈ o.after.toList,Region.binds .any e=true→(fs.getD e.on (fun _=>True)) w)→StepG P l.toArray Q (Rw S cs) o (factSpec (S.drop cs) n0 a0 d) a w:=by
 have hops:∀ x ∈ o.op.operands.toList,∀ t,x=.tmp t→t ∈ o.looksAt l.toArray:=fun x hx t e=>by
  subst e
  exact List.mem_append_left _ (List.mem_filterMap.2 ⟨.tmp t,hx,rfl⟩)
 unfold writeQ at hs
 split at hs
 ·exact hs.elim
 ·rename_i hg
  split at hs
  ·rename_i c hop
   split at hs
   ·rename_i f hcal
    split at hs
    ·rename_i t xs hargs
     split at hs
     ·rename_i hroot
      split at hs
      ·rename_i m sz rows
       have hdF:=hd0 m sz rows rfl
       obtain ⟨d,out,⟨d1,ds',rfl,hl,hp,hsem⟩,hput⟩:=hs.h
       split at hput
       ·rename_i hq
        rw [force_eq] at hput
        refine ⟨_,hput,frzQ_nm hq,fun fs a hI w hx hf => ?_⟩
        have hopr:∀ y,y ∈ Operand.tmp t::xs→∀ t',y=.tmp t'→t' ∈ o.looksAt l.toArray:=fun y hy=>hops y (by
         rw [hop]
         simp only [Op.operands,Call.operands]
         have:y ∈ c.args.toList:=by rw [hargs];exact hy
         simp
         right
         simpa using this)
        have hev:a.eval (.tmp t)=a0.eval (.tmp cs):=by
         simp only [Bool.or_eq_true] at hroot
         rcases hroot with hb|hb
         ·rw [Nat.eq_of_beq_eq_true hb]
          simp [Act.eval,Array.getD_eq_getD_getElem?,hI.keep]
         ·split at hb
          ·rename_i u hd
           obtain rfl:=Nat.eq_of_beq_eq_true hb
           exact hI.evAl hC hpre ho (hopr _ (by simp) t rfl) hd hf
          ·cases hb
        have hw:=(PT.ext' hC.hF.wf hx).wf
        have hrep:Rep S w (.slot cs) (a.eval (.tmp t)) (.sl (m+1) sz rows):=by
         obtain ⟨v,hv,hsl⟩:=hC.hF.at hdF
         rw [hev,tmp_eval hv]
         exact (PT.ext' hC.hF.wf hx).rep hC.hF.wf hsl.1
        unfold StepG
        rw [if_pos (by unfold Region.wanted;rw [hg])]
        refine fun K' hK=>.inl ?_
        obtain ⟨dst,op,ty,pos,after,guard⟩:=o
        obtain ⟨callee,args,argTypes⟩:=c
        simp only at hop hcal hargs
        subst hop;subst hcal
        obtain rfl:args=(.tmp t::xs).toArray:=Array.ext' hargs
        refine own_call0 (ρ:=evalQ fr0 fr) hw rfl hrep (fun y hy=>hI.eval hC hpre ho (Rw.ext hx) (.inl rfl) (fun e he hb hlt=>absurd hic (late_dep hC.hlate (by simpa using ho) he hb hlt).2) hf (hopr y (by simp [hy]))) hl hp hsem fun v S' w' hw' ht hrep' hout => ?_
        have hrw:=hand_rw hw ht
        refine hK (0,0,v) w' ⟨drop_wf (hrw.wf hw),?_⟩ hrw
        have hz:=unhand hw ht hrep' hq
        have hn:=frzQ_noal hq
        have hn':=frzQ_noref hq
        generalize frzQ d=e at hz hn hn' ⊢
        cases e with
        |al u=>exact absurd rfl (hn u)
        |ref u off=>exact absurd rfl (hn' u off)
        |obj x=>cases hz
        |alc u off=>cases hz
        |el u off sz k j=>cases hz
        |nsl sz n z=>cases hz
        |nagg cs' off sz n z=>cases hz
        |_=>exact hz
       ·exact hput.elim
      ·exact hs.elim
     ·exact hs.elim
    ·exact hs.elim
   ·exact hs.elim
  ·exact hs.elim
theorem vcQ_sound (hT:TOk P T Z) {S:Sig} {ci cs n0:Nat} {a0:Act} {frF fr0:List D} {l:List Oper} {w0:World} {d0:D} {Q:Exit→Act→World→Prop} {K:List D→Prop} (hC:QC S l ci cs a0 frF fr0 w0) (hd0:∀ m sz rows,d0=.sl (m+1) sz rows→frF[cs]?=some d0)
  (hn0:n0≤w0.heap.size) {L:List Oper} (hQ:∀ fr fs a w,K fr→Rw S cs w0 w→QInv S l.toArray ci cs n0 a0 fr0 L fs a fr→(∀ f ∈ fs,f w)→Q .normal a w):
  ∀ (r pre:List Oper) (fr:List D),pre++r=L→(∀ (k:Nat) (p:Oper),(pre++r)[k]?=some p→l[k]?=some p)→vcQ P T Z l ci cs d0 fr0 pre.length r fr K→∃ ss,∀ (fs:List (World→Prop)) (a:Act),QInv S l.toArray ci cs n0 a0 fr0 pre fs a fr→ParW P l.toArray Q (ways S l.toArray ci cs) w0 pre.length r ss fs a
 | [],pre,fr,hL,_,hs=>⟨[],fun fs a hI=>fun w hx hf=>by
   rw [List.append_nil] at hL
   subst hL
   exact hQ fr fs a w hs hx hI hf⟩
 |o::r,pre,fr,hL,hpre,hs=>by
  have hpre':∀ (k:Nat) (p:Oper),pre[k]?=some p→l[k]?=some p:=fun k p hk=>hpre k p (by rw [List.getElem?_append_left (gLt hk)];exact hk)
  have ho:l[pre.length]?=some o:=hpre _ o (by simp)
  have fin:∀ {d:D},(match o.dst with
   |none=>vcQ P T Z l ci cs d0 fr0 (pre.length+1) r fr K
   |some t=>match fr[t]? with
    |some d1=>match d1.owns || Nat.beq t cs with
     |false=>forceL (fr.set t d) fun fr=>vcQ P T Z l ci cs d0 fr0 (pre.length+1) r fr K
     |true=>False
    |none=>False)→NmOk fr0 cs d→
    (∀ (fs:List (World→Prop)) (a:Act),QInv S l.toArray ci cs n0 a0 fr0 pre fs a fr→∀ w,(ways S l.toArray ci cs).sees pre.length w0 w→(∀ e ∈ o.after.toList,Region.binds .any e=true→(fs.getD e.on (fun _=>True)) w)→StepG P l.toArray Q ((ways S l.toArray ci cs).does pre.length) o (factSpec (sg S l.toArray ci cs pre.length) n0 a0 d) a w)→
    ∃ ss,∀ (fs:List (World→Prop)) (a:Act),QInv S l.toArray ci cs n0 a0 fr0 pre fs a fr→ParW P l.toArray Q (ways S l.toArray ci cs) w0 pre.length (o::r) ss fs a:=by
   intro d hK hal hstep
   have rest:∀ {fr':List D},((o.dst=none∧fr'=fr)∨∃ t d0,o.dst=some t∧fr[t]?=some d0∧d0.owns=false∧t ≠ cs∧fr'=fr.set t d)→vcQ P T Z l ci cs d0 fr0 (pre.length+1) r fr' K→∃ ss,∀ (fs:List (World→Prop)) (a:Act),QInv S l.toArray ci cs n0 a0 fr0 pre fs a fr→ParW P l.toArray Q (ways S l.toArray ci cs) w0 pre.length (o::r) ss fs a:=by
    intro fr' hfr hv
    obtain ⟨ss,hss⟩:=vcQ_sound hT hC hd0 hn0 hQ r (pre ++ [o]) fr' (by simpa using hL) (fun k p hk=>hpre k p (by simpa using hk)) (by simpa using hv)
    refine ⟨factSpec (sg S l.toArray ci cs pre.length) n0 a0 d::ss,fun fs a hI=>⟨fun w hx hf=>hstep fs a hI w hx hf,fun hlate u w w' hx hf => ?_,fun u => ?_⟩⟩
    ·have e:sg S l.toArray ci cs pre.length=S:=by
      unfold sg
      have hl:lateOf l.toArray ci pre.length=false:=hlate
      rw [hl]
      rfl
     simp only [factSpec] at hf ⊢
     rw [e] at hf ⊢
     have hx':Rw S cs w w':=hx
     refine ⟨hx'.wf hf.1,?_⟩
     have h2:=hf.2
     cases d with
     |al u=>exact h2
     |ref u off=>exact h2
     |obj x=>
      obtain ⟨b,e,zc,g1,g2,g3,g4,g5⟩:=h2
      exact ⟨b,e,zc,g1,g2,g3,(hx'.same b (Array.getElem?_eq_some_iff.1 g4).1 (by rw [g3];rfl)).trans g4,g5⟩
     |alc y off=>
      obtain ⟨ds,hds⟩:=(hal:∃ c,fr0[y]?=some (.obj c))
      exact hC.rw_cell hx' hds h2
     |el y off sz k j=>
      obtain ⟨ds,hds⟩:=(hal:∃ c,fr0[y]?=some (.obj c))
      obtain ⟨s,h3,h4⟩:=h2
      exact ⟨s,hC.rw_cell hx' hds h3,h4⟩
     |nsl sz n z=>exact NewS.keep (fun b hb hn=>hx'.same b hb (by rw [hn];rfl)) h2
     |nagg cs' off sz n z=>exact NewA.keep (fun b hb hn=>hx'.same b hb (by rw [hn];rfl)) (fun h=>h.trans (hx'.to (.inl rfl))) h2
     |_=>exact h2.trans (hx'.to (.inl rfl))
    ·have:=hss _ _ (hI.step (v:=u.2.2) hal hfr)
     rw [List.length_append] at this
     exact this
   split at hK
   ·rename_i hn
    exact rest (.inl ⟨hn,rfl⟩) hK
   ·rename_i t ht
    split at hK
    ·rename_i d1 h0
     split at hK
     ·rename_i hd1
      simp only [Bool.or_eq_false_iff] at hd1
      rw [forceL_eq] at hK
      exact rest (.inr ⟨t,d1,ht,h0,hd1.1,fun e=>by subst e;simp at hd1,rfl⟩) hK
     ·exact hK.elim
    ·exact hK.elim
  unfold vcQ at hs
  simp only at hs
  split at hs
  ·rename_i hic
   have hne:pre.length ≠ ci:=fun e=>by rw [e] at hic;simp at hic
   obtain ⟨d,hK,hal,hstep⟩:=stepQ_sound hT hC hpre' ho (Q:=Q) hn0 hs
   refine fin hK hal fun fs a hI w hx hf => ?_
   have e1:(ways S l.toArray ci cs).sees pre.length=Rw S cs:=if_neg hne
   have e2:(ways S l.toArray ci cs).does pre.length=Ext:=if_neg hne
   rw [e1] at hx
   rw [e2]
   exact hstep fs a hI w hx hf
  ·rename_i hic
   have he:=Nat.eq_of_beq_eq_true hic
   obtain ⟨d,hK,hal,hstep⟩:=writeQ_sound hC hpre' ho he hd0 (Q:=Q) hs
   refine fin hK hal fun fs a hI w hx hf => ?_
   have e1:(ways S l.toArray ci cs).sees pre.length=Ext:=if_pos he
   have e2:(ways S l.toArray ci cs).does pre.length=Rw S cs:=if_pos he
   have e3:sg S l.toArray ci cs pre.length=S.drop cs:=by
    unfold sg lateOf
    rw [he]
    simp
   rw [e1] at hx
   rw [e2,e3]
   exact hstep fs a hI w hx hf
end
end Go.Proofs.YtnlbekongmkmjaaGreatDoor
